/- Rows in memory of their own, full or grown. -/
import Derived.Test.YtopkfjiipdjbmaaGreatDoorLibA
import Derived.Test.YtopkfjiipdjbmaaGreatDoorAbD
import Derived.Test.YtopkfjiipdjbmaaGreatDoorLibR
import Derived.Test.YtopkfjiipdjbmaaGreatDoorLibI
set_option linter.unusedVariables false
set_option linter.unusedSimpArgs false
set_option maxRecDepth 100000
set_option maxHeartbeats 4000000
noncomputable section
namespace Go.Proofs.YtopkfjiipdjbmaaGreatDoor.code
open Go.Ab
def bys (l:List Int):List Value:=l.map (Value.int .u8)
theorem ZR (l:List Int):(bys l).length=l.length:=Nn ..
theorem Qb4 (l m:List Int):bys (l++m)=bys l++bys m:=N6 ..
theorem Qb5 (l:List Int):(bys l).all (·.oneCell')=true:=by
 rw[Li];intro v aa;obtain⟨z,_,rfl⟩:=N4.1 aa;rfl
def inB (v:Value)(id:Nat):Prop:=∃o n c,v=.slice (some ⟨id,o,none⟩) n c
def Gx (size:Nat)(e:TypeId)(H0 H:Qa)(v:Value)(n:Nat)(cs:List Value):Prop:=(v=.slice none 0 0∧n=0∧cs=[])∨∃b cap,v=.S b n cap∧H0.next<=b∧H.get b=some (.cells cs e false)∧cs.length=n * size∧(cap=n∨cap=UNK+size∧0<n)
theorem Gx.ext {size:Nat}{e:TypeId}{H0 H H':Qa}{v:Value}{n:Nat}{cs:List Value}(h:Gx size e H0 H v n cs)(ad:∀id,inB v id->H'.get id=H.get id):Gx size e H0 H' v n cs:=by
 rcases h with h | ⟨b,c,rfl,aa,ab,ac⟩
 ·exact .inl h
 ·exact .inr ⟨b,c,rfl,aa,by rw[ad b ⟨_,_,_,rfl⟩];exact ab,ac⟩
theorem Gx.go {size:Nat}{e:TypeId}{H0 H H':Qa}{v:Value}{n:Nat}{cs:List Value}(h:Gx size e H0 H v n cs)(ad:H.Wf)(hx:Ext H H'):Gx size e H0 H' v n cs:=by
 rcases h with h | ⟨b,c,rfl,ab,aa,ac⟩
 ·exact .inl h
 ·exact .inr ⟨b,c,rfl,ab,by rw[hx.get b (ad.lt aa)];exact aa,ac⟩
theorem Gx.low {size:Nat}{e:TypeId}{H0 H:Qa}{v:Value}{n:Nat}{cs:List Value}(h:Gx size e H0 H v n cs)(ac:H.Wf){id:Nat}(hi:inB v id):H0.next<=id∧id<H.next:=by
 obtain⟨o,ae,c,rfl⟩:=hi;rcases h with⟨h,_,_⟩ | ⟨b,c,h,aa,ab,ad⟩
 ·cases h
 ·cases h;exact⟨aa,ac.lt ab⟩
theorem Gx.sl {size:Nat}{e:TypeId}{H0 H:Qa}{v:Value}{n:Nat}{cs:List Value}(h:Gx size e H0 H v n cs):Qaa H v n cs:=by
 rcases h with⟨rfl,rfl,rfl⟩ | ⟨b,c,rfl,ab,aa,ac⟩
 ·exact⟨none,0,rfl,λh=>absurd h (NX 0)⟩
 ·exact⟨_,_,rfl,λ_=>⟨b,e,false,rfl,aa⟩⟩
theorem Gx.slc {size:Nat}{e:TypeId}{H0 H:Qa}{v:Value}{n:Nat}{cs:List Value}(h:Gx size e H0 H v n cs):∃a c,v=.slice a n c:=by
 rcases h with⟨rfl,rfl,rfl⟩ | ⟨b,c,rfl,_⟩
 ·exact⟨_,_,rfl⟩
 ·exact⟨_,_,rfl⟩
theorem Gx.down {size:Nat}{e:TypeId}{H0 H1 H:Qa}{v:Value}{n:Nat}{cs:List Value}(h:Gx size e H1 H v n cs)(hx:H0.next<=H1.next):Gx size e H0 H v n cs:=by
 rcases h with h | ⟨b,c,rfl,ac,aa,ab⟩
 ·exact .inl h
 ·exact .inr ⟨b,c,rfl,by omega,aa,ab⟩
theorem Gx.src {size:Nat}{e:TypeId}{H0 H:Qa}{v:Value}{n:Nat}{cs:List Value}(h:Gx size e H0 H v n cs):YX size v H=some (n,cs):=by
 rcases h with⟨rfl,rfl,rfl⟩ | ⟨b,c,rfl,ac,ab,ad,_⟩
 ·simp[YX]
 ·by_cases aa:n=0
  ·subst aa;have:cs=[]:=N2.1 (by omega);subst this;simp[YX]
  ·rw[KM ab aa (by omega),Lw,LF (by omega)]
structure GK (v v':Value) (H0 H H':Qa):Prop where
 x:Ext H0 H'
 w:H'.Wf
 keep:∀id,id<H.next->¬inB v id->H'.get id=H.get id
 next:H.next<=H'.next
 new:∀id,inB v' id->inB v id∨H.next<=id
theorem Qdk {size:Nat}{e bytes:Nat}{H0 H:Qa}{v x:Value}{n m:Nat}{cs ms:List Value}{k:Value->Qa->Prop}(ao:Gx size e H0 H v n cs)(hx:Ext H0 H)(ab:H.Wf)(ah:YX size x H=some (m,ms))(an:ms.all (·.oneCell')=true)(al:ms.length=m * size)(ad:(n+m) * bytes<=140737488355328)(aq:n+m<=9223372036854775807)
  (h:∀ap H',Gx size e H0 H' ap (n+m) (cs++ms)->GK v ap H0 H H'->k ap H'):Qdv e size bytes v x H k:=by
 have am:=hx.next
 by_cases ag:m=0
 ·subst ag;have aw:ms=[]:=N2.1 (by omega);subst aw;have az:Y7 e size bytes v x H=some (v,H):=by
   unfold Y7;rw[ah];rcases ao with⟨rfl,rfl,rfl⟩ | ⟨b,c,rfl,au,ac,ai,aj⟩
   ·rfl
   ·simp only[BI,N3];rw[Lc];rcases aj with rfl | ⟨rfl,_⟩
    ·first | exact .inl (Lb _) | exact .inl (by omega) | simp
    ·first | exact .inl (by omega) | simp
  unfold Qdv;rw[az,Qs];rw[N9,Na]at h;exact h v H ao ⟨hx,ab,λ_ _ _=>rfl,Lb _,λid hi=>.inl hi⟩
 ·rcases ao with⟨rfl,rfl,rfl⟩ | ⟨b,c,rfl,au,ac,ai,aj⟩
  ·refine Qe2 ah an ag (by rw[LP]at ad;exact ad) (by omega) (h _ _ (.inr ⟨H.next,_,by rw[LP],am,by rw[Qc,Lc rfl,LH],by rw[LH,LP];exact al,.inr ⟨rfl,by omega⟩⟩) ⟨hx.push _,ab.push _,λid ae _=>by rw[Qc,Le (by omega)],by rw[Qd];omega,?_⟩);rintro id ⟨o,ar,c,aa⟩;cases aa;exact .inr (Lb _)
  ·have aA:=ab.lt ac;rcases Nq c UNK with ak | ak
   ·have av:c=n:=by rcases aj with h | h;exact h;omega
    subst av;have e1:(cs.drop 0).take (c * size)++ms=cs++ms:=by rw[Lw,LF (by omega)]
    refine QjJ ah an ag ac (by omega) ad aq ak (by omega) (h _ _ (.inr ⟨H.next,_,rfl,am,by rw[Qc,Lc rfl,e1],by rw[Lh,ai,al,Ry],.inr ⟨rfl,by omega⟩⟩) ⟨hx.push _,ab.push _,λid ae _=>by rw[Qc,Le (by omega)],by rw[Qd];omega,?_⟩);rintro id ⟨o,ar,c,aa⟩;cases aa;exact .inr (Lb _)
   ·refine Qin rfl ah an ag ac (by rw[LP];omega) ad aq ak (h _ _ (.inr ⟨H.next,_,rfl,am,?_,by rw[Lh,ai,al,Ry],.inr ⟨rfl,by omega⟩⟩) ⟨?_,?_,?_,by rw[Qd,QaN];omega,?_⟩)
    ·rw[Qc,QaN,Lc rfl,Lw]
    ·refine⟨by rw[Qd,QaN];omega,λid ae=>?_⟩;rw[Qc,QaN,Le (by omega),Q0,Le (by omega)];exact hx.get id ae
    ·exact(ab.kill b).push _
    ·intro id ae ax;have ay:¬id=b:=λh=>ax ⟨_,_,_,by rw[h]⟩;rw[Qc,QaN,Le (by omega),Q0,Le ay]
    ·rintro id ⟨o,ar,c,aa⟩;cases aa;exact .inr (Lb _)
theorem QEZ {size:Nat}{e bytes:Nat}{H0 H:Qa}{v x:Value}{n m:Nat}{cs ms:List Value}{k:Value->Qa->Prop}(an:Gx size e H0 H v n cs)(al:∃a,v=.slice a n n)(ah:H.Wf)(ag:YX size x H=some (m,ms))(ae:ms.all (·.oneCell')=true)(ac:m≠0)(ad:ms.length=m * size)(aa:(n+m) * bytes<=140737488355328)(am:n+m<=9223372036854775807)(ao:n<UNK)
  (h:∀ab H',Gx size e H H' ab (n+m) (cs++ms)->Ext H H'->H'.Wf->(∃b,ab=.S b (n+m) (UNK+size))->k ab H'):Qdv e size bytes v x H k:=by
 rcases an with⟨rfl,rfl,rfl⟩ | ⟨b,c,rfl,ap,ai,aj,aq⟩
 ·refine Qe2 ag ae ac (by rw[LP]at aa;exact aa) (by omega) (h _ _ (.inr ⟨H.next,_,by rw[LP],Lb _,by rw[Qc,Lc rfl,LH],by rw[LH,LP];exact ad,.inr ⟨rfl,by omega⟩⟩) ((Ext.refl H).push _) (ah.push _) ⟨_,by rw[LP]⟩)
 ·obtain⟨a,ak⟩:=al;cases ak;have e1:(cs.drop 0).take (n * size)++ms=cs++ms:=by rw[Lw,LF (by omega)]
  exact QjJ ag ae ac ai (by omega) aa am ao (by omega) (h _ _ (.inr ⟨H.next,_,rfl,Lb _,by rw[Qc,Lc rfl,e1],by rw[Lh,aj,ad,Ry],.inr ⟨rfl,by omega⟩⟩) ((Ext.refl H).push _) (ah.push _) ⟨_,rfl⟩)
theorem QHA {size:Nat}{e:TypeId}{H0 H:Qa}{v:Value}{n:Nat}{cs:List Value}(h:Gx size e H0 H v n cs)(ah:n<UNK):∃a,Y3 size v none (some (n:Int)) (some (n:Int))=some (.slice a n n)∧Gx size e H0 H (.slice a n n) n cs:=by
 rcases h with⟨rfl,rfl,rfl⟩ | ⟨b,c,rfl,ab,ac,ad,ag⟩
 ·exact⟨none,rfl,.inl ⟨rfl,rfl,rfl⟩⟩
 ·refine⟨some ⟨b,0,none⟩,?_,.inr ⟨b,n,rfl,ab,ac,ad,.inl rfl⟩⟩;unfold Y3;simp only[Br,NB];rcases Nq c UNK with aa | aa
  ·rw[Le (by omega),Lc (by omega),show(n:Int).toNat - (0:Int).toNat=n by omega]
   by_cases ae:n=0
   ·subst ae;rfl
   ·rw[Le (by omega),show 0+(0:Int).toNat * size=0 by simp]
  ·rw[Lc aa,Lc (by omega),show(n:Int).toNat - (0:Int).toNat=n by omega,show 0+(0:Int).toNat * size=0 by simp]
def QHR (n bits:Int):Int:=if Zu bits=false then 0 else IntKind.i64.wrap ((IntKind.u64.wrap (IntKind.u64.wrap n * 2 ^ (min (64 - bits).toNat 64))).fdiv (2 ^ (min (64 - bits).toNat 64)))
theorem Qye (n bits:Int)(H:Qa):Qe prog 304 [.Z n,.Z bits] H λu H'=>u=.Z (QHR n bits)∧H'=H:=by
 refine QvV λac=>?_;simp only[Qni,Qb,simprocAttr];refine(KU bits H).thenW ?_;rintro _ H _ ac ⟨rfl,rfl⟩;simp only[Qb,simprocAttr];cases q:Zu bits with
 | false=>
  simp only[Qb,simprocAttr,QkF];exact .mk (Lb _) ⟨by rw[QHR,Lc q],rfl⟩
 | true=>
  have ad:1<=bits∧bits<=64:=by simpa[Zu] using q
  have e:IntKind.i64.wrap (64 - bits)=64 - bits:=w64 (by unfold I64;omega);have ab:0<=64 - bits:=by omega
  have b1:IntKind.u64.bits=64:=rfl;have aa:IntKind.i64.bits=64:=rfl;simp only[Qb,simprocAttr,e,ab,b1,aa,QkF];exact .mk (Lb _) ⟨by rw[QHR,Le (by simp[q])],rfl⟩
def QBB (n bits:Int):Bool:=Zu bits&&(QkV n bits==n||QHR n bits==n)
theorem Qv5 (n bits:Int)(H:Qa):Qe prog 280 [.Z n,.Z bits] H λu H'=>u=.bool (QBB n bits)∧H'=H:=by
 refine Qts λaa=>?_;have ab:=λH=>KU bits H;have ac:=λH=>QgH n bits H;have ad:=λH=>Qye n bits H;unfold QBB;simp only[QkC,Qb,simprocAttr];refine(ab H).thenW ?_;rintro _ H _ aa ⟨rfl,rfl⟩;cases Zu bits with
 | false=>
  simp only[Qb,simprocAttr,QcU];exact .mk (Lb _) ⟨rfl,rfl⟩
 | true=>
  simp only[Qb,simprocAttr];refine(ac H).thenW ?_;rintro _ H _ aa ⟨rfl,rfl⟩;simp only[Qb,simprocAttr];cases QkV n bits==n with
  | true=>
   simp only[Qb,simprocAttr,QcU];exact .mk (Lb _) ⟨rfl,rfl⟩
  | false=>
   simp only[Qb,simprocAttr];refine(ad H).thenW ?_;rintro _ H _ aa ⟨rfl,rfl⟩;simp only[Qb,simprocAttr,QcU];exact .mk (Lb _) ⟨rfl,rfl⟩
def QBC (n bits:Int):Bool:=Zu bits&&(QkV n bits==n)
theorem Qv6 (n bits:Int)(H:Qa):Qe prog 336 [.Z n,.Z bits] H λu H'=>u=.bool (QBC n bits)∧H'=H:=by
 refine Qtz λaa=>?_;have ab:=λH=>KU bits H;have ac:=λH=>QgH n bits H;unfold QBC;simp only[QkH,Qb,simprocAttr];refine(ab H).thenW ?_;rintro _ H _ aa ⟨rfl,rfl⟩;cases Zu bits with
 | false=>
  simp only[Qb,simprocAttr,Qja];exact .mk (Lb _) ⟨rfl,rfl⟩
 | true=>
  simp only[Qb,simprocAttr];refine(ac H).thenW ?_;rintro _ H _ aa ⟨rfl,rfl⟩;simp only[Qb,simprocAttr,Qja];exact .mk (Lb _) ⟨rfl,rfl⟩
def QBD (n:Int)(i:Nat):Int:=IntKind.u8.wrap ((IntKind.u64.wrap n).fdiv (2 ^ (min (8 * i) 64)))
def QlW (n:Int)(sz:Nat):List Int:=(List.range sz).map (QBD n)
def Qak (n sz:Int):List Int×Int:=if QeP sz=false then([],2) else if QBB n (8 * sz)=false then([],5) else(QlW n sz.toNat,0)
theorem QpN (n sz:Int)(ax:I64 n)(H:Qa):Qe prog 218 [.Z n,.Z sz] H λu H'=>∃v,u=.tuple #[v,.Z (Qak n sz).2]∧Gx 1 5 H H' v (Qak n sz).1.length (bys (Qak n sz).1)∧Ext H H':=by
 refine QvT λac=>?_;unfold Qak;simp only[Qnd,Qb,simprocAttr];refine(QkU sz H).thenW ?_;rintro _ H _ ac ⟨rfl,rfl⟩;cases al:QeP sz with
 | false=>
  simp only[Qb,simprocAttr,LM,QeI];exact .mk (Lb _) ⟨_,rfl,.inl ⟨rfl,rfl,rfl⟩,.refl _⟩
 | true=>
  obtain⟨s,aq,az,ay⟩:∃s:Nat,sz=s∧s<=8∧1<=s:=by
   have:sz=1∨sz=2∨sz=4∨sz=8:=by simpa[QeP,or_assoc] using al
   exact⟨sz.toNat,by omega,by omega,by omega⟩
  subst aq;have av:IntKind.i64.wrap (8 * (s:Int))=8 * (s:Int):=w64 (by unfold I64;omega);simp only[Qb,simprocAttr,L8,av];refine(Qv5 n (8 * (s:Int)) H).thenW ?_;rintro _ H _ ac ⟨rfl,rfl⟩;cases aw:QBB n (8 * (s:Int)) with
  | false=>
   simp only[Qb,simprocAttr,LM,QeI];exact .mk (Lb _) ⟨_,rfl,.inl ⟨rfl,rfl,rfl⟩,.refl _⟩
  | true=>
   simp only[Qb,simprocAttr,L8,LN,reduceCtorEq,LG];refine⟨⟨by omega,by omega,by omega,by omega⟩,?_⟩;refine Qp (λm A' H'=>∃i:Nat,i<=s∧m=s - i∧H'.Wf∧Ext H H'∧H'.get H.next=some (.cells (bys (QlW n i)++List.replicate (s - i) (.int .u8 0)) 5 false)∧A' 0=.Z n∧A' 1=.Z s∧A' 6=.S H.next s s∧A' 18=.Z s∧A' 19=.Z i) s ?_ ?_
   ·refine⟨0,L7 _,by omega,ac.push _,(Ext.refl H).push _,?_,?_,?_,?_,?_,?_⟩
    ·rw[Qc,Lc rfl];have an:XG [Value.int .u8 0].toArray s=List.replicate s (.int .u8 0):=by
      unfold XG;rw[Fv];refine⟨by simp,λb ao=>?_⟩;obtain⟨i,_,rfl⟩:=N4.1 ao;show([Value.int .u8 0].toArray)[i % 1]! = _;rw[Nat.mod_one];rfl
     exact congrArg (λc=>some (Blk.cells c 5 false)) an
    all_goals simp only[Qf,simprocAttr]
    all_goals rfl
   ·rintro m A' H' ⟨i,hi,rfl,au,hx,ab,r0,r1,ad,ah,ai⟩;simp only[Qb,simprocAttr,ah,ai];refine Qg (λaa=>?_) (λaa=>?_)
    ·have aa:i<s:=by have:=Lg aa;omega
     have d1:(0:Int)<=i∧(i:Int)<s:=by omega
     have d3:(i:Int).toNat=i:=by omega
     have ak:IntKind.i64.wrap ((i:Int)+1)=((i+1:Nat):Int):=by rw[w64 (by unfold I64;omega)];omega
     have aj:IntKind.i64.wrap (8 * (i:Int))=((8 * i:Nat):Int):=by rw[w64 (by unfold I64;omega)];omega
     simp only[Qb,simprocAttr,r0,ad,ai,d1,d3,ak,aj,ab];have ag:(bys (QlW n i)).length=i:=by rw[ZR];simp[QlW]
     have ar:splice (bys (QlW n i)++List.replicate (s - i) (.int .u8 0)) i [.int .u8 (QBD n i)]=bys (QlW n (i+1))++List.replicate (s - (i+1)) (.int .u8 0):=by
      have e1:QlW n (i+1)=QlW n i++[QBD n i]:=by simp[QlW,R0]
      have e2:s - i=(s - (i+1))+1:=by omega
      unfold splice;rw[e1,Qb4,e2,List.replicate_succ,NO (by omega),LF (by omega),B3,ag];have ap:(QlW n i).length=i:=by simp[QlW]
      simp[bys,ap]
     refine⟨by omega,by rw[Lh,ag,List.length_replicate];omega,s - (i+1),by omega,i+1,by omega,rfl,?_,?_,?_,?_,?_,?_,?_,?_⟩
     ·exact au.set ab _
     ·exact hx.set (Lb _) _
     ·have am:min (((8 * i:Nat):Int)).toNat IntKind.u64.bits=min (8 * i) 64:=rfl;rw[Qh,Lc rfl,<- ar];unfold QBD splice;rw[am];rfl
     all_goals simp only[Qf,simprocAttr,r0,r1,ad,ah]
    ·have aa:i=s:=by have:=Ll aa;omega
     subst aa;simp only[Qb,simprocAttr,ad,QeI];rw[BJ,List.replicate_zero,Na]at ab;have ae:(QlW n i).length=i:=by simp[QlW]
     exact .mk hx.next ⟨_,rfl,.inr ⟨H.next,i,by rw[ae],Lb _,ab,by rw[ZR,NH],.inl (by rw[ae])⟩,hx⟩
def Xz (r:Rg):Int:=if WC r=true then r.n % 8 else 0
def GI (r:Rg):Int:=if WC r=true then r.n / 8 else 0
theorem QJ6 {r:Rg}(h:WC r=true):0<=r.n∧r.n<16:=by
 unfold WC Qgw at h;have h:=Lg h;split at h
 ·simp at h;omega
 ·split at h
  ·simp at h;omega
  ·split at h<;>simp at h<;>omega
theorem Qv7 (r:Rg):0<=Xz r∧Xz r<8:=by
 unfold Xz;split<;>omega
theorem Qnv (r:Rg):0<=GI r∧GI r<2:=by
 unfold GI;split
 ·rename_i h;have:=QJ6 h;omega
 ·omega
theorem Qal (r:Rg)(H:Qa):Qe prog 219 [.agg r.cells.toArray] H λu H'=>u=.Z (Xz r)∧∃k,H'=H.up k:=by
 refine QAq λac=>?_;have q:=Gy r;have ab:=@QJ6 r;unfold Xz;obtain⟨v,ev⟩:∃v,WC r=v:=⟨_,rfl⟩;rw[ev]at q ab ⊢;obtain⟨c,n⟩:=r;simp only[Rg.cells]at q;simp only[Rg.cells,Qr9,Qb,simprocAttr];refine(q _).thenW ?_;rintro _ _ aa ae ⟨rfl,k,rfl⟩;simp only[Qd,Qw]at aa;cases v with
 | false=>
  simp only[Qb,simprocAttr,LM,QpG];exact .ext ac (((Ext.refl H).push _).up (by rw[Qd];exact aa)) ⟨by simp,_,rfl⟩
 | true=>
  have ad:=ab rfl;simp only[sxA,sxB,Nat.reduceBEq,Nat.reduceEqDiff,reduceCtorEq,mxA,mxB,Nat.reduceAdd,reduceIte,Nat.reduceLeDiff,splice,L8,QpG];have e:n.tmod 8=n % 8:=BM ad.1;exact⟨by decide,.ext ac (((Ext.refl H).push _).up (by rw[Qd];exact aa)) ⟨by rw[e],_,rfl⟩⟩
theorem Qdo (r:Rg)(H:Qa):Qe prog 282 [.agg r.cells.toArray] H λu H'=>u=.Z (GI r)∧∃k,H'=H.up k:=by
 refine Qx0 λad=>?_;have q:=Gy r;have ac:=@QJ6 r;unfold GI;obtain⟨v,ev⟩:∃v,WC r=v:=⟨_,rfl⟩;rw[ev]at q ac ⊢;obtain⟨c,n⟩:=r;simp only[Rg.cells]at q;simp only[Rg.cells,QpH,Qb,simprocAttr];refine(q _).thenW ?_;rintro _ _ aa ag ⟨rfl,k,rfl⟩;simp only[Qd,Qw]at aa;cases v with
 | false=>
  simp only[Qb,simprocAttr,LM,Qnf];exact .ext ad (((Ext.refl H).push _).up (by rw[Qd];exact aa)) ⟨by simp,_,rfl⟩
 | true=>
  have ab:=ac rfl;simp only[sxA,sxB,Nat.reduceBEq,Nat.reduceEqDiff,reduceCtorEq,mxA,mxB,Nat.reduceAdd,reduceIte,Nat.reduceLeDiff,splice,L8,Qnf];have e:IntKind.i64.wrap (n.tdiv 8)=n / 8:=by
   rw[Int.tdiv_eq_ediv_of_nonneg ab.1];have ae:0<=n∧n<16:=ab;exact w64 (show I64 (n / 8) by unfold I64;omega)
  exact⟨by decide,.ext ad (((Ext.refl H).push _).up (by rw[Qd];exact aa)) ⟨by rw[e],_,rfl⟩⟩
def Qv8 (r:Rg):Bool:=(r.c==1)&&decide (4<=r.n)&&decide (r.n<=7)
def QBE (r:Rg):Bool:=(r.c==2)&&WC r
theorem Qyf (r:Rg)(H:Qa):Qe prog 315 [.agg r.cells.toArray] H λu H'=>u=.bool (Qv8 r)∧∃k,H'=H.up k:=by
 refine QvZ λab=>?_;obtain⟨c,n⟩:=r;unfold Qv8;simp only[Rg.cells,Qnl,Qb,simprocAttr];cases h:c==1<;>cases aa:decide (4<=n)<;>simp only[Qb,simprocAttr,h,aa,Qty]
 all_goals exact .ext ab ((Ext.refl H).push _) ⟨by simp,_,rfl⟩
theorem QAC (r:Rg)(H:Qa):Qe prog 316 [.agg r.cells.toArray] H λu H'=>u=.bool (QBE r)∧∃k,H'=H.up k:=by
 refine Qx3 λab=>?_;have q:=Gy r;unfold QBE;obtain⟨v,ev⟩:∃v,WC r=v:=⟨_,rfl⟩;rw[ev]at q ⊢;obtain⟨c,n⟩:=r;simp only[Rg.cells]at q;simp only[Rg.cells,QpK,Qb,simprocAttr];cases h:c==2 with
 | false=>
  simp only[Qb,simprocAttr,h,Qnm];exact .ext ab ((Ext.refl H).push _) ⟨rfl,_,rfl⟩
 | true=>
  simp only[Qb,simprocAttr,h];refine(q _).thenW ?_;rintro _ _ aa ac ⟨rfl,k,rfl⟩;simp only[Qd,Qw]at aa;simp only[Qb,simprocAttr,Qnm];exact .ext ab (((Ext.refl H).push _).up (by rw[Qd];exact aa)) ⟨rfl,_,rfl⟩
def QR (h m l:Int):Int:=h * 64+m * 8+l
theorem QFe:∀h:Fin 4,∀m:Fin 8,∀l:Fin 8,IntKind.u8.wrap (IntKind.i64.wrap (BitVec.ofInt IntKind.i64.bits (IntKind.i64.wrap (BitVec.ofInt IntKind.i64.bits (IntKind.i64.wrap ((h:Nat) * 2 ^ min ((6:Int)).toNat IntKind.i64.bits)) ||| BitVec.ofInt IntKind.i64.bits (IntKind.i64.wrap ((m:Nat) * 2 ^ min ((3:Int)).toNat IntKind.i64.bits))).toNat) ||| BitVec.ofInt IntKind.i64.bits ((l:Nat):Int)).toNat)=QR (h:Nat) (m:Nat) (l:Nat):=by decide +kernel
theorem Yq (h m l:Int)(aa:0<=h∧h<4)(ac:0<=m∧m<8)(ab:0<=l∧l<8)(H:Qa):Qe prog 281 [.Z h,.Z m,.Z l] H λu H'=>u=.int .u8 (QR h m l)∧H'=H:=by
 refine Qtt λad=>?_;simp only[QkD,sxA,sxB,Nat.reduceBEq,Nat.reduceEqDiff,reduceCtorEq,mxA,mxB,Nat.reduceAdd,reduceIte,Nat.reduceLeDiff,splice,Qsa];have e:=QFe ⟨h.toNat,by omega⟩ ⟨m.toNat,by omega⟩ ⟨l.toNat,by omega⟩;simp only[Bi aa.1,Bi ac.1,Bi ab.1]at e;refine⟨by decide,by decide,.mk (Lb _) ⟨?_,rfl⟩⟩;rw[<- e]
theorem Qex (n sz:Int)(aa:I64 n)(H:Qa):Qe prog 307 [.Z n,.Z sz] H λv H'=>Gx 1 5 H H' v (Qak n sz).1.length (bys (Qak n sz).1)∧Ext H H':=by
 refine QvW λac=>?_;simp only[Qnj,Qb,simprocAttr];refine(QpN n sz aa H).thenW ?_;rintro _ H1 _ ad ⟨v,rfl,ab,hx⟩;simp only[Qb,simprocAttr,Qtv];exact .mk hx.next ⟨ab,hx⟩
def noK:CallF:=λ_ _ _=>none
theorem QFf:CallOk prog noK:=λ_ _ _ _ _ h=>by cases h
def isW (u:Value):Option (Value×Qa)->Bool
 | some (v,_)=>Qch 6 u v
 | none=>false
theorem Qyg {F G k:Nat}{f:FuncId}{args:List Value}{u:Value}(aa:entered prog f=true)(ab:args.all Ab.plain=true)(ae:Ab.plain u=true)(h:isW u ((run prog noK F G k).fn f args (H0 prog))=true)(H:Qa):Qe prog f args H λv H'=>v=u∧H'=H:=by
 unfold isW at h;split at h
 ·rename_i v H1 ad;have ac:=((Qe1 QFf k).fn f args _ _ H1 ad).does aa;have e:u=v:=GP 6 _ _ h;subst e;exact QeB aa (Qxc ac ab ae H)
 ·cases h
def Qam (n:Int):Int:=if n=2 then 1 else if n=4 then 2 else if n=8 then 3 else 0
theorem Qyh (n:Int):0<=Qam n∧Qam n<4:=by unfold Qam;repeat' (split<;>try omega)
theorem QAD:(([1,2,4,8]:List Int).all λn=>isW (.Z (Qam n)) ((run prog noK 100 5 10).fn 309 [.Z n] (H0 prog)))=true:=by kernel_rfl
theorem Qk0 (n:Int)(aa:Wz n=true)(H:Qa):Qe prog 309 [.Z n] H λu H'=>u=.Z (Qam n)∧H'=H:=by
 have ab:n∈([1,2,4,8]:List Int):=by
  unfold Wz at aa;simp only[Nw,L0]at aa;simp only[LK,Ns,NN];omega
 exact Qyg (by kernel_rfl) rfl rfl (Li.1 QAD n ab) H
structure Ld where
 b:List Int
 x:Int
 h:Int
 deriving DecidableEq
def LdV (H0 H:Qa)(w:Ld)(v:Value):Prop:=∃s,v=.agg #[s,.Z w.x,.Z w.h]∧Gx 1 5 H0 H s w.b.length (bys w.b)
theorem Qjn (n sz:Int)(h:sz<=8):(Qak n sz).1.length<=8:=by
 unfold Qak;split
 ·simp
 ·split
  ·simp
  ·simp[QlW];omega
def QgI (mid:Int)(aa:Rg)(f d:Int):Ld:=⟨[QR 0 mid 4,bif isR aa 0 0 then QR 0 4 5 else QR (Qam f) (Xz aa) 5]++(Qak d 4).1,GI aa,0⟩
theorem Qk1 (mid:Int)(aa:Rg)(f d:Int)(aI:0<=mid∧mid<8)(aF:isR aa 0 0=false->Wz f=true)(aD:I64 d)(H:Qa):
  Qe prog 308 [.Z mid,.agg aa.cells.toArray,.Z f,.Z d] H λv H'=>LdV H H' (QgI mid aa f d) v∧Ext H H':=by
 refine Qse λaM=>?_;have aq:=Qv7 aa;have aK:=Qyh f;have ak:=Qal aa;have al:=Qdo aa;have aX:=Qjn d 4 (by decide);have aE:(aa.c==0&&aa.n==0)=isR aa 0 0:=rfl;have az:QR 0 4 5=37:=rfl;obtain⟨w,ab⟩:∃w,w=QgI mid aa f d:=⟨_,rfl⟩;rw[<- ab];unfold QgI at ab;obtain⟨lo,ao⟩:∃lo,Xz aa=lo:=⟨_,rfl⟩;obtain⟨hi,an⟩:∃hi,GI aa=hi:=⟨_,rfl⟩;rw[ao]at ak aq ab;rw[an]at al ab;clear ao an;obtain⟨c,n⟩:=aa;simp only[Rg.cells]at ak al;simp only[Rg.cells,Qi4,Qb,simprocAttr];generalize ac:Qa.push (Qa.push H _) _=H1;have aw:Ext H H1:=by rw[<- ac];exact((Ext.refl H).push _).push _
 have aN:H1.Wf:=by rw[<- ac];exact(aM.push _).push _
 have ag:H1.get H.next=some (.cells [.Z c,.Z n] 68 false):=by rw[<- ac,Qc,Le (by rw[Qd];omega),Qc,Lc rfl]
 have g1:H1.get (H.next+1)=some (.cells [.slice none 0 0,.Z 0,.Z 0] 210 false):=by rw[<- ac,Qc,Lc (by rw[Qd])]
 have aW:H1.next=H.next+2:=by rw[<- ac];rfl
 clear ac;refine(Yq 0 4 5 (by decide) (by decide) (by decide) H1).thenW ?_;rintro _ H1 _ _ ⟨rfl,rfl⟩
 -- the end,of any byte of SIB
 have ap:∀ (sib:Int) (A:Env) (H2:Qa),Ext H1 H2->H2.Wf->w=⟨[QR 0 mid 4,sib]++(Qak d 4).1,hi,0⟩->A 0=.Z mid->A 3=.Z d->A 5=.P H.next->A 8=.P (H.next+1)->A 9=.int .u8 sib->
   Qk prog (.seq (.ops [Om 20 (t 0),Ow 21 (.call 281 [(Ci 0),(t 20),(Ci 4)]),Om 22 (t 9),Ow 23 (.bslice 5 1 2 [.int .u8 0,.int .u8 0] [(0,(t 21)),(1,(t 22))]),Om 24 (t 3),Ow 25 (.call 307 [(t 24),(Ci 4)]),Ow 26 (.app 5 1 1 (t 23) (t 25)),Om 10 (t 26)]) (.seq (.ops [Om 27 (t 10),Ow 28 (.ld true 2 (t 5)),Ow 29 (.call 282 [(t 28)]),Ow 30 (.build [.slice none 0 0,.Z 0,.Z 0] [(0,1,(t 27)),(1,1,(t 29))]),Ov (.st 3 (t 8) (t 30))]) .ret)) ⟨Rt prog Tryz.f308 H λv H'=>LdV H H' w v∧Ext H H',Xi⟩ (Rt prog Tryz.f308 H λv H'=>LdV H H' w v∧Ext H H') A H2:=by
  intro sib A H2 ae aO e r0 r3 am r8 aA;simp only[Qb,simprocAttr,r0,r3,am,r8,aA];refine(Yq 0 mid 4 (by decide) aI (by decide) H2).thenW ?_;rintro _ H2 _ _ ⟨rfl,rfl⟩;simp only[Qb,simprocAttr,r0,r3,am,r8,aA];have aP:=(Ext.refl H2).push (.cells [.int .u8 (QR 0 mid 4),.int .u8 sib] 5 false);have ai:=aO.push (.cells [.int .u8 (QR 0 mid 4),.int .u8 sib] 5 false);have aJ:Gx 1 5 H2 (H2.push (.cells [.int .u8 (QR 0 mid 4),.int .u8 sib] 5 false)) (.S H2.next 2 2) 2 (bys [QR 0 mid 4,sib]):=.inr ⟨_,_,rfl,Lb _,by rw[Qc,Lc rfl];rfl,rfl,.inl rfl⟩;generalize H2.push _=H3 at *;refine(Qex d 4 aD H3).thenW ?_;rintro aZ H4 _ av ⟨aL,ax⟩;simp only[Qb,simprocAttr];refine Qdk (aJ.go ai ax) (aP.trans ax) av aL.src (Qb5 _) (by rw[ZR,NH]) (by omega) (by omega) ?_;intro ba H5 ah ad;have aS:H5.get H.next=some (.cells [.Z c,.Z n] 68 false):=by rw[(ae.trans ad.x).get _ (by omega)];exact ag
  simp only[Qb,simprocAttr,am,aS];refine(al H5).thenW ?_;rintro _ _ au aY ⟨rfl,k,rfl⟩;simp only[Qw]at au;have aQ:=(ae.trans ad.x).up au;have k1:H5.get (H.next+1)=some (.cells [.slice none 0 0,.Z 0,.Z 0] 210 false):=by rw[(ae.trans ad.x).get _ (by omega)];exact g1
  obtain⟨a5,aB,rfl⟩:=ah.slc;simp only[Qb,simprocAttr,r8,k1,Qqi];have aR:=aw.trans aQ;have ay:=aR.set (i:=H.next+1) (by omega) (.cells [.slice a5 (2+(Qak d 4).1.length) aB,.Z hi,.Z 0] 210 false);refine .mk ay.next ⟨⟨_,by rw[e],?_⟩,ay⟩;have aH:w.b.length=2+(Qak d 4).1.length:=by rw[e];simp only[Lh,Lo,L9]
  have aC:bys w.b=bys [QR 0 mid 4,sib]++bys (Qak d 4).1:=by rw[e,Qb4]
  have aT:=aw.next;have aU:=ae.next;rw[aH,aC];refine(ah.down (H0:=H) (by omega)).ext λid aG=>?_;have aV:=ah.low ad.w aG;rw[Qh,Le (by omega),Xo]
 simp only[Qb,simprocAttr,ag,QE,Lq,aE];cases aj:isR ⟨c,n⟩ 0 0 with
 | true=>
  rw[aj,Lq]at ab;simp only[L8,Qll,Qrg];refine ap 37 _ H1 (.refl _) aN ?_ ?_ ?_ ?_ ?_ ?_
  ·rw[ab,az]
  all_goals simp only[Qf,simprocAttr,az]
 | false=>
  rw[aj,Ls]at ab;simp only[LM,QA3,Qb,simprocAttr];refine⟨by omega,?_⟩;refine(Qk0 f (aF aj) H1).thenW ?_;rintro _ H1 _ _ ⟨rfl,rfl⟩;simp only[Qb,simprocAttr,ag];refine⟨λ_ _=>rfl,by simp[Qj,Ab.plain],?_⟩;refine(ak H1).thenW ?_;rintro _ _ ar ai ⟨rfl,k,rfl⟩;simp only[Qw]at ar;simp only[Qb,simprocAttr];refine(Yq (Qam f) lo 5 aK aq (by decide) _).thenW ?_;rintro _ _ _ av ⟨rfl,rfl⟩;simp only[Qcj,KZ,Gi,QjH,QA4];refine ap _ _ (H1.up k) ((Ext.refl H1).up ar) ai ab ?_ ?_ ?_ ?_ ?_
  all_goals simp only[Qf,simprocAttr]
def QJ7 (pre:Int):List Int:=(if pre % 2=1 then[102] else[])++((if pre / 2 % 2=1 then[242] else[])++(if pre / 4 % 2=1 then[243] else[]))
def QfZ (pre aa:Int):List Int:=QJ7 pre++(if 0<=aa then[64+aa] else[])
def QLp:Option (Value×Qa)->Nat
 | some (.tuple xs,_)=>match xs.toList with | .slice (some a) _ _::_=>a.block | _=>0
 | _=>0
def QBF (bs:List Int)(e:Int):Value:=.tuple #[bif bs.isEmpty then .slice none 0 0 else .S prog.globals.size bs.length (UNK+1),.Z e]
def QBG (r:Option (Value×Qa))(bs:List Int):List Row:=bif bs.isEmpty then[] else[⟨QLp r,bys bs,5,false⟩]
def QFg (f:FuncId)(args:List Value):Option (Value×Qa):=(run prog noK 2000 5 20).fn f args (Xs prog.globals.size [])
theorem Qv9 {f:FuncId}{args:List Value}{bs:List Int}{e:Int}(ad:entered prog f=true)(ag:args.all Xq=true)(h:Qpu prog.globals.size (QBF bs e) (QBG (QFg f args) bs) (QFg f args)=true)(H:Qa):Qe prog f args H λu H'=>∃v,u=.tuple #[v,.Z e]∧Gx 1 5 H H' v bs.length (bys bs)∧Ext H H':=by
 have ac:=Qxb QFf (tabs:=[]) ad ag rfl h H rfl;intro ae;cases aa:bs.isEmpty with
 | true=>
  have ah:bs=[]:=DF.1 aa;subst ah;exact⟨_,_,.inl ⟨ad,ac⟩,Lb _,ae,.slice none 0 0,rfl,.inl ⟨rfl,rfl,rfl⟩,.refl _⟩
 | false=>
  have hx:Ext H (H.push (.cells (bys bs) 5 false)):=(Ext.refl H).push _;refine⟨.tuple #[.S H.next bs.length (UNK+1),.Z e],H.push (.cells (bys bs) 5 false),.inl ⟨ad,?_⟩,hx.next,ae.push _,_,rfl,.inr ⟨_,_,rfl,Lb _,by rw[Qc,Lc rfl],by rw[ZR,NH],.inr ⟨rfl,by cases bs with | nil=>cases aa | cons=>simp⟩⟩,hx⟩
  by_cases aj:prog.globals.size<=H.next
  ·have e1:shV prog.globals.size (H.next - prog.globals.size) 6 (QBF bs e)=.tuple #[.S H.next bs.length (UNK+1),.Z e]:=by
    have ab:shN prog.globals.size (H.next - prog.globals.size) prog.globals.size=H.next:=by
     unfold shN;have:Nat.blt prog.globals.size prog.globals.size=false:=by
      cases ai:Nat.blt prog.globals.size prog.globals.size with
      | false=>rfl
      | true=>rw[B5]at ai;omega
     rw[this,Ls];omega
    unfold QBF;rw[aa,Ls];show Value.tuple #[.slice (some ⟨shN prog.globals.size (H.next - prog.globals.size) prog.globals.size,0,none⟩) bs.length (UNK+1),.Z e]=_;rw[ab]
   have e2:Qp1 prog.globals.size (QBG (QFg f args) bs) H=H.push (.cells (bys bs) 5 false):=by
    have e3:(bys bs).map (shV prog.globals.size (H.next - prog.globals.size) 6)=bys bs:=by
     unfold bys;rw[Ht];rfl
    unfold QBG;rw[aa,Ls];show H.push (.cells ((bys bs).map (shV prog.globals.size (H.next - prog.globals.size) 6)) 5 false)=_;rw[e3]
   rw[e1,e2]at ac;exact ac
  ·intro ρ w args' ab _;exfalso;obtain⟨i,hi,_⟩:=ab.glob H.next (by omega);rw[ab.none_next]at hi;cases hi
def Qwa:List (Int×Int):=([0,1,2,3,4,5]:List Int).flatMap λp=>((List.range 17).map fun(k:Nat)=>(p,(k:Int) - 1))
theorem QFh:(Qwa.all λp=>Qpu prog.globals.size (QBF (QfZ p.1 p.2) 0) (QBG (QFg 290 [.Z p.1,.Z p.2]) (QfZ p.1 p.2)) (QFg 290 [.Z p.1,.Z p.2]))=true:=by kernel_rfl
theorem QDb (pre aa:Int)(ac:0<=pre∧pre<=5)(ad:-1<=aa∧aa<=15)(H:Qa):Qe prog 290 [.Z pre,.Z aa] H λu H'=>∃v,u=.tuple #[v,.Z 0]∧Gx 1 5 H H' v (QfZ pre aa).length (bys (QfZ pre aa))∧Ext H H':=by
 have ab:(pre,aa)∈Qwa:=by
  unfold Qwa;rw[NF];refine⟨pre,?_,N4.2 ⟨(aa+1).toNat,LU.2 (by omega),?_⟩⟩
  ·simp only[LK,Ns,NN];omega
  ·have:((aa+1).toNat:Int) - 1=aa:=by omega
   rw[this]
 exact Qv9 (by kernel_rfl) rfl (Li.1 QFh _ ab) H
def QIJ (n:Int)(p:Int×Int):Int:=IntKind.i64.wrap (BitVec.ofInt IntKind.i64.bits (IntKind.i64.wrap (n * 2 ^ (min p.2.toNat IntKind.i64.bits))) ||| BitVec.ofInt IntKind.i64.bits p.1).toNat
def Qsv (aa:List (Int×Int)):Int:=aa.foldl QIJ 0
def prs (aa:List (Int×Int)):List Value:=aa.flatMap λp=>[.Z p.1,.Z p.2]
theorem QBH:∀aa:List (Int×Int),(prs aa).length=aa.length * 2
 | []=>rfl
 | p::aa=>by
  have:=QBH aa;unfold prs at *;rw[Ba,Lh,this];simp;omega
theorem QFi:∀ (aa:List (Int×Int)) (i:Nat) (p:Int×Int),aa[i]? = some p->((prs aa).drop (i * 2)).take 2=[.Z p.1,.Z p.2]
 | [],i,p,h=>by simp at h
 | q::aa,0,p,h=>by simp at h;subst h;rfl
 | q::aa,i+1,p,h=>by
  have:=QFi aa i p (by simpa using h);have e:prs (q::aa)=[.Z q.1,.Z q.2]++prs aa:=rfl;rw[e,show(i+1) * 2=2+i * 2 by omega,<- Rc];exact this
theorem QuC (aa:List (Int×Int))(an:∀p∈aa,0<=p.2)(ar:aa.length<=100){b cap:Nat}{e:TypeId}{ro:Bool}(H:Qa)(ad:H.get b=some (.cells (prs aa) e ro)):Qe prog 312 [.S b aa.length cap] H λu H'=>u=.Z (Qsv aa)∧Ext H H':=by
 refine QAs λae=>?_;have am:=ae.lt ad;simp only[Qsf,Qb,simprocAttr,Qr];refine Qp (λm A' H'=>∃i:Nat,i<=aa.length∧m=aa.length - i∧H'.Wf∧Ext H H'∧A' 3=.Z (Qsv (aa.take i))∧A' 6=.S b aa.length cap∧A' 7=.Z aa.length∧A' 8=.Z i) aa.length ?_ ?_
 ·refine⟨0,L7 _,by omega,ae,.refl _,?_,?_,?_,?_⟩
  all_goals simp only[Qf,simprocAttr]
  all_goals rfl
 ·rintro m A' H' ⟨i,hi,rfl,aq,hx,r3,ag,ah,r8⟩;simp only[Qb,simprocAttr,ah,r8];refine Qg (λab=>?_) (λab=>?_)
  ·have ab:i<aa.length:=by have:=Lg ab;omega
   obtain⟨p,ac⟩:∃p,aa[i]? = some p:=⟨_,La ab⟩;have aj:=an p (Ln ac);have d1:(0:Int)<=i∧(i:Int)<aa.length:=by omega
   have d3:(i:Int).toNat=i:=by omega
   have ai:IntKind.i64.wrap ((i:Int)+1)=((i+1:Nat):Int):=by rw[w64 (by unfold I64;omega)];omega
   have al:i * 2+2<=(prs aa).length:=by rw[QBH];omega
   have ak:H'.get b=some (.cells (prs aa) e ro):=by rw[hx.get _ am];exact ad
   have ao:=QFi aa i p ac;have ap:Qsv (aa.take (i+1))=QIJ (Qsv (aa.take i)) p:=by
    unfold Qsv;rw[Nv,ac,List.foldl_append];rfl
   simp only[Qb,simprocAttr,r3,ag,r8,d1,d3,ak,ao,aj];refine⟨al,?_⟩;refine⟨aa.length - (i+1),by omega,i+1,by omega,rfl,?_,((hx.push _).set (by have:=hx.next;omega) _),?_,?_,?_,?_⟩
   ·exact(aq.push _).set (b0:=.cells [.Z 0,.Z 0] 342 false) (by rw[Qc,Lc rfl]) _
   ·rw[ap];simp only[Qf,simprocAttr];rfl
   all_goals simp only[Qf,simprocAttr,ag,ah,r8,ai]
  ·have ab:i=aa.length:=by have:=Ll ab;omega
   subst ab;rw[Nr]at r3;simp only[Qb,simprocAttr,r3,Qx1];exact .mk hx.next ⟨rfl,hx⟩
structure Vx where
 r:Int
 x:Int
 b:Int
 mp:Int
 w:Int
 v:Int
 l:Int
 pre:Int
def Vx.cells (y:Vx):List Value:=[.Z y.r,.Z y.x,.Z y.b,.Z y.mp,.Z y.w,.Z y.v,.Z y.l,.Z y.pre]
structure Vx.Ok (y:Vx):Prop where
 r:0<=y.r∧y.r<2
 x:0<=y.x∧y.x<2
 b:0<=y.b∧y.b<2
 mp:1<=y.mp∧y.mp<4
 w:0<=y.w∧y.w<2
 v:0<=y.v∧y.v<16
 l:0<=y.l∧y.l<2
 pre:y.pre=0∨y.pre=1∨y.pre=2∨y.pre=4
def Qdp (n:Int):Int:=if n=1 then 1 else if n=4 then 2 else if n=2 then 3 else 0
theorem QBI (n:Int):0<=Qdp n∧Qdp n<4:=by unfold Qdp;repeat' (split<;>try omega)
theorem Qnw (n:Int)(H:Qa):Qe prog 313 [.Z n] H λu H'=>u=.Z (Qdp n)∧H'=H:=by
 refine Qtx λaa=>?_;simp only[QkG,Qb,simprocAttr];unfold Qdp
 repeat' (first
  | (refine Qg (λh=>?_) (λh=>?_)<;>(try simp only[L0,LC,Da]at h)<;>simp only[Wu,simprocAttr,h,Qsg,N3,LN])
  | fail)
 all_goals exact .mk (Lb _) ⟨rfl,rfl⟩
def vb2 (y:Vx):Int:=(1 - y.r) * 128+(15 - y.v) * 8+y.l * 4+Qdp y.pre
def vbm (y:Vx):Int:=(1 - y.r) * 128+(1 - y.x) * 64+(1 - y.b) * 32+y.mp
def vbn (y:Vx):Int:=y.w * 128+(15 - y.v) * 8+y.l * 4+Qdp y.pre
def Qf0 (y:Vx):List Int:=[196,vbm y,vbn y]
theorem QHS:∀r:Fin 2,∀v:Fin 16,∀l:Fin 2,∀p:Fin 4,IntKind.u8.wrap (IntKind.i64.wrap (BitVec.ofInt IntKind.i64.bits (Qsv [((r:Nat),1),((v:Nat),4),((l:Nat),1),((p:Nat),2)]) ^^^ BitVec.ofInt IntKind.i64.bits 248).toNat)=(1 - (r:Nat):Int) * 128+(15 - (v:Nat):Int) * 8+(l:Nat) * 4+(p:Nat):=by decide +kernel
theorem QHT:∀r:Fin 2,∀v:Fin 16,∀l:Fin 2,∀p:Fin 4,IntKind.u8.wrap (IntKind.i64.wrap (BitVec.ofInt IntKind.i64.bits (Qsv [((r:Nat),1),((v:Nat),4),((l:Nat),1),((p:Nat),2)]) ^^^ BitVec.ofInt IntKind.i64.bits 120).toNat)=((r:Nat):Int) * 128+(15 - (v:Nat):Int) * 8+(l:Nat) * 4+(p:Nat):=by decide +kernel
theorem QHU:∀r:Fin 2,∀x:Fin 2,∀b:Fin 2,∀m:Fin 4,IntKind.u8.wrap (IntKind.i64.wrap (BitVec.ofInt IntKind.i64.bits (Qsv [((r:Nat),1),((x:Nat),1),((b:Nat),1),((m:Nat),5)]) ^^^ BitVec.ofInt IntKind.i64.bits 224).toNat)=(1 - (r:Nat):Int) * 128+(1 - (x:Nat):Int) * 64+(1 - (b:Nat):Int) * 32+(m:Nat):=by decide +kernel
theorem QJ8 {y:Vx}(h:y.Ok):IntKind.u8.wrap (IntKind.i64.wrap (BitVec.ofInt IntKind.i64.bits (Qsv [(y.r,1),(y.v,4),(y.l,1),(Qdp y.pre,2)]) ^^^ BitVec.ofInt IntKind.i64.bits 248).toNat)=vb2 y:=by
 have ab:=QBI y.pre;have ac:=h.r;have ad:=h.v;have aa:=h.l;have e:=QHS ⟨y.r.toNat,by omega⟩ ⟨y.v.toNat,by omega⟩ ⟨y.l.toNat,by omega⟩ ⟨(Qdp y.pre).toNat,by omega⟩;simp only[Bi ac.1,Bi ad.1,Bi aa.1,Bi ab.1]at e;exact e
theorem QJ9 {y:Vx}(h:y.Ok):IntKind.u8.wrap (IntKind.i64.wrap (BitVec.ofInt IntKind.i64.bits (Qsv [(y.w,1),(y.v,4),(y.l,1),(Qdp y.pre,2)]) ^^^ BitVec.ofInt IntKind.i64.bits 120).toNat)=vbn y:=by
 have ab:=QBI y.pre;have ac:=h.w;have ad:=h.v;have aa:=h.l;have e:=QHT ⟨y.w.toNat,by omega⟩ ⟨y.v.toNat,by omega⟩ ⟨y.l.toNat,by omega⟩ ⟨(Qdp y.pre).toNat,by omega⟩;simp only[Bi ac.1,Bi ad.1,Bi aa.1,Bi ab.1]at e;exact e
theorem QKa {y:Vx}(h:y.Ok):IntKind.u8.wrap (IntKind.i64.wrap (BitVec.ofInt IntKind.i64.bits (Qsv [(y.r,1),(y.x,1),(y.b,1),(y.mp,5)]) ^^^ BitVec.ofInt IntKind.i64.bits 224).toNat)=vbm y:=by
 have ac:=h.r;have hx:=h.x;have aa:=h.b;have ad:=h.mp;have ab:0<=y.mp:=by omega
 have e:=QHU ⟨y.r.toNat,by omega⟩ ⟨y.x.toNat,by omega⟩ ⟨y.b.toNat,by omega⟩ ⟨y.mp.toNat,by omega⟩;simp only[Bi ac.1,Bi hx.1,Bi aa.1,Bi ab]at e;exact e
theorem Qsw {y:Vx}(h:y.Ok)(H:Qa):Qe prog 314 [.agg y.cells.toArray] H λv H'=>Gx 1 5 H H' v 3 (bys (Qf0 y))∧Ext H H'∧∃a,v=.slice a 3 3:=by
 refine Qx2 λaq=>?_;have ac:=QKa h;have ad:=QJ9 h;unfold Qf0;generalize vbm y=zm at *;generalize vbn y=zn at *;have ae:=fun(ao:List (Int×Int)) hp hl (b cap:Nat) e ro (H:Qa)=>QuC (cap:=cap) (b:=b) (e:=e) (ro:=ro) ao hp hl H;obtain⟨r,x,b,mp,w,v,l,pre⟩:=y;simp only at ac ad;simp only[Vx.cells,QpJ,Qb,simprocAttr,Nat.reduceMul];generalize aa:Qa.push (Qa.push H _) _=H1;have ak:Ext H H1:=by rw[<- aa];exact((Ext.refl H).push _).push _
 have g1:H1.get (H.next+1)=some (.cells (prs [(r,1),(x,1),(b,1),(mp,5)]) 342 false):=by rw[<- aa,Qc,Lc (by rw[Qd])];rfl
 have aj:H1.get H.next=some (.cells [.Z r,.Z x,.Z b,.Z mp,.Z w,.Z v,.Z l,.Z pre] 154 false):=by rw[<- aa,Qc,Le (by rw[Qd];omega),Qc,Lc rfl]
 have ap:H1.next=H.next+2:=by rw[<- aa];rfl
 clear aa;refine(ae [(r,1),(x,1),(b,1),(mp,5)] (by simp) (by simp) _ _ _ _ H1 g1).thenW ?_;rintro _ H2 _ ar ⟨rfl,ag⟩;have an:=(ag.get H.next (by omega)).trans aj;simp only[Qb,simprocAttr,an];refine⟨by simp[Qj,Ab.plain],by simp[Qj,Ab.plain],by simp[Qj,Ab.plain],?_⟩;refine(Qnw pre H2).thenW ?_;rintro _ H2 _ _ ⟨rfl,rfl⟩;simp only[Qb,simprocAttr,Nat.reduceMul];refine⟨λ_ _=>rfl,?_⟩;generalize ab:Qa.push H2 _=H3;have al:Ext H2 H3:=by rw[<- ab];exact(Ext.refl H2).push _
 have g3:H3.get H2.next=some (.cells (prs [(w,1),(v,4),(l,1),(Qdp pre,2)]) 342 false):=by rw[<- ab,Qc,Lc rfl];rfl
 clear ab;refine(ae [(w,1),(v,4),(l,1),(Qdp pre,2)] (by simp) (by simp) _ _ _ _ H3 g3).thenW ?_;rintro _ H4 _ au ⟨rfl,am⟩;simp only[Qb,simprocAttr,ac,ad,QvY];have ah:=(((ak.trans ag).trans al).trans am);have ai:=ah.push (.cells [.int .u8 196,.int .u8 zm,.int .u8 zn] 5 false);exact .mk ai.next ⟨.inr ⟨_,_,rfl,ah.next,by rw[Qc,Lc rfl];rfl,rfl,.inl rfl⟩,ai,_,rfl⟩
theorem Qyi {y:Vx}(h:y.Ok)(H:Qa):Qe prog 311 [.agg y.cells.toArray] H λu H'=>u=.Z 0∧Ext H H':=by
 refine QvX λau=>?_;have ar:=h;obtain⟨ah,aa,ai,ao,aj,ap,ak,al⟩:=h;obtain⟨r,x,b,mp,w,v,l,pre⟩:=y;simp only at ah aa ai ao aj ap ak al;simp only[Vx.cells,Qnk,Qb,simprocAttr,Qr];generalize ab:Qa.push (Qa.push H _) _=H1;have am:Ext H H1:=by rw[<- ab];exact((Ext.refl H).push _).push _
 have g1:H1.get (H.next+1)=some (.cells (ints [r,x,b,w,l]) 3 false):=by rw[<- ab,Qc,Lc (by rw[Qd])];rfl
 have ag:H1.get H.next=some (.cells [.Z r,.Z x,.Z b,.Z mp,.Z w,.Z v,.Z l,.Z pre] 154 false):=by rw[<- ab,Qc,Le (by rw[Qd];omega),Qc,Lc rfl]
 clear ab;refine Qp (λm A' H'=>∃i:Nat,i<=5∧m=5 - i∧H'=H1∧A' 1=.P H.next∧A' 15=.S (H.next+1) 5 5∧A' 16=.Z 5∧A' 17=.Z i) 5 ?_ ?_
 ·refine⟨0,by omega,rfl,rfl,?_,?_,?_,?_⟩
  all_goals simp only[Qf,simprocAttr]
  all_goals rfl
 ·rintro m A' H' ⟨i,hi,rfl,rfl,r1,r15,ad,ac⟩;simp only[Qi9,Qb,simprocAttr,ad,ac];refine Qg (λaa=>?_) (λaa=>?_)
  ·have aa:i<5:=by have:=Lg aa;omega
   obtain⟨z,aq,av⟩:∃z,(ints [r,x,b,w,l])[i]? = some (.Z z)∧0<=z∧z<2:=by
    rcases i with _ | _ | _ | _ | _ | i
    ·exact⟨r,rfl,ah⟩
    ·exact⟨x,rfl,by assumption⟩
    ·exact⟨b,rfl,ai⟩
    ·exact⟨w,rfl,aj⟩
    ·exact⟨l,rfl,ak⟩
    ·omega
   have d1:(0:Int)<=i∧(i:Int)<(5:Nat):=by omega
   have d3:(i:Int).toNat=i:=by omega
   have ae:IntKind.i64.wrap ((i:Int)+1)=((i+1:Nat):Int):=by rw[w64 (by unfold I64;omega)];omega
   simp only[Qi8,sxA,sxB,Nat.reduceBEq,Nat.reduceEqDiff,reduceCtorEq,mxA,mxB,Nat.reduceAdd,reduceIte,Nat.reduceLeDiff,splice,r15,ac,d1,d3,g1,aq];rcases(show z=0∨z=1 by omega) with rfl | rfl
   ·simp only[Qb,simprocAttr,LO,L8,ac,ae];refine⟨5 - (i+1),by omega,i+1,by omega,rfl,rfl,?_,?_,?_,?_⟩
    all_goals simp only[Qf,simprocAttr,r1,r15,ad]
   ·have an:((1:Int)==0)=false:=rfl;simp only[Qb,simprocAttr,an,LO,LM,L8,ac,ae];refine⟨5 - (i+1),by omega,i+1,by omega,rfl,rfl,?_,?_,?_,?_⟩
    all_goals simp only[Qf,simprocAttr,r1,r15,ad]
  ·have e1:decide (mp<1)=false:=Lj (by omega);have e2:decide (3<mp)=false:=Lj (by omega);have e3:decide (v<0)=false:=Lj (by omega);have e4:decide (15<v)=false:=Lj (by omega);simp only[Qi7,Qb,simprocAttr,r1,ag,e1,e2,e3,e4,B4];rcases al with rfl | rfl | rfl | rfl
   all_goals simp only[Qi6,Qi5,Qb,simprocAttr,r1,ag,LO,Int.reduceBEq,Qtw]
   all_goals exact .mk am.next ⟨rfl,am⟩
structure VO (e:TypeId) (H0 H:Qa) (v:Value) (bss:List (List Int)):Prop where
 ne:e≠5
 it:∃ss:List Value,ss.length=bss.length∧Gx 1 e H0 H v bss.length ss∧∀ (j:Nat) s bs,ss[j]? = some s->bss[j]? = some bs->Gx 1 5 H0 H s bs.length (bys bs)
theorem VO.nil {e:TypeId}(aa:e≠5)(H0 H:Qa):VO e H0 H (.slice none 0 0) []:=⟨aa,[],rfl,.inl ⟨rfl,rfl,rfl⟩,λj s w h=>by simp at h⟩
theorem VO.go {e:TypeId}{H0 H H':Qa}{v:Value}{ws:List (List Int)}(h:VO e H0 H v ws)(aa:H.Wf)(hx:Ext H H'):VO e H0 H' v ws:=by
 obtain⟨ss,ab,ac,ad⟩:=h.it;exact⟨h.ne,ss,ab,ac.go aa hx,λj s w ae ag=>(ad j s w ae ag).go aa hx⟩
theorem VO.down {e:TypeId}{H0 H1 H:Qa}{v:Value}{ws:List (List Int)}(h:VO e H1 H v ws)(hx:H0.next<=H1.next):VO e H0 H v ws:=by
 obtain⟨ss,aa,ab,ac⟩:=h.it;exact⟨h.ne,ss,aa,ab.down hx,λj s w ad ae=>(ac j s w ad ae).down hx⟩
theorem VO.slc {e:TypeId}{H0 H:Qa}{v:Value}{ws:List (List Int)}(h:VO e H0 H v ws):∃a c,v=.slice a ws.length c:=by
 obtain⟨ss,ab,aa,ac⟩:=h.it;exact aa.slc
theorem Qwb {e bytes:Nat}{H0 H:Qa}{v s x:Value}{bs:List Int}{ws:List (List Int)}{k:Value->Qa->Prop}(ah:VO e H0 H v ws)(hx:Ext H0 H)(am:H.Wf)(al:Gx 1 5 H0 H s bs.length (bys bs))(ay:YX 1 x H=some (1,[s]))(aq:(ws.length+1) * bytes<=140737488355328)(au:ws.length+1<=9223372036854775807)
  (h:∀ae H',VO e H0 H' ae (ws++[bs])->GK v ae H0 H H'->k ae H'):Qdv e 1 bytes v x H k:=by
 obtain⟨ss,ai,ag,ap⟩:=ah.it;have aw:([s]:List Value).all (·.oneCell')=true:=by
  obtain⟨a,c,rfl⟩:=al.slc;rfl
 refine Qdk ag hx am ay aw rfl aq au ?_;intro ae H' ar ak;refine h ae H' ⟨ah.ne,ss++[s],by simp[ai],?_,λj az w' aa ac=>?_⟩ ak
 ·rw[Lh];exact ar
 ·have av:∀id c',H.get id=some (.cells c' 5 false)->¬inB v id:=λid c' aj hi=>by
   obtain⟨o,aA,c,rfl⟩:=hi;rcases ag with⟨h,_,_⟩ | ⟨b,c,h,an,ad,ao⟩
   ·cases h
   ·cases h;rw[ad]at aj;cases aj;exact ah.ne rfl
  have key:∀ {s:Value} {bs:List Int},Gx 1 5 H0 H s bs.length (bys bs)->Gx 1 5 H0 H' s bs.length (bys bs):=λax=>by
   rcases ax with ag | ⟨b,c,rfl,an,ad,ao⟩
   ·exact .inl ag
   ·exact .inr ⟨b,c,rfl,an,by rw[ak.keep b (am.lt ad) (av b _ ad)];exact ad,ao⟩
  rcases Dj j ss.length with ab | ab | ab
  ·rw[LY ab]at aa;rw[LY (by omega)]at ac;exact key (ap j az w' aa ac)
  ·rw[LR (by omega)]at aa ac;rw[ab,BJ]at aa;rw[ab,ai,BJ]at ac;cases aa;cases ac;exact key al
  ·have:=(Lk.1 aa).1;simp at this;omega
def QAE (y:Vx)(any:Bool):List (List Int):=
 (if(y.x=0∧y.b=0∧(any=true∨y.w=0))∧y.mp=1 then[[197,vb2 y]] else[])++([Qf0 (bif any then {y with w:=0} else y)]++(bif any then[Qf0 {y with w:=1}] else[]))
theorem Vx.Ok.setW {y:Vx}(h:y.Ok)(n:Int)(aa:0<=n∧n<2):Vx.Ok {y with w:=n}:=⟨h.r,h.x,h.b,h.mp,aa,h.v,h.l,h.pre⟩
section
variable {H:Qa} {W:List (List Int)}
abbrev KV (H:Qa)(W:List (List Int)):Env->Qa->Prop:=Rt prog Tryz.f287 H λu H'=>∃v,u=.tuple #[v,.Z 0]∧VO 22 H H' v W∧Ext H H'
theorem QqL (H:Qa)(s:Value):YX 1 (.S H.next 1 1) (H.push (.cells [s] 22 false))=some (1,[s]):=Qw7 (by rw[Qc,Lc rfl])
theorem VO.keep {e:TypeId}{H0 H H':Qa}{v:Value}{ws:List (List Int)}(h:VO e H0 H v ws)(ae:∀id,H0.next<=id->H'.get id=H.get id):VO e H0 H' v ws:=by
 obtain⟨ss,ac,aa,ad⟩:=h.it;have key:∀ {e:TypeId} {v:Value} {n:Nat} {cs:List Value},Gx 1 e H0 H v n cs->Gx 1 e H0 H' v n cs:=λag=>by
  rcases ag with aa | ⟨b,c,rfl,ab,ah,ai⟩
  ·exact .inl aa
  ·exact .inr ⟨b,c,rfl,ab,by rw[ae b ab];exact ah,ai⟩
 exact⟨h.ne,ss,ac,key aa,λj s w a b=>key (ad j s w a b)⟩
theorem QLq {y:Vx}(h:y.Ok)(any:Bool){ws:List (List Int)}(aO:ws.length<=5){v:Value}{A:Env}{Hb H1:Qa}(aT:Hb.next=H.next+1)(aB:VO 22 Hb H1 v ws)(ah:Ext Hb H1)(hx:Ext H H1)(aE:H1.Wf)(ak:H1.get H.next=some (.cells y.cells 154 false))(r1:A 1=.bool any)(r2:A 2=.P H.next)(aK:A 7=v)(aa:W=ws++([Qf0 y]++(bif any then[Qf0 {y with w:=1}] else[]))):
  Qk prog Vr ⟨KV H W,Xi⟩ (KV H W) A H1:=by
 have aU:=ah.next;have aq:=Qsw h;have ar:=Qsw (h.setW 1 (by decide));obtain⟨ab,ai⟩:∃ab,ab=Qf0 y:=⟨_,rfl⟩;obtain⟨ac,aj⟩:∃ac,ac=Qf0 {y with w:=1}:=⟨_,rfl⟩;have aI:ab.length=3:=by rw[ai];rfl
 have aJ:ac.length=3:=by rw[aj];rfl
 rw[<- ai]at aq aa;rw[<- aj]at ar aa;clear ai aj;obtain⟨r,x,b,mp,w,aN,l,pre⟩:=y;simp only[Vx.cells]at ak aq ar;simp only[Vr,Qb,simprocAttr,r1,r2,aK,ak];refine(aq H1).thenW ?_;rintro aW H2 aP an ⟨al,ax,a2,rfl⟩
 replace al:Gx 1 5 H1 H2 (.slice a2 3 3) ab.length (bys ab):=by rw[aI];exact al
 simp only[Qb,simprocAttr];refine Qwb (H0:=Hb) (bs:=ab) ((aB.go aE ax).go an ((Ext.refl H2).push _)) ((ah.trans ax).push _) (an.push _) ((al.go an ((Ext.refl H2).push _)).down (by omega)) (QqL H2 _) (by omega) (by omega) ?_;intro aL H4 aw ae;have au:H4.get H.next=some (.cells [.Z r,.Z x,.Z b,.Z mp,.Z w,.Z aN,.Z l,.Z pre] 154 false):=by rw[(ae.x).get _ (by omega),<- ah.get _ (by omega)];exact ak
 have ap:Ext H H4:=⟨by have:=ae.x.next;omega,λid ag=>by rw[ae.x.get id (by omega),<- ah.get id (by omega)];exact hx.get id ag⟩;cases any with
 | false=>
  rw[Ls,Na]at aa;simp only[Qb,simprocAttr,r1,QpI];exact .mk ap.next ⟨aL,rfl,by rw[aa];exact aw.down (by omega),ap⟩
 | true=>
  rw[Lq]at aa;simp only[Qb,simprocAttr,r1,r2,au];generalize ad:Qa.set H4 _ _=H5;have aG:Ext H H5:=by rw[<- ad];exact ap.set (Lb _) _
  have aF:H5.Wf:=by rw[<- ad];exact ae.w.set au _
  have k5:∀id,Hb.next<=id->H5.get id=H4.get id:=λid ag=>by rw[<- ad,Qh,Le (by omega)]
  have aC:=aw.keep k5;have aR:H5.next=H4.next:=by rw[<- ad];rfl
  have aQ:=ae.x.next;clear ad;refine(ar H5).thenW ?_;rintro aX H6 aS ao ⟨am,ay,a6,rfl⟩
  replace am:Gx 1 5 H5 H6 (.slice a6 3 3) ac.length (bys ac):=by rw[aJ];exact am
  simp only[Qb,simprocAttr];have aH:∃Hz:Qa,Ext Hz H5∧Hz.next=Hb.next:=⟨⟨Hb.next,H5.tr⟩,⟨by show Hb.next<=H5.next;omega,λid _=>rfl⟩,rfl⟩;obtain⟨Hz,aA,aV⟩:=aH;refine Qwb (H0:=Hz) (bs:=ac) (((aC.go aF ay).go ao ((Ext.refl H6).push _)).down (by omega)) ((aA.trans ay).push _) (ao.push _) ((am.go ao ((Ext.refl H6).push _)).down (by omega)) (QqL H6 _) (by rw[Lh,Bb];omega) (by rw[Lh,Bb];omega) ?_;intro aM H7 aD av;have az:Ext H H7:=⟨by have:=av.x.next;omega,λid ag=>by rw[av.x.get id (by omega),<- aA.get id (by omega)];exact aG.get id ag⟩;simp only[Qb,simprocAttr,QpI];exact .mk az.next ⟨aM,rfl,by rw[aa,<- LQ];exact aD.down (by omega),az⟩
theorem QLr {y:Vx}(h:y.Ok)(any:Bool){A:Env}{Hb H1:Qa}(aw:Hb.next=H.next+1)(ad:Ext Hb H1)(hx:Ext H H1)(aJ:H1.Wf)(ab:H1.get H.next=some (.cells y.cells 154 false))(r1:A 1=.bool any)(r2:A 2=.P H.next)(ag:W=(if(y.x=0∧y.b=0∧y.w=0)∧y.mp=1 then[[197,vb2 y]] else[])++([Qf0 y]++(bif any then[Qf0 {y with w:=1}] else[]))):
  Qk prog QgE ⟨KV H W,Xi⟩ (KV H W) A H1:=by
 have aS:=ad.next;have av:=ab;have ah:=QJ8 h;have aE:=fun(aP:List (Int×Int)) hp hl (b cap:Nat) e ro (H:Qa)=>QuC (cap:=cap) (b:=b) (e:=e) (ro:=ro) aP hp hl H;have au:=λA=>QLq (H:=H) (W:=W) (A:=A) h any (ws:=[]) (by simp) aw (VO.nil (e:=22) (by decide) Hb H1) ad hx aJ ab;have ac:∀A,A 1=.bool any->A 2=.P H.next->A 7=.slice none 0 0->¬ ((y.x=0∧y.b=0∧y.w=0)∧y.mp=1)->Qk prog Vr ⟨KV H W,Xi⟩ (KV H W) A H1:=λA a1 a2 a7 aG=>au A a1 a2 a7 (by rw[ag,Le aG]);obtain⟨aa,aj⟩:∃aa,aa=vb2 y:=⟨_,rfl⟩;have aB:(y.x=0∧y.b=0∧y.w=0)∧y.mp=1->∀ (A:Env) (H4:Qa) (ar:Value),VO 22 Hb H4 ar [[197,aa]]->Ext Hb H4->Ext H H4->H4.Wf->A 1=.bool any->A 2=.P H.next->A 7=ar->Qk prog Vr ⟨KV H W,Xi⟩ (KV H W) A H4:=by
  intro aO A H4 ar aH az aq ao a1 a2 a7;refine QLq h any (ws:=[[197,aa]]) (by simp) aw aH az aq ao (by rw[az.get _ (by omega),<- ad.get _ (by omega)];exact av) a1 a2 a7 (by rw[ag,Lc aO,aj])
 rw[<- aj]at ah;clear aj ag au av h;obtain⟨r,x,b,mp,w,v,l,pre⟩:=y;simp only[Vx.cells]at ab;simp only at aB ac ah;simp only[QgE,Qb,simprocAttr,r1,r2,ab];cases ai:x==0 with
 | false=>
  have ap:¬x=0:=by simpa using ai
  simp only[Qb,simprocAttr,ai];refine ac _ ?_ ?_ ?_ (λh=>ap h.1.1)
  all_goals simp only[Qf,simprocAttr,r1,r2]
 | true=>
  have ap:x=0:=by simpa using ai
  simp only[Qb,simprocAttr,r2,ab];cases e2:b==0 with
  | false=>
   have al:¬b=0:=by simpa using e2
   simp only[Qb,simprocAttr,e2];refine ac _ ?_ ?_ ?_ (λh=>al h.1.2.1)
   all_goals simp only[Qf,simprocAttr,r1,r2]
  | true=>
   have al:b=0:=by simpa using e2
   simp only[Qb,simprocAttr,r2,ab];cases e3:w==0 with
   | false=>
    have an:¬w=0:=by simpa using e3
    simp only[Qb,simprocAttr,e3];refine ac _ ?_ ?_ ?_ (λh=>an h.1.2.2)
    all_goals simp only[Qf,simprocAttr,r1,r2]
   | true=>
    have an:w=0:=by simpa using e3
    simp only[Qb,simprocAttr,r2,ab];cases e4:mp==1 with
    | false=>
     have am:¬mp=1:=by simpa using e4
     simp only[Qb,simprocAttr,e4];refine ac _ ?_ ?_ ?_ (λh=>am h.2)
     all_goals simp only[Qf,simprocAttr,r1,r2]
    | true=>
     have am:mp=1:=by simpa using e4
     simp only[Qng,Qb,simprocAttr,e4,r2,ab];refine⟨by simp[Qj,Ab.plain],by simp[Qj,Ab.plain],by simp[Qj,Ab.plain],?_⟩;refine(Qnw pre H1).thenW ?_;rintro _ H1 _ _ ⟨rfl,rfl⟩;simp only[Qb,simprocAttr,Nat.reduceMul];refine⟨λ_ _=>rfl,?_⟩;generalize ak:Qa.push H1 _=H3;have aL:Ext H1 H3:=by rw[<- ak];exact(Ext.refl H1).push _
     have g3:H3.get H1.next=some (.cells (prs [(r,1),(v,4),(l,1),(Qdp pre,2)]) 342 false):=by rw[<- ak,Qc,Lc rfl];rfl
     clear ak;refine(aE [(r,1),(v,4),(l,1),(Qdp pre,2)] (by simp) (by simp) _ _ _ _ H3 g3).thenW ?_;rintro _ H4 _ ao ⟨rfl,aq⟩;simp only[Qb,simprocAttr,ah];have ay:=aL.trans aq;have aM:=(Ext.refl H4).push (.cells [.int .u8 197,.int .u8 aa] 5 false);have ax:=ao.push (.cells [.int .u8 197,.int .u8 aa] 5 false);have aC:Gx 1 5 H4 (H4.push (.cells [.int .u8 197,.int .u8 aa] 5 false)) (.S H4.next 2 2) 2 (bys [197,aa]):=.inr ⟨_,_,rfl,Lb _,by rw[Qc,Lc rfl];rfl,rfl,.inl rfl⟩;have aR:=ay.next;have aF:(H4.push (.cells [.int .u8 197,.int .u8 aa] 5 false)).next=H4.next+1:=rfl;generalize H4.push (.cells [.int .u8 197,.int .u8 aa] 5 false)=H5 at *;have aK:=ay.trans aM;have aA:=(Ext.refl H5).push (.cells [.S H4.next 2 2] 22 false);refine Qwb (H0:=Hb) (bs:=[197,aa]) (VO.nil (e:=22) (by decide) Hb _) ((ad.trans aK).trans aA) (ax.push _) ((aC.go ax aA).down (by omega)) (by rw[<- aF];exact QqL H5 _) (by simp) (by simp) ?_;intro aQ H7 aI ae;have aN:Ext H H7:=⟨by have:=ae.x.next;omega,λid aD=>by rw[ae.x.get id (by omega),<- ad.get id (by omega)];exact hx.get id aD⟩;simp only[Qcj,KZ,Gi,QjH,QA4];refine aB ⟨⟨ap,al,an⟩,am⟩ _ H7 aQ aI ae.x aN ae.w ?_ ?_ ?_
     all_goals simp only[Qf,simprocAttr,r1,r2]
end
theorem QHV (y:Vx)(any:Bool)(aa:Vx)(h:aa=bif any then {y with w:=0} else y):QAE y any=(if(aa.x=0∧aa.b=0∧aa.w=0)∧aa.mp=1 then[[197,vb2 aa]] else[])++([Qf0 aa]++(bif any then[Qf0 {aa with w:=1}] else[])):=by
 subst h;unfold QAE;cases any with
 | true=>simp only[Lq,true_or,Hr,vb2]
 | false=>simp only[Ls,LV,false_or]
theorem QDc {y:Vx}(h:y.Ok)(any:Bool)(H:Qa):Qe prog 287 [.agg y.cells.toArray,.bool any] H λu H'=>∃v,u=.tuple #[v,.Z 0]∧VO 22 H H' v (QAE y any)∧Ext H H':=by
 refine QAr λaq=>?_;obtain⟨aa,ad⟩:∃aa:Vx,aa=bif any then {y with w:=0} else y:=⟨_,rfl⟩
 have am:aa.Ok:=by rw[ad];cases any with | true=>exact h.setW 0 (by decide) | false=>exact h
 have eL:=QHV y any aa ad;have ab:aa.cells=bif any then[.Z y.r,.Z y.x,.Z y.b,.Z y.mp,.Z 0,.Z y.v,.Z y.l,.Z y.pre] else y.cells:=by rw[ad];cases any<;>rfl
 have an:=Qyi h;have aj:=(Ext.refl H).push (.cells y.cells 154 false);have ar:=aq.push (.cells y.cells 154 false);have ah:(H.push (.cells y.cells 154 false)).get H.next=some (.cells y.cells 154 false):=by rw[Qc,Lc rfl]
 have ap:(H.push (.cells y.cells 154 false)).next=H.next+1:=rfl;obtain⟨W,ag⟩:∃W,W=QAE y any:=⟨_,rfl⟩;rw[<- ag]at eL ⊢;clear ag ad h;obtain⟨r,x,b,mp,w,v,l,pre⟩:=y;simp only[Vx.cells]at aj ar ah ap an ab;simp only[Vx.cells,Qsd,Qb,simprocAttr];generalize H.push _=H1 at *;refine(an H1).thenW ?_;rintro _ H2 aw ai ⟨rfl,al⟩;have ae:=(al.get H.next (by omega)).trans ah;have ak:=aj.trans al;simp only[Qb,simprocAttr,LO,L8];cases any with
 | true=>
  rw[Lq]at ab;simp only[QgF,Qb,simprocAttr,ae];generalize ac:Qa.set H2 _ _=H3;have av:Ext H H3:=by rw[<- ac];exact ak.set (Lb _) _
  have au:H3.Wf:=by rw[<- ac];exact ai.set ae _
  have ao:H3.get H.next=some (.cells aa.cells 154 false):=by rw[<- ac,Qh,Lc rfl];exact congrArg (λc=>some (Blk.cells c 154 false)) ab.symm
  have ax:H3.next=H2.next:=by rw[<- ac];rfl
  clear ac;refine QLr (H:=H) (Hb:=⟨H.next+1,H3.tr⟩) am true rfl ⟨by show H.next+1<=H3.next;omega,λid _=>rfl⟩ av au ao ?_ ?_ eL
  all_goals simp only[Qf,simprocAttr]
 | false=>
  rw[Ls]at ab;simp only[QgF,Qb,simprocAttr];refine QLr (H:=H) (Hb:=⟨H.next+1,H2.tr⟩) am false rfl ⟨by show H.next+1<=H2.next;omega,λid _=>rfl⟩ ak ai (by rw[ae];exact congrArg (λc=>some (Blk.cells c 154 false)) ab.symm) ?_ ?_ eL
  all_goals simp only[Qf,simprocAttr]
def QgJ (m:Int):List Int:=if(m==1)=true then[15] else if(m==2)=true then[15,56] else if(m==3)=true then[15,58] else[]
theorem Qqo (m:Int)(H:Qa):Qe prog 291 [.Z m] H λv H'=>Gx 1 5 H H' v (QgJ m).length (bys (QgJ m))∧Ext H H':=by
 refine QoB λae=>?_;have aa:∀bs:List Int,Gx 1 5 H (H.push (.cells (bys bs) 5 false)) (.S H.next bs.length bs.length) bs.length (bys bs):=λbs=>.inr ⟨_,_,rfl,Lb _,by rw[Qc,Lc rfl],by rw[ZR,NH],.inl rfl⟩;simp only[QfO,Qb,simprocAttr];unfold QgJ;cases ab:m==1 with
 | true=>
  simp only[Qb,simprocAttr,ab,ZM];exact .mk ((Ext.refl H).push _).next ⟨aa [15],(Ext.refl H).push _⟩
 | false=>
  simp only[Qb,simprocAttr,ab];cases ac:m==2 with
  | true=>
   simp only[Qb,simprocAttr,ac,ZM];exact .mk ((Ext.refl H).push _).next ⟨aa [15,56],(Ext.refl H).push _⟩
  | false=>
   simp only[Qb,simprocAttr,ac];cases ad:m==3 with
   | true=>
    simp only[Qb,simprocAttr,ad,ZM];exact .mk ((Ext.refl H).push _).next ⟨aa [15,58],(Ext.refl H).push _⟩
   | false=>
    simp only[Qb,simprocAttr,ad,ZM];exact .mk (Lb _) ⟨.inl ⟨rfl,rfl,rfl⟩,.refl _⟩
def Qsx (w r x b:Int):Int:=w * 8+r * 4+x * 2+b
def QFj:List (Int×Int×Int×Int):=([0,1]:List Int).flatMap λw=>([0,1]:List Int).flatMap λr=>([0,1]:List Int).flatMap λx=>([0,1]:List Int).map λb=>(w,r,x,b)
theorem QDd:(QFj.all λp=>isW (.Z (Qsx p.1 p.2.1 p.2.2.1 p.2.2.2)) ((run prog noK 200 5 10).fn 289 [.Z p.1,.Z p.2.1,.Z p.2.2.1,.Z p.2.2.2] (H0 prog)))=true:=by kernel_rfl
theorem QDe (w r x b:Int)(ae:0<=w∧w<2)(ad:0<=r∧r<2)(hx:0<=x∧x<2)(ab:0<=b∧b<2)(H:Qa):Qe prog 289 [.Z w,.Z r,.Z x,.Z b] H λu H'=>u=.Z (Qsx w r x b)∧H'=H:=by
 have aa:∀n:Int,0<=n∧n<2->n∈([0,1]:List Int):=λn ag=>by
  simp only[LK,Ns,NN];omega
 have ac:(w,r,x,b)∈QFj:=by
  unfold QFj;rw[NF];refine⟨w,aa w ae,NF.2 ⟨r,aa r ad,NF.2 ⟨x,aa x hx,N4.2 ⟨b,aa b ab,rfl⟩⟩⟩⟩
 exact Qyg (by kernel_rfl) rfl rfl (Li.1 QDd _ ac) H
def Qnx (f:Fm)(l:List Ar)(s:Int):Int:=if 0<=Qy f.slots s then GI ((l[(Qy f.slots s).toNat]?.getD WY).r) else 0
theorem QBJ (x:Int):∀ (l:List Int) (k:Nat),Ve l x k<k+l.length
 | [],k=>by show(-1:Int)<_;simp;omega
 | y::l,k=>by
  unfold Ve;split
  ·simp;omega
  ·have:=QBJ x l (k+1);simp at this ⊢;omega
theorem Qyj (l:List Int)(x:Int):Qy l x<l.length:=by
 have:=QBJ x l 0;simpa[Qy] using this
theorem QgK {l:List Ar}{i:Nat}{a:Ar}(h:l[i]? = some a):((Qm l).drop (i * 11+1)).take 2=[.Z a.r.c,.Z a.r.n]:=by
 have aa:=X4 l i a h;have ab:(((Qm l).drop (i * 11)).take 11).drop 1=a.cells.drop 1:=by rw[aa]
 rw[<- Rc];have ac:((((Qm l).drop (i * 11)).drop 1).take 2)=((((Qm l).drop (i * 11)).take 11).drop 1).take 2:=by
  rw[List.drop_take,DE];rfl
 rw[ac,ab];rfl
theorem Qk2 (x:Lf)(op:Int)(va:Value)(l:List Ar)(s:Int)(H:Qa)(hx:x.At H)(az:QQ H va l)(aD:l.length<=1000)(aE:x.f.slots.length=l.length):Qe prog 286 [.agg x.cells.toArray,.agg #[.Z op,va],.Z s] H λu H'=>u=.Z (Qnx x.f l s)∧Ext H H':=by
 refine Qsc λae=>?_;have am:(Value.agg x.cells.toArray).cells.toList=x.cells:=rfl;have al:x.cells.take 10=x.cells:=rfl;have aB:10<=x.cells.length:=Lb _;obtain⟨a0,cap,rfl,aq⟩:=az;have ak:Ext H (H.push (.cells x.cells 51 false)):=(Ext.refl H).push _;simp only[Qi3,am,Wu,simprocAttr];generalize aa:Qa.push H _=H1;have g1:H1.get H.next=some (.cells x.cells 51 false):=by rw[<- aa,Qc,Lc rfl]
 have aA:Ext H H1:=by rw[<- aa];exact ak
 have aF:H1.next=H.next+1:=by rw[<- aa];rfl
 have aH:H1.Wf:=by rw[<- aa];exact ae.push _
 clear aa ak;simp only[Qb,simprocAttr];generalize ab:Qa.push H1 _=H2;have aj:Ext H H2:=by rw[<- ab];exact aA.push _
 have g2:H2.get H.next=some (.cells x.cells 51 false):=by rw[<- ab,Qc,Le (by omega)];exact g1
 have an:H2.get H1.next=some (.cells [.Z op,.slice a0 l.length cap] 33 false):=by rw[<- ab,Qc,Lc rfl]
 have aG:H2.next=H1.next+1:=by rw[<- ab];rfl
 clear ab;have aC:¬H.next=H1.next:=by omega
 simp only[Qb,simprocAttr,aC,LN,g1,Lw,al];refine⟨aB,?_⟩;refine(QH x s H2 (hx.ext ae aj)).thenW ?_;rintro _ _ ai aI ⟨rfl,k,rfl⟩;simp only[Qw]at ai;have ac:=aj.up ai;have ao:(H2.up k).get H1.next=some (.cells [.Z op,.slice a0 l.length cap] 33 false):=by rw[Xo];exact an
 generalize H2.up k=H3 at *;have ax:=Qyj x.f.slots s;simp only[Qb,simprocAttr];unfold Qnx;refine Qg (λh=>?_) (λh=>?_)
 ·have ap:0<=Qy x.f.slots s:=Lg h;rw[Lc ap];obtain⟨i,hi⟩:∃i:Nat,Qy x.f.slots s=i:=⟨(Qy x.f.slots s).toNat,by omega⟩;rw[hi]at ax ⊢;have av:i<l.length:=by omega
  obtain⟨a,ag⟩:∃a,l[i]? = some a:=⟨_,La av⟩;obtain⟨b,e,ro,rfl,ah⟩:=aq (by omega);have ar:H3.get b=some (.cells (Qm l) e ro):=by rw[ac.get b (ae.lt ah)];exact ah
  have ay:=QgK ag;have aw:i * 11+1+2<=(Qm l).length:=by rw[Q7];omega
  have d1:(0:Int)<=i∧(i:Int)<l.length:=by omega
  have d3:(i:Int).toNat=i:=by omega
  have au:(l[i]?.getD WY).r=a.r:=by rw[ag];rfl
  have q:=Qdo a.r H3;simp only[Rg.cells]at q;simp only[Qb,simprocAttr,ao,d1,d3,ar,ay,au];refine⟨aw,?_⟩;refine q.thenW ?_;rintro _ _ ad aJ ⟨rfl,k4,rfl⟩;simp only[Qw]at ad;simp only[Qb,simprocAttr,Qhy];exact .mk (ac.up ad).next ⟨rfl,ac.up ad⟩
 ·rw[Le (by have:=Ll h;omega)];simp only[Qb,simprocAttr,Qhy];exact .mk ac.next ⟨rfl,ac⟩
def Qk3 (l:List Ar):Bool:=l.any λa=>a.k==1&&Qv8 a.r
def Qsy (l:List Ar):Bool:=l.any λa=>a.k==1&&QBE a.r
def chF (bits:Int)(l:List Ar):List Int:=if(decide (0<bits)||Qk3 l)=true then(if Qsy l=true then[] else[bits]) else if Qsy l=true then[-1] else[-1,0]
theorem QoK (op bits:Int)(va:Value)(l:List Ar)(H:Qa)(aK:QQ H va l)(aZ:l.length<=1000):Qe prog 288 [.agg #[.Z op,va],.Z bits] H λv H'=>Gx 1 3 H H' v (chF bits l).length (ints (chF bits l))∧Ext H H':=by
 refine Qnh λaz=>?_;obtain⟨a0,cap,rfl,aG⟩:=aK;simp only[Qen,Qb,simprocAttr,Qr];generalize al:Qa.push H _=H1;have aO:Ext H H1:=by rw[<- al];exact(Ext.refl H).push _
 have aM:H1.Wf:=by rw[<- al];exact az.push _
 clear al;refine Qp (λm A' H'=>∃i:Nat,i<=l.length∧m=l.length - i∧H'.Wf∧Ext H H'∧A' 1=.Z bits∧A' 5=.bool (decide (0<bits)||Qk3 (l.take i))∧A' 6=.bool (Qsy (l.take i))∧A' 12=.slice a0 l.length cap∧A' 13=.Z l.length∧A' 14=.Z i) l.length ?_ ?_
 ·refine⟨0,L7 _,by omega,aM,aO,?_,?_,?_,?_,?_,?_⟩
  all_goals simp only[Qf,simprocAttr]
  all_goals simp[Qk3,Qsy]
 ·rintro m A' H' ⟨i,hi,rfl,aL,hx,r1,ae,ac,ah,r13,ab⟩;simp only[QbB,Qb,simprocAttr,r13,ab];refine Qg (λag=>?_) (λag=>?_)
  ·have ag:i<l.length:=by have:=Lg ag;omega
   obtain⟨a,aq⟩:∃a,l[i]? = some a:=⟨_,La ag⟩;obtain⟨b,e,ro,rfl,au⟩:=aG (by omega);have aI:H'.get b=some (.cells (Qm l) e ro):=by rw[hx.get b (az.lt au)];exact au
   have ax:=X4 l i a aq;have aJ:i * 11+11<=(Qm l).length:=by rw[Q7];omega
   have d1:(0:Int)<=i∧(i:Int)<l.length:=by omega
   have d3:(i:Int).toNat=i:=by omega
   have ad:IntKind.i64.wrap ((i:Int)+1)=((i+1:Nat):Int):=by rw[w64 (by unfold I64;omega)];omega
   have ay:l.take (i+1)=l.take i++[a]:=by rw[Nv,aq];rfl
   have ap:Qk3 (l.take (i+1))=(Qk3 (l.take i)||(a.k==1&&Qv8 a.r)):=by unfold Qk3;rw[ay,Rz];simp
   have hB:Qsy (l.take (i+1))=(Qsy (l.take i)||(a.k==1&&QBE a.r)):=by unfold Qsy;rw[ay,Rz];simp
   have aC:=Qyf a.r;have an:=QAC a.r;obtain⟨ao,⟨aX,aY⟩,⟨⟨aD,aE⟩,⟨aP,aQ⟩,sc,d,sz⟩,n⟩:=a;simp only[Rg.cells]at aC an;simp only[Ar.cells]at ax;simp only at ap hB;generalize Qk3 (l.take i)=N at *;generalize Qsy (l.take i)=B at *;simp only[QbA,Qb,simprocAttr,ae,ac,ah,ab,d1,d3,aI,ax];refine⟨aJ,?_⟩;generalize aj:(Qa.push H' _).set _ _=H2;have ak:Ext H H2:=by rw[<- aj];exact(hx.push _).set (by have:=hx.next;omega) _
   have aA:H2.Wf:=by rw[<- aj];exact(aL.push _).set (b0:=.cells [.Z 0,.Z 0,.Z 0,.Z 0,.Z 0,.Z 0,.Z 0,.Z 0,.Z 0,.Z 0,.Z 0] 95 false) (by rw[Qc,Lc rfl]) _
   have g2:H2.get H'.next=some (.cells [.Z ao,.Z aX,.Z aY,.Z aD,.Z aE,.Z aP,.Z aQ,.Z sc,.Z d,.Z sz,.Z n] 95 false):=by rw[<- aj,Qh,Lc rfl]
   clear aj
   -- the end of a round
   have aa:∀ (A2:Env) (H3:Qa),Ext H H3->H3.Wf->A2 1=.Z bits->A2 5=.bool (decide (0<bits)||Qk3 (l.take (i+1)))->A2 6=.bool (Qsy (l.take (i+1)))->A2 12=.S b l.length cap->A2 13=.Z l.length->A2 14=.Z ((i+1:Nat):Int)->Quj (λm A' H'=>∃i:Nat,i<=l.length∧m=l.length - i∧H'.Wf∧Ext H H'∧A' 1=.Z bits∧A' 5=.bool (decide (0<bits)||Qk3 (l.take i))∧A' 6=.bool (Qsy (l.take i))∧A' 12=.S b l.length cap∧A' 13=.Z l.length∧A' 14=.Z i) (l.length - i) A2 H3:=
    λA2 H3 e1 e2 aR aV aW aS aT aU=>⟨l.length - (i+1),by omega,i+1,by omega,rfl,e2,e1,aR,aV,aW,aS,aT,aU⟩
   rw[ap,hB]at aa;cases av:ao==1 with
   | false=>
    rw[av,NG,NI,NG,NI]at aa;simp only[Qb,simprocAttr,ab,ad];refine aa _ H2 ak aA ?_ ?_ ?_ ?_ ?_ ?_
    all_goals simp only[Qf,simprocAttr,r1,ae,ac,ah,r13]
   | true=>
    rw[av,LJ,LJ,<- FP]at aa;obtain⟨N',aF⟩:∃N',N'=(decide (0<bits)||N):=⟨_,rfl⟩;rw[<- aF]at aa ae;cases N' with
    | true=>
     rw[N1]at aa;cases B with
     | true=>
      rw[N1]at aa;simp only[YI,Qb,simprocAttr,ae,ac,ab,ad];refine aa _ H2 ak aA ?_ ?_ ?_ ?_ ?_ ?_
      all_goals simp only[Qf,simprocAttr,r1,ah,r13]
     | false=>
      rw[Nt]at aa;simp only[YI,Qb,simprocAttr,ae,ac,ab,ad,g2];refine(an H2).thenW ?_;rintro _ _ ai am ⟨rfl,k4,rfl⟩;simp only[Qw]at ai;simp only[Qb,simprocAttr,ab,ad];refine aa _ _ (ak.up ai) am ?_ ?_ ?_ ?_ ?_ ?_
      all_goals simp only[Qf,simprocAttr,r1,ah,r13]
    | false=>
     rw[Nt]at aa;simp only[YI,Qb,simprocAttr,ae,ac,ab,ad,g2];refine(aC H2).thenW ?_;rintro _ _ aw aN ⟨rfl,k3,rfl⟩;simp only[Qw]at aw;have aB:=ak.up aw;have g3:=g2;rw[<- Xo H2 k3]at g3;generalize H2.up k3=H3 at *;cases B with
     | true=>
      rw[N1]at aa;simp only[Qb,simprocAttr,ac,ab,ad];refine aa _ H3 aB aN ?_ ?_ ?_ ?_ ?_ ?_
      all_goals simp only[Qf,simprocAttr,r1,ah,r13]
     | false=>
      rw[Nt]at aa;simp only[Qb,simprocAttr,ac,ab,ad,g3];refine(an H3).thenW ?_;rintro _ _ ai am ⟨rfl,k4,rfl⟩;simp only[Qw]at ai;simp only[Qb,simprocAttr,ab,ad];refine aa _ _ (aB.up ai) am ?_ ?_ ?_ ?_ ?_ ?_
      all_goals simp only[Qf,simprocAttr,r1,ah,r13]
  ·have ag:i=l.length:=by have:=Ll ag;omega
   subst ag;rw[Nr]at ae ac;have ar:∀z:Int,Gx 1 3 H (H'.push (.cells [.Z z] 3 false)) (.S H'.next 1 1) 1 (ints [z]):=λz=>.inr ⟨_,_,rfl,hx.next,by rw[Qc,Lc rfl];rfl,rfl,.inl rfl⟩;have aH:Gx 1 3 H (H'.push (.cells [.Z (-1),.Z 0] 3 false)) (.S H'.next 2 2) 2 (ints [-1,0]):=.inr ⟨_,_,rfl,hx.next,by rw[Qc,Lc rfl];rfl,rfl,.inl rfl⟩;unfold chF;generalize (decide (0<bits)||Qk3 l)=N at *;generalize Qsy l=B at *;cases N<;>cases B<;>simp only[Qbz,Qby,Qb,simprocAttr,r1,ae,ac,QlP,N3,LN,LV]
   ·exact .mk (hx.push _).next ⟨aH,hx.push _⟩
   ·exact .mk (hx.push _).next ⟨ar (-1),hx.push _⟩
   ·exact .mk (hx.push _).next ⟨ar bits,hx.push _⟩
   ·exact .mk hx.next ⟨.inl ⟨rfl,rfl,rfl⟩,hx⟩
structure FOk (f:Fm):Prop where
 pre:0<=f.pre∧f.pre<=5
 map:0<=f.map∧f.map<=3
 w:f.vex=false->f.w=0∨f.w=1
 vx:f.vex=true->f.map≠0∧(f.pre=0∨f.pre=1∨f.pre=2∨f.pre=4)∧(-1<=f.w∧f.w<=1)∧(f.l=0∨f.l=1)
def QtH (f:Fm)(l:List Ar)(s:Int):Int:=if 0<=Qy f.slots s then((l[(Qy f.slots s).toNat]?.getD WY).r).n else 0
def hB (f:Fm)(l:List Ar)(h:Int):Int:=if 0<=Qy f.slots 4 then Qnx f l 4 else h
def Qyk (w:Int):Int:=if 0>w then 0 else w
def vxF (f:Fm)(l:List Ar)(x h:Int):Vx:=⟨Qnx f l 1,x,hB f l h,f.map,Qyk f.w,QtH f l 3,f.l,f.pre⟩
def QgL (f:Fm)(l:List Ar)(x h:Int):List (List Int):=
 if f.vex=true then QAE (vxF f l x h) (f.w==-1)
 else(chF (Qsx f.w (Qnx f l 1) x (hB f l h)) l).map λn=>QfZ f.pre n++QgJ f.map
theorem QqM (f:Fm)(l:List Ar)(s:Int):0<=Qnx f l s∧Qnx f l s<2:=by
 unfold Qnx;split
 ·exact Qnv _
 ·omega
section
variable {x:Lf} {op:Int} {va:Value} {l:List Ar} {H:Qa}
abbrev KH (H:Qa)(W:List (List Int)):Env->Qa->Prop:=Rt prog Tryz.f223 H λv H'=>VO 22 H H' v W∧Ext H H'
structure HdF (H H':Qa) (x:Lf) (op:Int) (va:Value) (A:Env):Prop where
 xt:Ext H H'
 w:H'.Wf
 g3:H'.get H.next=some (.cells x.cells 51 false)
 g4:H'.get (H.next+1)=some (.cells [.Z op,va] 33 false)
 lt:H.next+2<=H'.next
 r3:A 3=.P H.next
 r4:A 4=.P (H.next+1)
theorem HdF.go {H' H'':Qa}{A B:Env}(h:HdF H H' x op va A)(hx:Ext H' H'')(aa:H''.Wf)(e3:B 3=A 3)(e4:B 4=A 4):HdF H H'' x op va B:=
 ⟨h.xt.trans hx,aa,by rw[hx.get _ (by have:=h.lt;omega)];exact h.g3,by rw[hx.get _ (by have:=h.lt;omega)];exact h.g4,by have:=h.lt;have:=hx.next;omega,e3.trans h.r3,e4.trans h.r4⟩
theorem QMt (au:FOk x.f)(bh:x.f.vex=false)(bm:H.Wf)(hx:x.At H)(ar:QQ H va l)(bj:∀n,H.next<=n->Qj n 6 (.agg #[.Z op,va])=true)(aX:l.length<=1000){r xx b:Int}(bd:0<=r∧r<2)(bp:0<=xx∧xx<2)(aP:0<=b∧b<2){W:List (List Int)}(aK:W=(chF (Qsx x.f.w r xx b) l).map λn=>QfZ x.f.pre n++QgJ x.f.map){A:Env}{H1:Qa}(aq:HdF H H1 x op va A)(bq:A 7=.Z r)(r8:A 8=.Z xx)(br:A 9=.Z b):
  Qk prog Vn ⟨KH H W,Xi⟩ (KH H W) A H1:=by
 obtain⟨a0,cap,rfl,b2⟩:=id ar;have aN:=aq;obtain⟨aj,b9,g3,g4,b8,r3,r4⟩:=aq;have aJ:x.cells[7]? = some (.Z x.f.w):=rfl;have bA:=au.w bh;simp only[Vn,Qb,simprocAttr,r3,r4,bq,r8,br,g3,g4,aJ];have bc:=aj.next;refine⟨bj _ bc,?_⟩;refine(QDe x.f.w r xx b (by omega) bd bp aP H1).thenW ?_;rintro _ H1 _ _ ⟨rfl,rfl⟩;simp only[Qb,simprocAttr];refine⟨λ_ _=>rfl,?_⟩;refine(QoK op (Qsx x.f.w r xx b) _ l H1 (ar.ext bm aj) aX).thenW ?_;rintro bC H2 _ ai ⟨aS,ak⟩;have b3:0<=Qsx x.f.w r xx b∧Qsx x.f.w r xx b<=15:=by unfold Qsx;omega
 have aR:∀n∈chF (Qsx x.f.w r xx b) l,-1<=n∧n<=15:=by
  intro n aa;unfold chF at aa;split at aa
  ·split at aa
   ·cases aa
   ·simp at aa;omega
  ·split at aa
   ·simp at aa;omega
   ·simp at aa;omega
 have b4:(chF (Qsx x.f.w r xx b) l).length<=2:=by
  unfold chF;split
  ·split<;>simp
  ·split<;>simp
 generalize chF (Qsx x.f.w r xx b) l=C at *;have bg:=aS.sl;obtain⟨aH,aI,rfl,aO⟩:=bg;simp only[Qb,simprocAttr,Qr];have e3:x.cells[3]? = some (.Z x.f.pre):=rfl;have e4:x.cells[4]? = some (.Z x.f.map):=rfl;have bz:∀B:Env,B 3=A 3->B 4=A 4->HdF H H2 x op (.slice a0 l.length cap) B:=λB ao ap=>aN.go ak ai ao ap;have az:=aj.trans ak;have aY:=az.next;refine Qp (λm A' H'=>∃ (i:Nat) (v:Value),i<=C.length∧m=C.length - i∧Ext H2 H'∧VO 22 H2 H' v ((C.take i).map λn=>QfZ x.f.pre n++QgJ x.f.map)∧H'.Wf∧A' 3=.P H.next∧A' 14=v∧A' 77=.slice aH C.length aI∧A' 78=.Z C.length∧A' 79=.Z i) C.length ?_ ?_
 ·refine⟨0,.slice none 0 0,L7 _,by omega,.refl _,VO.nil (by decide) _ _,ai,?_,?_,?_,?_,?_⟩
  all_goals simp only[Qf,simprocAttr,r3]
  all_goals rfl
 ·rintro m A' H' ⟨i,v,hi,rfl,ac,ah,ay,am,al,aF,aG,an⟩;simp only[Qem,Qb,simprocAttr,aG,an];refine Qg (λab=>?_) (λab=>?_)
  ·have ab:i<C.length:=by have:=Lg ab;omega
   obtain⟨n,aa⟩:∃n,C[i]? = some n:=⟨_,La ab⟩;have aZ:=aR n (Ln aa);obtain⟨b',e',bu,rfl,aw⟩:=aO (by omega);have aW:H'.get b'=some (.cells (ints C) e' bu):=by rw[ac.get b' (ai.lt aw)];exact aw
   have aQ:(ints C)[i]? = some (.Z n):=by unfold ints;rw[LD,aa];rfl
   have d1:(0:Int)<=i∧(i:Int)<C.length:=by omega
   have d3:(i:Int).toNat=i:=by omega
   have aL:IntKind.i64.wrap ((i:Int)+1)=((i+1:Nat):Int):=by rw[w64 (by unfold I64;omega)];omega
   have ae:H'.get H.next=some (.cells x.cells 51 false):=by rw[(ak.trans ac).get _ (by omega)];exact g3
   simp only[Qel,Qb,simprocAttr,am,al,aF,an,d1,d3,aW,aQ,ae,e3];refine(QDb x.f.pre n au.pre aZ H').thenW ?_;rintro _ H3 _ bn ⟨bD,rfl,aT,aA⟩;have aM:H3.get H.next=some (.cells x.cells 51 false):=by rw[aA.get _ (ay.lt ae)];exact ae
   simp only[Qb,simprocAttr,LO,L8,am,al,aM,e4];refine(Qqo x.f.map H3).thenW ?_;rintro bE H4 _ bo ⟨aU,aB⟩;have b6:(QgJ x.f.map).length<=2:=by unfold QgJ;repeat' (split<;>try simp)
   have b7:(QfZ x.f.pre n).length<=4:=by
    unfold QfZ QJ7;simp only[Lh];have bx:(if x.f.pre % 2=1 then([102]:List Int) else[]).length<=1:=by split<;>simp
    have ab:(if x.f.pre / 2 % 2=1 then([242]:List Int) else[]).length<=1:=by split<;>simp
    have ao:(if x.f.pre / 4 % 2=1 then([243]:List Int) else[]).length<=1:=by split<;>simp
    have ap:(if 0<=n then([64+n]:List Int) else[]).length<=1:=by split<;>simp
    omega
   simp only[Qb,simprocAttr];refine Qdk (aT.go bn aB) (aA.trans aB) bo aU.src (Qb5 _) (by rw[ZR,NH]) (by omega) (by omega) ?_;intro bF H5 av ag;obtain⟨a5,ad,rfl⟩:=av.slc;simp only[Qb,simprocAttr];have aC:=(Ext.refl H5).push (.cells [.slice a5 ((QfZ x.f.pre n).length+(QgJ x.f.map).length) ad] 22 false);have aD:=ag.x.trans aC;have ba:=ac.next;have aV:Gx 1 5 H2 (H5.push (.cells [.slice a5 ((QfZ x.f.pre n).length+(QgJ x.f.map).length) ad] 22 false)) (.slice a5 ((QfZ x.f.pre n).length+(QgJ x.f.map).length) ad) (QfZ x.f.pre n++QgJ x.f.map).length (bys (QfZ x.f.pre n++QgJ x.f.map)):=by
    rw[Lh,Qb4];exact(av.go ag.w aC).down ba
   have b5:((C.take i).map λn=>QfZ x.f.pre n++QgJ x.f.map).length<=2:=by rw[Nn,Sb];omega
   refine Qwb (ah.go ay aD) (ac.trans aD) (ag.w.push _) aV (QqL H5 _) (by omega) (by omega) ?_;intro bw H7 bi ax;simp only[Qb,simprocAttr,an,aL];refine⟨C.length - (i+1),by omega,i+1,bw,by omega,rfl,ax.x,?_,ax.w,?_,?_,?_,?_,?_⟩
   ·have:(C.take (i+1)).map (λn=>QfZ x.f.pre n++QgJ x.f.map)=(C.take i).map (λn=>QfZ x.f.pre n++QgJ x.f.map)++[QfZ x.f.pre n++QgJ x.f.map]:=by
     rw[Nv,aa,N6];rfl
    rw[this];exact bi
   all_goals simp only[Qf,simprocAttr,am,aF,aG]
  ·have ab:i=C.length:=by have:=Ll ab;omega
   subst ab;rw[Nr]at ah;simp only[Qb,simprocAttr,al,QfN];have aE:=az.trans ac;exact .mk aE.next ⟨by rw[aK];exact ah.down aY,aE⟩
theorem QpO {l:List Ar}{i:Nat}{a:Ar}(h:l[i]? = some a):(Qm l)[i * 11+1+1]? = some (.Z a.r.n):=by
 have aa:=QgK h;have:=congrArg (·[1]?) aa;simp only[Nl,Nk]at this;simpa using this
theorem QMu (aq:H.Wf)(hx:x.At H)(aJ:QQ H va l)(ba:l.length<=1000)(bh:x.f.slots.length=l.length){r xx b:Int}{y:Vx}(aU:y.Ok)(al:y=⟨r,xx,b,x.f.map,Qyk x.f.w,QtH x.f l 3,x.f.l,x.f.pre⟩){W:List (List Int)}(aB:W=QAE y (x.f.w==-1)){A:Env}{H1:Qa}(aI:HdF H H1 x op va A)(ay:A 7=.Z r)(r8:A 8=.Z xx)(az:A 9=.Z b)(ks:Kp)(aO:ks=⟨KH H W,Xi⟩)(k:Env->Qa->Prop):
  Qk prog Vp ks k A H1:=by
 subst aO;obtain⟨a0,cap,rfl,aK⟩:=id aJ;obtain⟨au,aR,g3,g4,bc,r3,r4⟩:=aI;have e3:x.cells[3]? = some (.Z x.f.pre):=rfl;have e4:x.cells[4]? = some (.Z x.f.map):=rfl;have ae:x.cells[7]? = some (.Z x.f.w):=rfl;have ak:x.cells[9]? = some (.Z x.f.l):=rfl;have aA:x.cells.take 10=x.cells:=rfl;have aV:10<=x.cells.length:=Lb _;have aM:=Qyj x.f.slots 3;simp only[Vp,Qb,simprocAttr,r3,r4,ay,r8,az,g3,e3,e4,ae,ak];rw[QGX (ik:=.i64) (a:=x.f.w) (b:=0) (by simp only[Qf,simprocAttr]) (by simp only[Qf,simprocAttr])];simp only[Qb,simprocAttr,r3,r4,ay,r8,az,g3,e3,e4,ae,ak];generalize ac:(Qa.push H1 _).set _ _=H2;have ad:Ext H1 H2:=by rw[<- ac];exact((Ext.refl H1).push _).set (Lb _) _
 have aS:H2.Wf:=by rw[<- ac];exact(aR.push _).set (b0:=.cells [.Z 0,.Z 0,.Z 0,.Z 0,.Z 0,.Z 0,.Z 0,.Z 0] 154 false) (by rw[Qc,Lc rfl]) _
 have g2:H2.get H1.next=some (.cells [.Z r,.Z xx,.Z b,.Z x.f.map,.Z (Qyk x.f.w),.Z 0,.Z x.f.l,.Z x.f.pre] 154 false):=by rw[<- ac,Qh,Lc rfl];rfl
 have aE:H2.get H.next=some (.cells x.cells 51 false):=by rw[ad.get _ (by omega)];exact g3
 clear ac;have ax:¬H.next=H1.next:=by omega
 simp only[Qb,simprocAttr,ax,LN,Lw,aA];refine⟨aV,?_⟩;refine(QH x 3 H2 (hx.ext aq (au.trans ad))).thenW ?_;rintro _ _ ap ar ⟨rfl,k3,rfl⟩;simp only[Qw]at ap;have aj:=(au.trans ad).up ap;have bd:=aS.lt g2;have ab:=g2;have ah:=aE;rw[<- Xo H2 k3]at ab ah;have aF:(H2.up k3).get (H.next+1)=some (.cells [.Z op,.slice a0 l.length cap] 33 false):=by rw[Xo,ad.get _ (by omega)];exact g4
 have bg:H1.next<(H2.up k3).next:=by rw[Qw];omega
 generalize H2.up k3=H3 at *
 -- the end: the VEX stands in its block
 have an:∀ (A2:Env) (H4:Qa),Ext H H4->H4.Wf->H4.get H1.next=some (.cells y.cells 154 false)->H4.get H.next=some (.cells x.cells 51 false)->A2 3=.P H.next->A2 10=.P H1.next->Qk prog Vo ⟨KH H W,Xi⟩ k A2 H4:=by
  intro A2 H4 av bi aH aG aY aX;have aZ:=QDc aU (x.f.w==-1) H4;have aD:y.cells.take 8=y.cells:=rfl;have aW:8<=y.cells.length:=Lb _;simp only[Vo,Qb,simprocAttr,aY,aX,aH,aG,Lw,aD,ae];refine⟨aW,?_⟩;refine aZ.thenW ?_;rintro _ H5 _ bj ⟨v,rfl,aQ,aT⟩;simp only[Qb,simprocAttr,LO,L8,QfN];have aw:=av.trans aT;exact .mk aw.next ⟨by rw[aB];exact aQ.down av.next,aw⟩
 simp only[Qb,simprocAttr];refine Qg (λh=>?_) (λh=>?_)
 ·have ai:0<=Qy x.f.slots 3:=Lg h;have aa:QtH x.f l 3=((l[(Qy x.f.slots 3).toNat]?.getD WY).r).n:=by unfold QtH;rw[Lc ai]
  obtain⟨i,hi⟩:∃i:Nat,Qy x.f.slots 3=i:=⟨(Qy x.f.slots 3).toNat,by omega⟩;rw[hi]at aM aa ⊢;have aN:i<l.length:=by omega
  obtain⟨a,am⟩:∃a,l[i]? = some a:=⟨_,La aN⟩;obtain⟨b',e,ro,rfl,ao⟩:=aK (by omega);have aL:H3.get b'=some (.cells (Qm l) e ro):=by rw[aj.get b' (aq.lt ao)];exact ao
  have aP:=QpO am;have d1:(0:Int)<=i∧(i:Int)<l.length:=by omega
  have d3:(i:Int).toNat=i:=by omega
  have aC:QtH x.f l 3=a.r.n:=by rw[aa,d3,am];rfl
  have ag:y.cells=[.Z r,.Z xx,.Z b,.Z x.f.map,.Z (Qyk x.f.w),.Z a.r.n,.Z x.f.l,.Z x.f.pre]:=by rw[al,aC];rfl
  simp only[Qb,simprocAttr,r3,r4,aF,d1,d3,aL,aP,ab];refine an _ _ (aj.set (by omega) _) (ar.set ab _) ?_ ?_ ?_ ?_
  ·rw[Qh,Lc rfl,ag]
  ·rw[Qh,Le ax];exact ah
  all_goals simp only[Qf,simprocAttr,r3]
 ·have ai:¬0<=Qy x.f.slots 3:=Ll h;have aa:QtH x.f l 3=0:=by unfold QtH;rw[Le ai]
  have ag:y.cells=[.Z r,.Z xx,.Z b,.Z x.f.map,.Z (Qyk x.f.w),.Z 0,.Z x.f.l,.Z x.f.pre]:=by rw[al,aa];rfl
  simp only[Qb,simprocAttr];refine an _ H3 aj ar (by rw[ag];exact ab) ah ?_ ?_
  all_goals simp only[Qf,simprocAttr,r3]
end
theorem Qsz {x:Lf}{op:Int}{va:Value}{l:List Ar}(aU:FOk x.f)(H:Qa)(hx:x.At H)(ai:QQ H va l)(aX:∀n,H.next<=n->Qj n 6 (.agg #[.Z op,va])=true)(ak:l.length<=1000)(au:x.f.slots.length=l.length){ab aa:Int}(aW:0<=ab∧ab<2)(aV:0<=aa∧aa<2)(bd:x.f.vex=true->(vxF x.f l ab aa).Ok){aL:Option Addr}{aM sc:Nat}:
  Qe prog 223 [.agg x.cells.toArray,.agg #[.Z op,va],.agg #[.slice aL aM sc,.Z ab,.Z aa]] H λv H'=>VO 22 H H' v (QgL x.f l ab aa)∧Ext H H':=by
 refine Qqg λac=>?_;have aP:(Value.agg x.cells.toArray).cells.toList=x.cells:=rfl;have am:x.cells.take 10=x.cells:=rfl;have aN:x.cells[8]? = some (.bool x.f.vex):=rfl;have ax:10<=x.cells.length:=Lb _;obtain⟨W,an⟩:∃W,W=QgL x.f l ab aa:=⟨_,rfl⟩;rw[<- an];obtain⟨a0,cap,rfl⟩:=Wd ai;simp only[Qhx,aP,Wu,simprocAttr];generalize ah:Qa.push H (.cells x.cells 51 false)=H1;have g1:H1.get H.next=some (.cells x.cells 51 false):=by rw[<- ah,Qc,Lc rfl]
 have ba:Ext H H1:=by rw[<- ah];exact(Ext.refl H).push _
 have aE:H1.next=H.next+1:=by rw[<- ah];rfl
 have aY:H1.Wf:=by rw[<- ah];exact ac.push _
 clear ah;simp only[Qb,simprocAttr,aE];generalize ad:Qa.push (Qa.push H1 _) _=H2;have av:Ext H H2:=by rw[<- ad];exact(ba.push _).push _
 have bp:H2.Wf:=by rw[<- ad];exact(aY.push _).push _
 have ay:H2.get H.next=some (.cells x.cells 51 false):=by rw[<- ad,Qc,Le (by rw[Qd];omega),Qc,Le (by omega)];exact g1
 have az:H2.get (H.next+1)=some (.cells [.Z op,.slice a0 l.length cap] 33 false):=by rw[<- ad,Qc,Le (by rw[Qd];omega),Qc,Lc (by omega)]
 have aA:H2.get (H.next+2)=some (.cells [.slice aL aM sc,.Z ab,.Z aa] 210 false):=by rw[<- ad,Qc,Lc (by rw[Qd];omega)]
 have bj:H2.next=H.next+3:=by rw[<- ad,Qd,Qd,aE]
 clear ad;have bg:¬H.next=H.next+1+1:=by omega
 have bh:¬H.next+1=H.next+1+1:=by omega
 have aR:=QqM x.f l 1;have aS:=QqM x.f l 4;simp only[Qb,simprocAttr,bg,bh,LN,g1,ay,az,aA,Lw,am];refine⟨ax,⟨by omega,by omega⟩,?_⟩;refine(Qk2 x op _ l 1 H2 (hx.ext ac av) (ai.ext ac av) ak au).thenW ?_;rintro _ H3 bm bq ⟨rfl,ae⟩;have aG:=av.trans ae;have aB:=(ae.get H.next (by omega)).trans ay;have aC:=(ae.get (H.next+1) (by omega)).trans az;have aQ:=(ae.get (H.next+2) (by omega)).trans aA;have bc:=ae.eqB;simp only[Qb,simprocAttr,aB,aC,aQ,Lw,am];refine⟨bc,by simp[Qj,Ab.plain],by simp[Qj,Ab.plain],ax,?_⟩;refine(QH x 4 H3 (hx.ext ac aG)).thenW ?_;rintro _ _ aF aZ ⟨rfl,k4,rfl⟩;simp only[Qw]at aF;have aw:=aG.up aF;have ao:=aB;have ap:=aC;rw[<- Xo H3 k4]at ao ap;have bn:H.next+3<=(H3.up k4).next:=by rw[Qw];have:=ae.next;omega
 generalize H3.up k4=H4 at *
 -- the last part,with the bit that the opcode's register may give
 have aD:∀ (A:Env) (H5:Qa) (b:Int),Ext H4 H5->H5.Wf->b=hB x.f l aa->A 3=.P H.next->A 4=.P (H.next+1)->A 7=.Z (Qnx x.f l 1)->A 8=.Z ab->A 9=.Z b->Qk prog Vq ⟨KH H W,Xi⟩ (KH H W) A H5:=by
  intro A H5 b ag aj aO aH bi aI aJ aK;subst aO;have ar:HdF H H5 x op (.slice a0 l.length cap) A:=⟨aw.trans ag,aj,by rw[ag.get _ (by omega)];exact ao,by rw[ag.get _ (by omega)];exact ap,by have:=ag.next;omega,aH,bi⟩;have aT:0<=hB x.f l aa∧hB x.f l aa<2:=by unfold hB;split;exact aS;exact aV
  simp only[Vq,Qb,simprocAttr,aH,ar.g3,aN];cases al:x.f.vex with
  | true=>
   simp only[Wu,simprocAttr];refine QMu (y:=vxF x.f l ab aa) ac hx ai ak au (bd al) rfl (by rw[an];unfold QgL;rw[Lc al]) (ar.go (.refl _) aj ?_ ?_) ?_ ?_ ?_ _ rfl _
   all_goals simp only[Qf,simprocAttr,aI,aJ,aK]
  | false=>
   simp only[Wu,simprocAttr];refine QMt aU al ac hx ai aX ak aR aW aT (by rw[an];unfold QgL;rw[Le (by simp[al])]) (ar.go (.refl _) aj ?_ ?_) ?_ ?_ ?_
   all_goals simp only[Qf,simprocAttr,aI,aJ,aK]
 simp only[Qb,simprocAttr];refine Qg (λh=>?_) (λh=>?_)
 ·have aq:0<=Qy x.f.slots 4:=Lg h;simp only[Qb,simprocAttr,ao,ap,Lw,am];refine⟨ax,?_⟩;refine(Qk2 x op _ l 4 H4 (hx.ext ac aw) (ai.ext ac aw) ak au).thenW ?_;rintro _ H5 bo aj ⟨rfl,ag⟩;simp only[Qcj,KZ,Gi,QjH,QA4];refine aD _ H5 _ ag aj (by unfold hB;rw[Lc aq]) ?_ ?_ ?_ ?_ ?_
  all_goals simp only[Qf,simprocAttr]
 ·have aq:¬0<=Qy x.f.slots 4:=Ll h;simp only[Qll,Qrg];refine aD _ H4 _ (.refl _) aZ (by unfold hB;rw[Le aq]) ?_ ?_ ?_ ?_ ?_
  all_goals simp only[Qf,simprocAttr]
theorem JI (f:Fn)(a b:Array Value):(Value.func f a b).cells.toList=[.func f a b]:=Nu rfl rfl
theorem Zm (f:Fn)(a b:Array Value):(Value.func f a b).oneCell'=true:=Nu rfl rfl
theorem QgM {l:Nat}{args:List Value}{H:Qa}{k ac:Value->Qa->Prop}(h:YQ prog l args H k)(ag:∀v H',H.next<=H'.next->H'.Wf->k v H'->ac v H'):YQ prog l args H ac:=by
 intro ah;obtain⟨v,H',ad,aa,ab,ae⟩:=h ah;exact⟨v,H',ad,aa,ab,ag v H' aa ab ae⟩
structure CK (Own:Qa->Nat->Prop) (H H':Qa):Prop where
 next:H.next<=H'.next
 w:H'.Wf
 keep:∀id,id<H.next->¬Own H id->H'.get id=H.get id
 own:∀id,Own H' id->Own H id∨H.next<=id
theorem CK.trans {Own:Qa->Nat->Prop}{H H' H'':Qa}(h:CK Own H H')(h':CK Own H' H''):CK Own H H'':=by
 have ae:=h.next;have ag:=h'.next;refine⟨by omega,h'.w,λid ab aa=>?_,λid ab=>?_⟩
 ·rw[h'.keep id (by omega) (λad=>by rcases h.own id ad with ac | ac;exact aa ac;omega),h.keep id ab aa]
 ·rcases h'.own id ab with aa | aa
  ·exact h.own id aa
  ·exact .inr (by omega)
structure Cns {α:Type} (base:Nat) (l:Nat) (items:List α) (It:Qa->Qa->α->Value->Prop) (R:Nat->Qa->Prop) (Own:Qa->Nat->Prop):Prop where
 ext:∀j H H',R j H->H.Wf->Ext H H'->R j H'∧∀id,Own H' id->Own H id
 low:∀j H id,R j H->Own H id->id<H.next
 go:∀j w H0 H v,items[j]? = some w->R j H->R j H0->H0.Wf->It H0 H w v->base<=H0.next->Ext H0 H->(∀id,Own H id->Own H0 id)->YQ prog l [v] H λu H'=>u=.bool true∧R (j+1) H'∧CK Own H H'
theorem Cns.ck {α:Type}{base l:Nat}{ae:List α}{It:Qa->Qa->α->Value->Prop}{R:Nat->Qa->Prop}{Own:Qa->Nat->Prop}(h:Cns base l ae It R Own){j:Nat}{H H':Qa}(ab:R j H)(ac:H.Wf)(hx:Ext H H')(ad:H'.Wf):CK Own H H':=
 ⟨hx.next,ad,λid aa _=>hx.get id aa,λid aa=>.inl ((h.ext j H H' ab ac hx).2 id aa)⟩
def QKb (aa:Nat)(m:Mm):Bool:=if aa=0 then(m.d==0)&&!(Xz m.b==5) else if aa=1 then QBC m.d 8 else true
def QlY (aa:Nat)(m:Mm):List Int:=if aa=0 then[] else if aa=1 then(Qak m.d 1).1 else(Qak m.d 4).1
def Kb (mid ab:Int)(sib:List Int)(m:Mm)(aa:Nat):List Ld:=if QKb aa m=true then[⟨[QR aa mid ab]++sib++QlY aa m,GI m.i,GI m.b⟩] else[]
def ZT (mid aa:Int)(sib:List Int)(m:Mm):List Ld:=(List.range 3).flatMap (Kb mid aa sib m)
def QnA:List Value:=[.func (.func 333) #[] #[],.func (.func 334) #[] #[],.func (.func 335) #[] #[],.func (.func 337) #[] #[],.func (.func 338) #[] #[],.func (.func 339) #[] #[]]
theorem Qqr (H:Qa):Qe prog 327 [] H λu H'=>u=.S H.next 3 3∧H'=H.push (.cells QnA 367 false):=by
 refine QoC λaa=>?_;simp only[QfQ,Qb,simprocAttr,JI,Zm,Nat.reduceMul,Qnn];exact .mk (by rw[Qd];omega) ⟨rfl,rfl⟩
theorem QKc (d lo:Int)(H:Qa):Qe prog 333 [.Z d,.Z lo] H λu H'=>u=.bool ((d==0)&&!(lo==5))∧H'=H:=by
 refine QlQ λaa=>?_;simp only[QcX,Qb,simprocAttr];cases h:d==0<;>simp only[Qb,simprocAttr,h,Qj4]
 all_goals exact .mk (Lb _) ⟨rfl,rfl⟩
theorem QKd (d lo:Int)(H:Qa):Qe prog 335 [.Z d,.Z lo] H λu H'=>u=.bool (QBC d 8)∧H'=H:=by
 refine QlS λaa=>?_;simp only[QcZ,Qb,simprocAttr];refine(Qv6 d 8 H).thenW ?_;rintro _ H _ _ ⟨rfl,rfl⟩;simp only[Qb,simprocAttr,Qj6];exact .mk (Lb _) ⟨rfl,rfl⟩
theorem QKe (d lo:Int)(H:Qa):Qe prog 338 [.Z d,.Z lo] H λu H'=>u=.bool true∧H'=H:=by
 refine QlU λaa=>?_;simp only[Qc1,Qb,simprocAttr,Qj8];exact .mk (Lb _) ⟨rfl,rfl⟩
theorem QKf (d:Int)(H:Qa):Qe prog 334 [.Z d] H λv H'=>Gx 1 5 H H' v 0 []∧Ext H H':=by
 refine QlR λaa=>?_;simp only[QcY,Qb,simprocAttr,Qj5];exact .mk (Lb _) ⟨.inl ⟨rfl,rfl,rfl⟩,.refl _⟩
theorem QKg (d:Int)(aa:I64 d)(H:Qa):Qe prog 337 [.Z d] H λv H'=>Gx 1 5 H H' v (Qak d 1).1.length (bys (Qak d 1).1)∧Ext H H':=by
 refine QlT λac=>?_;simp only[Qc0,Qb,simprocAttr];refine(Qex d 1 aa H).thenW ?_;rintro v H1 _ _ ⟨ab,hx⟩;simp only[Qb,simprocAttr,Qj7];exact .mk hx.next ⟨ab,hx⟩
theorem QKh (d:Int)(aa:I64 d)(H:Qa):Qe prog 339 [.Z d] H λv H'=>Gx 1 5 H H' v (Qak d 4).1.length (bys (Qak d 4).1)∧Ext H H':=by
 refine QlV λac=>?_;simp only[Qc2,Qb,simprocAttr];refine(Qex d 4 aa H).thenW ?_;rintro v H1 _ _ ⟨ab,hx⟩;simp only[Qb,simprocAttr,Qj9];exact .mk hx.next ⟨ab,hx⟩
theorem QKi (aa:Nat)(h:aa<3)(m:Mm)(ab:I64 m.d):∃f g:FuncId,(QnA.drop (aa * 2)).take 2=[.func (.func f) #[] #[],.func (.func g) #[] #[]]∧(∀H,Qe prog f [.Z m.d,.Z (Xz m.b)] H λu H'=>u=.bool (QKb aa m)∧H'=H)∧(∀H,Qe prog g [.Z m.d] H λv H'=>Gx 1 5 H H' v (QlY aa m).length (bys (QlY aa m))∧Ext H H'):=by
 rcases aa with _ | _ | _ | aa
 ·exact⟨_,_,rfl,QKc m.d (Xz m.b),QKf m.d⟩
 ·exact⟨_,_,rfl,QKd m.d (Xz m.b),QKg m.d ab⟩
 ·exact⟨_,_,rfl,QKe m.d (Xz m.b),QKh m.d ab⟩
 ·omega
theorem Qyn (aa:Nat)(m:Mm):(QlY aa m).length<=8:=by
 unfold QlY;split
 ·simp
 ·split
  ·exact Qjn _ _ (by decide)
  ·exact Qjn _ _ (by decide)
theorem Qjt (mid ab:Int)(sib:List Int)(m:Mm)(aa:Nat):(List.range (aa+1)).flatMap (Kb mid ab sib m)=(List.range aa).flatMap (Kb mid ab sib m)++Kb mid ab sib m aa:=by
 rw[R0,Bm];simp
theorem QsF {base l:Nat}{aF:List Ld}{R:Nat->Qa->Prop}{Own:Qa->Nat->Prop}(ac:Cns base l aF LdV R Own)(mid ab:Int)(bC:0<=mid∧mid<8)(bF:0<=ab∧ab<8){sib:List Int}(cm:sib.length<=8){sv:Value}(m:Mm)(bu:I64 m.d)(am:Nat){Hs H:Qa}(ca:base<=H.next)(aq:R am H)(bG:Gx 1 5 Hs H sv sib.length (bys sib))(bK:∀id,inB sv id->¬Own H id)
  (hit:∀i w,(ZT mid ab sib m)[i]? = some w->aF[am+i]? = some w):
  Qe prog 310 [.func (.yield l) #[] #[],.Z mid,.Z ab,sv,.agg m.cells.toArray] H λu H'=>u=.bool true∧R (am+(ZT mid ab sib m).length) H'∧CK Own H H':=by
 refine QfP λav=>?_;have bX:=QKi;have cb:sv=sv:=rfl;obtain⟨aG,bY⟩:∃aG:Value,aG=.agg m.cells.toArray:=⟨_,rfl⟩;have bi:(Value.agg m.cells.toArray).cells.toList=m.cells:=rfl;simp only[GC,bi,Wu,simprocAttr];have aZ:=(Ext.refl H).push (.cells m.cells 70 false);have bL:=av.push (.cells m.cells 70 false);have aP:(H.push (.cells m.cells 70 false)).get H.next=some (.cells m.cells 70 false):=by rw[Qc,Lc rfl]
 generalize H.push (.cells m.cells 70 false)=H1 at *;refine(Qqr H1).thenW ?_;rintro _ Hb cl ai ⟨rfl,ay⟩;have bg:Ext H1 Hb:=by rw[ay];exact(Ext.refl H1).push _
 have aR:Hb.get H1.next=some (.cells QnA 367 false):=by rw[ay,Qc,Lc rfl]
 have aA:Hb.get H.next=some (.cells m.cells 70 false):=by rw[bg.get _ (bL.lt aP)];exact aP
 clear ay;have ax:=aZ.trans bg;obtain⟨aO,az⟩:=ac.ext _ _ _ aq av ax;have aV:=ac.low am H;have aY:=bG.go av ax;simp only[Wu,simprocAttr,Qr];refine Qp (λk A' H'=>∃aa:Nat,aa<=3∧k=3 - aa∧R (am+((List.range aa).flatMap (Kb mid ab sib m)).length) H'∧CK Own Hb H'∧A' 0=.func (.yield l) #[] #[]∧A' 1=.Z mid∧A' 2=.Z ab∧A' 3=sv∧A' 9=.P H.next∧A' 14=.S H1.next 3 3∧A' 15=.Z 3∧A' 16=.Z aa) 3 ?_ ?_
 ·refine⟨0,by omega,rfl,aO,ac.ck aO ai (.refl _) ai,?_,?_,?_,?_,?_,?_,?_,?_⟩
  all_goals simp only[Qf,simprocAttr]
  all_goals rfl
 ·rintro k A' Ha ⟨aa,cg,rfl,ak,ae,r0,r1,r2,r3,ad,an,r15,aj⟩;have ah:=ae.w;have cj:=ae.next;have bD:¬Own Hb H.next:=λh=>by have:=aV _ aq (az _ h);omega
  have bE:¬Own Hb H1.next:=λh=>by have:=aV _ aq (az _ h);have:=aZ.next;omega
  have ao:Ha.get H.next=some (.cells m.cells 70 false):=by rw[ae.keep _ (ai.lt aA) bD];exact aA
  have gx:Ha.get H1.next=some (.cells QnA 367 false):=by rw[ae.keep _ (ai.lt aR) bE];exact aR
  simp only[JQ,Qb,simprocAttr,r15,aj];refine Qg (λag=>?_) (λag=>?_)
  ·have ag:aa<3:=by have:=Lg ag;omega
   obtain⟨f,g,bx,bV,bW⟩:=bX aa ag m bu;have d1:(0:Int)<=aa∧(aa:Int)<(3:Nat):=by omega
   have d3:(aa:Int).toNat=aa:=by omega
   have aH:IntKind.i64.wrap ((aa:Int)+1)=((aa+1:Nat):Int):=by rw[w64 (by unfold I64;omega)];omega
   have bA:aa * 2+2<=QnA.length:=by show aa * 2+2<=6;omega
   simp only[JP,sxA,sxB,Nat.reduceBEq,Nat.reduceEqDiff,reduceCtorEq,mxA,mxB,Nat.reduceAdd,reduceIte,Nat.reduceLeDiff,splice,r0,r1,r2,r3,ad,an,r15,aj,d1,d3,gx,bx,JI,Zm];have cf:=ai.lt aA;have bU:¬H.next=Ha.next:=by omega
   have aN:=ao;simp only[Mm.cells]at aN;refine⟨bA,by simp[Qj,Ab.plain],?_⟩;simp only[Qb,simprocAttr,ad,bU,LN,aN];generalize ap:(Ha.push _).set Ha.next _=H3;have bS:Ext Ha H3:=by rw[<- ap];exact((Ext.refl Ha).push _).set (Lb _) _
   have bN:H3.Wf:=by rw[<- ap];exact(ah.push _).set (b0:=.cells [.nilFunc,.nilFunc] 367 false) (by rw[Qc,Lc rfl]) _
   have aI:H3.get Ha.next=some (.cells [.func (.func f) #[] #[],.func (.func g) #[] #[]] 367 false):=by rw[<- ap,Qh,Lc rfl]
   clear ap;have ce:=bN.lt aI;refine⟨by simp[Qj,Ab.plain],?_⟩;refine(Qal m.b H3).thenW ?_;rintro _ _ aC aw ⟨rfl,k,rfl⟩;simp only[Qw]at aC;have al:=bS.up aC;simp only[Qb,simprocAttr,QaA];refine⟨((Ext.refl H3).up aC).eqB,?_⟩;have aJ:(H3.up k).get Ha.next=some (.cells [.func (.func f) #[] #[],.func (.func g) #[] #[]] 367 false):=by rw[Xo];exact aI
   generalize H3.up k=H4 at *;refine(bV H4).thenW ?_;rintro _ H4 _ _ ⟨rfl,rfl⟩;obtain⟨br,bZ⟩:=ac.ext _ _ _ ak ah al;have b8:CK Own Hb H4:=ae.trans (ac.ck ak ah al aw);cases aW:QKb aa m with
   | false=>
    simp only[Qb,simprocAttr,LM,aj,aH];have b9:Kb mid ab sib m aa=[]:=by unfold Kb;rw[Le (by simp[aW])]
    refine⟨3 - (aa+1),by omega,aa+1,by omega,rfl,?_,b8,?_,?_,?_,?_,?_,?_,?_,?_⟩
    ·rw[Qjt,b9,Na];exact br
    all_goals simp only[Qf,simprocAttr,r0,r1,r2,r3,ad,an,r15]
   | true=>
    simp only[JO,Qb,simprocAttr,L8,r0,r1,r2,r3,ad,an,r15,aj];refine(Yq aa mid ab (by omega) bC bF H4).thenW ?_;rintro _ H4 _ _ ⟨rfl,rfl⟩;simp only[Qb,simprocAttr,r0,r1,r2,r3,ad,an,r15,aj];have bJ:Gx 1 5 Hs Ha sv sib.length (bys sib):=aY.ext λid aS=>ae.keep id (by have:=aY.low ai aS;omega) (λh=>bK id aS (az id h));have bH:=bJ.go ah al;have ba:=(Ext.refl H4).push (.cells [.int .u8 (QR aa mid ab)] 5 false);have bO:=aw.push (.cells [.int .u8 (QR aa mid ab)] 5 false);have b2:Gx 1 5 H4 (H4.push (.cells [.int .u8 (QR aa mid ab)] 5 false)) (.S H4.next 1 1) 1 (bys [QR aa mid ab]):=.inr ⟨_,_,rfl,Lb _,by rw[Qc,Lc rfl];rfl,rfl,.inl rfl⟩;have bI:=bH.go aw ba;generalize H4.push _=H5 at *;have cd:=Qyn aa m;refine Qdk b2 ba bO bI.src (Qb5 _) (by rw[ZR,NH]) (by omega) (by omega) ?_;intro co H6 b3 ar;have bj:H6.get Ha.next=some (.cells [.func (.func f) #[] #[],.func (.func g) #[] #[]] 367 false):=by rw[ar.x.get _ (aw.lt aJ)];exact aJ
    have bT:=al.trans ar.x;have aK:H6.get H.next=some (.cells m.cells 70 false):=by rw[bT.get _ (by omega)];exact ao
    simp only[Mm.cells]at aK;simp only[Qb,simprocAttr,bj,aK,QaA,r0,r1,r2,r3,ad,an,r15,aj];refine(bW H6).thenW ?_;rintro cp H7 ci bP ⟨b4,bc⟩;simp only[Qb,simprocAttr];refine Qdk (b3.go ar.w bc) (ar.x.trans bc) bP b4.src (Qb5 _) (by rw[ZR,NH]) (by omega) (by omega) ?_;intro cq H8 aQ aT;obtain⟨a8,bh,rfl⟩:=aQ.slc;have aE:=al.trans aT.x;have aL:H8.get H.next=some (.cells m.cells 70 false):=by rw[aE.get _ (by omega)];exact ao
    simp only[Mm.cells]at aL;have bQ:=aT.w;simp only[Qb,simprocAttr,aL,r0,ad];have cc:=aE.next;refine⟨by omega,?_⟩;refine(Qdo m.i H8).thenW ?_;rintro _ _ au bR ⟨rfl,k9,rfl⟩;simp only[Qw]at au;have bd:=aE.up au;have aM:(H8.up k9).get H.next=some (.cells m.cells 70 false):=by rw[bd.get _ (by omega)];exact ao
    simp only[Mm.cells]at aM;have bw:=((Ext.refl H8).up au).eqB;have b5:=aQ.go bQ ((Ext.refl H8).up au);generalize H8.up k9=H9 at *;simp only[Qb,simprocAttr,aM,r0,ad];refine⟨bw,by simp[Qj,Ab.plain],?_⟩;refine(Qdo m.b H9).thenW ?_;rintro _ _ aB bM ⟨rfl,k10,rfl⟩;simp only[Qw]at aB;have aD:=bd.up aB;have bz:=b5.go bR ((Ext.refl H9).up aB);obtain⟨bp,bo⟩:=ac.ext _ _ _ ak ah aD;generalize H9.up k10=H10 at *;simp only[Qb,simprocAttr,r0,Zz];have aX:Kb mid ab sib m aa=[⟨[QR aa mid ab]++sib++QlY aa m,GI m.i,GI m.b⟩]:=by unfold Kb;rw[Lc aW]
    have b6:aF[am+((List.range aa).flatMap (Kb mid ab sib m)).length]? = some ⟨[QR aa mid ab]++sib++QlY aa m,GI m.i,GI m.b⟩:=by
     refine hit _ _ ?_;unfold ZT;have bm:List.range 3=List.range (aa+1)++(List.range 3).drop (aa+1):=by
      rcases aa with _ | _ | _ | aa
      ·rfl
      ·rfl
      ·rfl
      ·omega
     rw[bm,Bm,Qjt,aX,LQ,LR (Lb _),BJ];rfl
    have bn:LdV Ha H10 ⟨[QR aa mid ab]++sib++QlY aa m,GI m.i,GI m.b⟩ (.agg #[.slice a8 (1+sib.length+(QlY aa m).length) bh,.Z (GI m.i),.Z (GI m.b)]):=by
     have e1:([QR aa mid ab]++sib++QlY aa m).length=1+sib.length+(QlY aa m).length:=by simp only[Lh,Lo,L9]
     have e2:bys ([QR aa mid ab]++sib++QlY aa m)=bys [QR aa mid ab]++bys sib++bys (QlY aa m):=by rw[Qb4,Qb4]
     refine⟨_,rfl,?_⟩;show Gx 1 5 Ha H10 _ ([QR aa mid ab]++sib++QlY aa m).length (bys ([QR aa mid ab]++sib++QlY aa m));rw[e1,e2];exact bz.down al.next
    refine QgM (ac.go _ _ Ha H10 _ b6 bp ak ah bn (by have:=ax.next;omega) aD bo) ?_;rintro _ H11 ch cn ⟨rfl,bq,b7⟩;simp only[Qb,simprocAttr,L8,aj,aH];refine⟨3 - (aa+1),by omega,aa+1,by omega,rfl,?_,?_,?_,?_,?_,?_,?_,?_,?_,?_⟩
    ·rw[Qjt,aX,Lh];exact bq
    ·exact(ae.trans (ac.ck ak ah aD bM)).trans b7
    all_goals simp only[Qf,simprocAttr,r0,r1,r2,r3,ad,an,r15]
  ·have ag:aa=3:=by have:=Ll ag;omega
   subst ag;simp only[Qb,simprocAttr,QeK];have aU:CK Own H Ha:=(ac.ck aq av ax ai).trans ae;exact .mk aU.next ⟨rfl,ak,aU⟩
def Qk7 (mid:Int)(m:Mm):List Ld:=
 if(m.b.c==8)=true then[⟨[QR 0 mid 5]++(Qak m.d 4).1,0,0⟩]
 else if isR m.b 0 0=true then[QgI mid m.i m.sc m.d]
 else if isR m.i 0 0=false then ZT mid 4 [QR (Qam m.sc) (Xz m.i) (Xz m.b)] m
 else(if(Xz m.b==4)=true then[] else ZT mid (Xz m.b) [] m)++(ZT mid 4 [QR 0 4 (Xz m.b)] m++(if(m.b.n==4)=true then[] else[QgI mid m.b 1 m.d]))
theorem QsH (H:Qa)(b:Int):Gx 1 5 H (H.push (.cells [.int .u8 b] 5 false)) (.S H.next 1 1) 1 (bys [b]):=.inr ⟨_,_,rfl,Lb _,by rw[Qc,Lc rfl];rfl,rfl,.inl rfl⟩
section
variable {base l:Nat} {R:Nat->Qa->Prop} {Own:Qa->Nat->Prop} {mid:Int} {m:Mm} {H:Qa} {bm bi:Nat}
theorem QtP (aa:Cns base l (Qk7 mid m) LdV R Own)(bW:base<=H.next)(av:0<=mid∧mid<8)(ar:I64 m.d)(bd:isR m.i 0 0=false->Wz m.sc=true)(aN:R 0 H)(aJ:H.get bm=some (.cells m.cells 70 false))(aV:H.get bi=some (.cells [.Z mid] 3 false))(bU:¬Own H bm)(bT:¬Own H bi):
  Qe prog 306 [.func (.yield l) #[] #[],.P bm,.P bi] H λu H'=>R (Qk7 mid m).length H'∧CK Own H H':=by
 refine Qqh λaH=>?_;have aS:=Qv7 m.b;have bI:=Qv7 m.i;have bJ:=Qyh m.sc;have bH:=aH.lt aJ;have bG:=aH.lt aV;have bu:=Qal m.b;have bw:=Qal m.i;have bA:(m.b.c==0&&m.b.n==0)=isR m.b 0 0:=rfl;have bC:(m.i.c==0&&m.i.n==0)=isR m.i 0 0:=rfl;have aK:=aJ;simp only[Mm.cells]at aK;simp only[Rg.cells]at bu bw;simp only[Qhz,Qb,simprocAttr,aK];refine(bu H).thenW ?_;rintro _ _ bn bN ⟨rfl,k1,rfl⟩;simp only[Qw]at bn;have bS:¬bm=k1:=by omega
 simp only[Qb,simprocAttr,bS,LN,aK];generalize aA:((H.up k1).push _).set k1 _=H2;have ao:Ext H H2:=by rw[<- aA];exact(((Ext.refl H).up bn).push _).set (by omega) _
 have ac:H2.Wf:=by rw[<- aA];exact(bN.push _).set (b0:=.cells [.Z 0,.Z 0] 68 false) (by rw[Qc,Lc (by rw[Qw])]) _
 have bX:k1<H2.next:=by rw[<- aA,Qo,Qd,Qw];omega
 have aU:H2.get k1=some (.cells [.Z 0,.Z 0] 68 false):=by rw[<- aA,Qh,Lc rfl]
 have al:H2.get bm=some (.cells m.cells 70 false):=by rw[ao.get _ bH];exact aJ
 have ak:H2.get bi=some (.cells [.Z mid] 3 false):=by rw[ao.get _ bG];exact aV
 clear aA;obtain⟨ah,aL⟩:=aa.ext _ _ _ aN aH ao;have aE:=aa.ck aN aH ao ac;have br:¬Own H2 bm:=λh=>bU (aL _ h);have bq:¬Own H2 bi:=λh=>bT (aL _ h);have ce:¬Own H2 k1:=λh=>by have:=aa.low _ _ _ aN (aL _ h);omega
 obtain⟨W,ab⟩:∃W,W=Qk7 mid m:=⟨_,rfl⟩;rw[<- ab]at aa ⊢;unfold Qk7 at ab;have am:=al;simp only[Mm.cells]at am;cases aZ:m.b.c==8 with
 | true=>
  rw[aZ,Lc rfl]at ab;simp only[Qb,simprocAttr,ak];refine⟨by omega,?_⟩;refine(Yq 0 mid 5 (by decide) av (by decide) H2).thenW ?_;rintro _ H2 _ _ ⟨rfl,rfl⟩;have aj:=(Ext.refl H2).push (.cells [.int .u8 (QR 0 mid 5)] 5 false);have an:=ac.push (.cells [.int .u8 (QR 0 mid 5)] 5 false);have bD:=QsH H2 (QR 0 mid 5);have ay:(H2.push (.cells [.int .u8 (QR 0 mid 5)] 5 false)).get bm=some (.cells m.cells 70 false):=by rw[aj.get _ (by have:=ac.lt al;omega)];exact al
  have bP:¬bm=H2.next:=by have:=ac.lt al;omega
  simp only[Mm.cells]at ay;simp only[Qb,simprocAttr,bP,LN,am];generalize H2.push _=H3 at *;refine⟨λ_ _=>rfl,by simp[Qj,Ab.plain],?_⟩;refine(Qex m.d 4 ar H3).thenW ?_;rintro cg H4 _ aw ⟨aC,ag⟩;have cc:=Qjn m.d 4 (by decide);simp only[Qb,simprocAttr];refine⟨ag.eqB,?_⟩;refine Qdk (bD.go an ag) (aj.trans ag) aw aC.src (Qb5 _) (by rw[ZR,NH]) (by omega) (by omega) ?_;intro ch H5 bg aF;obtain⟨a5,bV,rfl⟩:=bg.slc;obtain⟨b5,b3⟩:=aa.ext _ _ _ ah ac aF.x;have b8:=aE.trans (aa.ck ah ac aF.x aF.w);simp only[Qb,simprocAttr,Zz];refine QgM (aa.go 0 ⟨[QR 0 mid 5]++(Qak m.d 4).1,0,0⟩ H2 H5 _ (by rw[ab];rfl) b5 ah ac ⟨_,rfl,?_⟩ (by have:=ao.next;omega) aF.x b3) ?_
  ·show Gx 1 5 H2 H5 _ ([QR 0 mid 5]++(Qak m.d 4).1).length (bys ([QR 0 mid 5]++(Qak m.d 4).1));rw[Qb4,Lh];exact bg
  rintro _ H6 aG ap ⟨rfl,ad,ai⟩;have ae:=b8.trans ai;simp only[Qb,simprocAttr,YW];exact .mk ae.next ⟨by rw[ab];exact ad,ae⟩
 | false=>
  rw[aZ,Le (by simp)]at ab;simp only[Qes,Qb,simprocAttr,am,aU,QE,Ls,bA];cases bc:isR m.b 0 0 with
  | true=>
   rw[bc,Lc rfl]at ab;simp only[Qb,simprocAttr,am,ak];refine(Qk1 mid m.i m.sc m.d av bd ar H2).thenW ?_;rintro cf H3 _ an ⟨bL,aj⟩;obtain⟨aB,ba⟩:=aa.ext _ _ _ ah ac aj;have aP:=aE.trans (aa.ck ah ac aj an);simp only[Qb,simprocAttr,Zz];refine QgM (aa.go 0 _ H2 H3 _ (by rw[ab];rfl) aB ah ac bL (by have:=ao.next;omega) aj ba) ?_;rintro _ H6 aG ap ⟨rfl,ad,ai⟩;have ae:=aP.trans ai;simp only[Qb,simprocAttr,YW];exact .mk ae.next ⟨by rw[ab];exact ad,ae⟩
  | false=>
   rw[bc,Le (by simp)]at ab;simp only[Qer,Qb,simprocAttr,am,aU,QE,Lq,bC];cases aR:isR m.i 0 0 with
   | false=>
    rw[aR,Lc rfl]at ab;simp only[Qeo,Qb,simprocAttr,am,LM];refine⟨by omega,?_⟩;refine(Qk0 m.sc (bd aR) H2).thenW ?_;rintro _ H2 _ _ ⟨rfl,rfl⟩;simp only[Qb,simprocAttr,am];refine⟨λ_ _=>rfl,by simp[Qj,Ab.plain],?_⟩;refine(bw H2).thenW ?_;rintro _ _ bo an ⟨rfl,k3,rfl⟩;simp only[Qw]at bo;have aj:=(Ext.refl H2).up bo;have ay:(H2.up k3).get bm=some (.cells m.cells 70 false):=by rw[Xo];exact al
    have bz:(H2.up k3).get bi=some (.cells [.Z mid] 3 false):=by rw[Xo];exact ak
    simp only[Mm.cells]at ay;obtain⟨aB,ba⟩:=aa.ext _ _ _ ah ac aj;have aP:=aE.trans (aa.ck ah ac aj an);generalize H2.up k3=H3 at *;simp only[Qb,simprocAttr];refine(Yq _ _ _ bJ bI aS H3).thenW ?_;rintro _ H3 _ _ ⟨rfl,rfl⟩;simp only[Qb,simprocAttr,bz];have bY:=an.lt ay;have bQ:¬bm=H3.next:=by omega
    simp only[Qb,simprocAttr,bQ,LN,ay];have ag:=(Ext.refl H3).push (.cells [.int .u8 (QR (Qam m.sc) (Xz m.i) (Xz m.b))] 5 false);have aw:=an.push (.cells [.int .u8 (QR (Qam m.sc) (Xz m.i) (Xz m.b))] 5 false);have aC:=QsH H3 (QR (Qam m.sc) (Xz m.i) (Xz m.b));generalize H3.push _=H4 at *;obtain⟨aO,aM⟩:=aa.ext _ _ _ aB an ag;have aQ:=aP.trans (aa.ck aB an ag aw);refine(QsF aa mid 4 av (by decide) (sib:=[QR (Qam m.sc) (Xz m.i) (Xz m.b)]) (by simp) m ar 0 (by have:=ao.next;have:=aj.next;have:=ag.next;omega) aO aC (λid ⟨o,n,c,e⟩ h=>by cases e;have:=aa.low _ _ _ aB (aM _ h);omega) (λi w h=>by rw[ab,LP];exact h)).thenW ?_;rintro _ H6 aG ap ⟨rfl,ad,ai⟩;have ae:=aQ.trans ai;simp only[Qb,simprocAttr,YW];exact .mk ae.next ⟨by rw[ab];rw[LP]at ad;exact ad,ae⟩
   | true=>
    rw[aR,Le (by simp)]at ab
    -- the last two ways,behind what is told
    have bp:∀ (pre:List Ld) (Hx:Qa) (A:Env),W=pre++(ZT mid 4 [QR 0 4 (Xz m.b)] m++(if(m.b.n==4)=true then[] else[QgI mid m.b 1 m.d]))->R pre.length Hx->CK Own H2 Hx->A 0=.func (.yield l) #[] #[]->A 1=.P bm->A 2=.P bi->A 5=.Z (Xz m.b)->
      Qk prog Vs ⟨Rt prog Tryz.f306 H λu H'=>R W.length H'∧CK Own H H',exK 0 (Rt prog Tryz.f306 H λu H'=>R W.length H'∧CK Own H H') Xi⟩ (Rt prog Tryz.f306 H λu H'=>R W.length H'∧CK Own H H') A Hx:=by
     intro pre Hx A aq aD au r0 r1 r2 bx;have ax:=au.w;have aX:Hx.get bm=some (.cells m.cells 70 false):=by rw[au.keep _ (ac.lt al) br];exact al
     have aW:Hx.get bi=some (.cells [.Z mid] 3 false):=by rw[au.keep _ (ac.lt ak) bq];exact ak
     have aY:=aX;simp only[Mm.cells]at aY;have bZ:=ax.lt aX;have ca:=ax.lt aW;simp only[Vs,Qb,simprocAttr,r0,r1,r2,bx,aW];refine⟨by simp[Qj,Ab.plain],by omega,?_⟩;refine(Yq 0 4 _ (by decide) (by decide) aS Hx).thenW ?_;rintro _ Hx _ _ ⟨rfl,rfl⟩;have bR:¬bm=Hx.next:=by omega
     simp only[Qb,simprocAttr,bR,LN,r0,r1,r2,bx,aY];have ag:=(Ext.refl Hx).push (.cells [.int .u8 (QR 0 4 (Xz m.b))] 5 false);have aw:=ax.push (.cells [.int .u8 (QR 0 4 (Xz m.b))] 5 false);have aC:=QsH Hx (QR 0 4 (Xz m.b));obtain⟨aO,aM⟩:=aa.ext _ _ _ aD ax ag;have aQ:=(aE.trans au).trans (aa.ck aD ax ag aw);refine⟨λ_ _=>rfl,by simp[Qj,Ab.plain],?_⟩;generalize Hx.push _=H4 at *;have bK:∀i w,(ZT mid 4 [QR 0 4 (Xz m.b)] m)[i]? = some w->W[pre.length+i]? = some w:=λi w h=>by
      have hi:=(Lk.1 h).1;rw[aq,LR (Ro _ _),NL,LY hi];exact h
     refine(QsF aa mid 4 av (by decide) (sib:=[QR 0 4 (Xz m.b)]) (by simp) m ar pre.length (by have:=ao.next;have:=au.next;have:=ag.next;omega) aO aC (λid ⟨o,n,c,e⟩ h=>by cases e;have:=aa.low _ _ _ aD (aM _ h);omega) bK).thenW ?_;rintro _ H6 aG ap ⟨rfl,ad,ai⟩;have ae:=aQ.trans ai;have bj:=(au.trans (aa.ck aD ax ag aw)).trans ai;have aI:H6.get bm=some (.cells m.cells 70 false):=by rw[bj.keep _ (ac.lt al) br];exact al
     have b2:H6.get bi=some (.cells [.Z mid] 3 false):=by rw[bj.keep _ (ac.lt ak) bq];exact ak
     simp only[Mm.cells]at aI;simp only[Qep,Qb,simprocAttr,L8,r0,r1,r2,aI];cases az:m.b.n==4 with
     | true=>
      rw[az,Lc rfl,Na]at aq;simp only[Qb,simprocAttr,L8,YW];exact .mk ae.next ⟨by rw[aq,Lh];exact ad,ae⟩
     | false=>
      rw[az,Le (by simp)]at aq;simp only[Qb,simprocAttr,LM,r0,r1,r2,aI,b2];refine(Qk1 mid m.b 1 m.d av (λ_=>rfl) ar H6).thenW ?_;rintro ci H8 _ bO ⟨bM,aT⟩;obtain⟨b6,b4⟩:=aa.ext _ _ _ ad ap aT;have b9:=ae.trans (aa.ck ad ap aT bO);simp only[Qb,simprocAttr,r0,Zz];have bE:W[pre.length+(ZT mid 4 [QR 0 4 (Xz m.b)] m).length]? = some (QgI mid m.b 1 m.d):=by
       rw[aq,LR (Ro _ _),NL,LR (Lb _),BJ];rfl
      refine QgM (aa.go _ _ H6 H8 _ bE b6 ad ap bM (by have:=ae.next;omega) aT b4) ?_;rintro _ H9 cb cd ⟨rfl,b7,bF⟩;have bh:=b9.trans bF;simp only[Qb,simprocAttr,YW];refine .mk bh.next ⟨?_,bh⟩;have:W.length=pre.length+(ZT mid 4 [QR 0 4 (Xz m.b)] m).length+1:=by rw[aq];simp only[Lh,Lo,L9];omega
      rw[this];exact b7
    simp only[Qeq,Qb,simprocAttr,L8,am,ak];cases az:Xz m.b==4 with
    | true=>
     rw[az,Lc rfl]at ab;simp only[Qb,simprocAttr,L8];refine bp [] H2 _ ab ah (aa.ck ah ac (.refl _) ac) ?_ ?_ ?_ ?_
     all_goals simp only[Qf,simprocAttr]
    | false=>
     rw[az,Le (by simp)]at ab;simp only[Qb,simprocAttr,LM,am,ak];refine(QsF aa mid (Xz m.b) av aS (sib:=[]) (by simp) m ar 0 (by have:=ao.next;omega) ah (Hs:=H2) (.inl ⟨rfl,rfl,rfl⟩) (λid ⟨o,n,c,e⟩=>by cases e) (λi w h=>by
      have hi:=(Lk.1 h).1;rw[ab,LP,LY hi];exact h)).thenW ?_
     rintro _ H6 aG ap ⟨rfl,ad,ai⟩;simp only[Qb,simprocAttr,L8];rw[LP]at ad;refine bp _ H6 _ ab ad ai ?_ ?_ ?_ ?_
     all_goals simp only[Qf,simprocAttr]
end
def ldC (ss:List Value)(ws:List Ld):List Value:=(ss.zip ws).flatMap λp=>[p.1,.Z p.2.x,.Z p.2.h]
theorem QnC:∀ (ss:List Value) (ws:List Ld),ss.length=ws.length->(ldC ss ws).length=ws.length * 3
 | [],[],_=>rfl
 | s::ss,w::ws,h=>by
  have:=QnC ss ws (by simpa using h);unfold ldC at *;simp only[BF,Ba,Lh,Lo,L9,this];omega
theorem QFm (ss:List Value)(ws:List Ld)(h:ss.length=ws.length)(s:Value)(w:Ld):ldC (ss++[s]) (ws++[w])=ldC ss ws++[s,.Z w.x,.Z w.h]:=by
 unfold ldC;rw[List.zip_append h,Bm];rfl
structure XZ (e:TypeId) (H0 H:Qa) (v:Value) (ws:List Ld):Prop where
 it:∃ss:List Value,ss.length=ws.length∧Gx 3 e H0 H v ws.length (ldC ss ws)∧∀ (j:Nat) s w,ss[j]? = some s->ws[j]? = some w->Gx 1 5 H0 H s w.b.length (bys w.b)
theorem XZ.nil (e:TypeId)(H0 H:Qa):XZ e H0 H (.slice none 0 0) []:=⟨[],rfl,.inl ⟨rfl,rfl,rfl⟩,λj s w h=>by simp at h⟩
theorem XZ.go {e:TypeId}{H0 H H':Qa}{v:Value}{ws:List Ld}(h:XZ e H0 H v ws)(aa:H.Wf)(hx:Ext H H'):XZ e H0 H' v ws:=by
 obtain⟨ss,ab,ac,ad⟩:=h.it;exact⟨ss,ab,ac.go aa hx,λj s w ae ag=>(ad j s w ae ag).go aa hx⟩
theorem XZ.slc {e:TypeId}{H0 H:Qa}{v:Value}{ws:List Ld}(h:XZ e H0 H v ws):∃a c,v=.slice a ws.length c:=by
 obtain⟨ss,ab,aa,ac⟩:=h.it;exact aa.slc
theorem XZ.down {e:TypeId}{H0 H1 H:Qa}{v:Value}{ws:List Ld}(h:XZ e H1 H v ws)(hx:H0.next<=H1.next):XZ e H0 H v ws:=by
 obtain⟨ss,aa,ab,ac⟩:=h.it;exact⟨ss,aa,ab.down hx,λj s w ad ae=>(ac j s w ad ae).down hx⟩
theorem XZ.keep {e:TypeId}{H0 H H':Qa}{v:Value}{ws:List Ld}(h:XZ e H0 H v ws)(ae:∀id,H0.next<=id->(inB v id∨∃cs,H.get id=some (.cells cs 5 false))->H'.get id=H.get id):XZ e H0 H' v ws:=by
 obtain⟨ss,ag,aa,ah⟩:=h.it;refine⟨ss,ag,?_,λj s w ai aj=>?_⟩
 ·rcases aa with aa | ⟨b,c,rfl,ab,ac,ad⟩
  ·exact .inl aa
  ·exact .inr ⟨b,c,rfl,ab,by rw[ae b ab (.inl ⟨_,_,_,rfl⟩)];exact ac,ad⟩
 ·rcases ah j s w ai aj with aa | ⟨b,c,rfl,ab,ac,ad⟩
  ·exact .inl aa
  ·exact .inr ⟨b,c,rfl,ab,by rw[ae b ab (.inr ⟨_,ac⟩)];exact ac,ad⟩
theorem QBN {e bytes:Nat}(ar:e≠5){H0 H:Qa}{v s:Value}{w:Ld}{ws:List Ld}{ss:List Value}{k:Value->Qa->Prop}{x:Value}(ai:ss.length=ws.length)(ag:Gx 3 e H0 H v ws.length (ldC ss ws))(ap:∀ (j:Nat) s w,ss[j]? = some s->ws[j]? = some w->Gx 1 5 H0 H s w.b.length (bys w.b))(hx:Ext H0 H)(am:H.Wf)(al:Gx 1 5 H0 H s w.b.length (bys w.b))(az:YX 3 x H=some (1,[s,.Z w.x,.Z w.h]))(aq:(ws.length+1) * bytes<=140737488355328)(av:ws.length+1<=9223372036854775807)
  (h:∀ae H',(ss++[s]).length=(ws++[w]).length->Gx 3 e H0 H' ae (ws++[w]).length (ldC (ss++[s]) (ws++[w]))->(∀ (j:Nat) ah w',(ss++[s])[j]? = some ah->(ws++[w])[j]? = some w'->Gx 1 5 H0 H' ah w'.b.length (bys w'.b))->GK v ae H0 H H'->k ae H'):Qdv e 3 bytes v x H k:=by
 have ax:([s,.Z w.x,.Z w.h]:List Value).all (·.oneCell')=true:=by
  obtain⟨a,c,rfl⟩:=al.slc;rfl
 refine Qdk ag hx am az ax rfl aq av ?_;intro ae H' au ak;refine h ae H' (by simp[ai]) ?_ (λj ah w' aa ac=>?_) ak
 ·rw[QFm _ _ ai,Lh];exact au
 ·have aw:∀id c',H.get id=some (.cells c' 5 false)->¬inB v id:=λid c' aj hi=>by
   obtain⟨o,aA,c,rfl⟩:=hi;rcases ag with⟨h,_,_⟩ | ⟨b,c,h,an,ad,ao⟩
   ·cases h
   ·cases h;rw[ad]at aj;cases aj;exact ar rfl
  have key:∀ {s:Value} {bs:List Int},Gx 1 5 H0 H s bs.length (bys bs)->Gx 1 5 H0 H' s bs.length (bys bs):=λay=>by
   rcases ay with ag | ⟨b,c,rfl,an,ad,ao⟩
   ·exact .inl ag
   ·exact .inr ⟨b,c,rfl,an,by rw[ak.keep b (am.lt ad) (aw b _ ad)];exact ad,ao⟩
  rcases Dj j ss.length with ab | ab | ab
  ·rw[LY ab]at aa;rw[LY (by omega)]at ac;exact key (ap j ah w' aa ac)
  ·rw[LR (by omega)]at aa ac;rw[ab,BJ]at aa;rw[ab,ai,BJ]at ac;cases aa;cases ac;exact key al
  ·have:=(Lk.1 aa).1;simp at this;omega
theorem QKj {e bytes:Nat}(ag:e≠5){H0 H:Qa}{v s:Value}{w:Ld}{ws:List Ld}{k:Value->Qa->Prop}{x:Value}(ah:XZ e H0 H v ws)(hx:Ext H0 H)(al:H.Wf)(aj:Gx 1 5 H0 H s w.b.length (bys w.b))(ak:YX 3 x H=some (1,[s,.Z w.x,.Z w.h]))(ae:(ws.length+1) * bytes<=140737488355328)(ai:ws.length+1<=9223372036854775807)
  (h:∀aa H',XZ e H0 H' aa (ws++[w])->GK v aa H0 H H'->k aa H'):Qdv e 3 bytes v x H k:=by
 obtain⟨ss,ab,ac,ad⟩:=ah.it;exact QBN ag ab ac ad hx al aj ak ae ai λaa H' a b c d=>h aa H' ⟨_,a,b,c⟩ d
def Inc (ss:List Value)(U:Nat):Prop:=ss.Pairwise (λs aa=>∀a b,inB s a->inB aa b->a<b)∧∀s∈ss,∀a,inB s a->a<U
theorem Inc.mono {ss:List Value}{U U':Nat}(h:Inc ss U)(ac:U<=U'):Inc ss U':=⟨h.1,λs ab a aa=>N5 (h.2 s ab a aa) ac⟩
theorem Inc.snoc {ss:List Value}{U U':Nat}(h:Inc ss U)(ae:U<=U'){s:Value}(ab:∀a,inB s a->U<=a∧a<U'):Inc (ss++[s]) U':=by
 refine⟨List.pairwise_append.2 ⟨h.1,Bw _ _,λx hx y ad a b aa ac=>?_⟩,λx hx a aa=>?_⟩
 ·cases Sa.1 ad;have:=h.2 x hx a aa;have:=(ab b ac).1;omega
 ·rcases LI.1 hx with hx | hx
  ·have:=h.2 x hx a aa;omega
  ·cases Sa.1 hx;exact(ab a aa).2
structure LsU (e:TypeId) (H0 H:Qa) (v:Value) (ws:List Ld) (U:Nat):Prop where
 it:∃ss:List Value,ss.length=ws.length∧Gx 3 e H0 H v ws.length (ldC ss ws)∧(∀ (j:Nat) s w,ss[j]? = some s->ws[j]? = some w->Gx 1 5 H0 H s w.b.length (bys w.b))∧Inc ss U
section
variable {e:TypeId} {H0 H H' H1:Qa} {v:Value} {ws:List Ld} {U U':Nat}
theorem LsU.ls (h:LsU e H0 H v ws U):XZ e H0 H v ws:=by
 obtain⟨ss,aa,ab,ac,_⟩:=h.it;exact⟨ss,aa,ab,ac⟩
theorem LsU.nil (e:TypeId)(H0 H:Qa)(U:Nat):LsU e H0 H (.slice none 0 0) [] U:=⟨[],rfl,.inl ⟨rfl,rfl,rfl⟩,λj s w h=>by simp at h,List.Pairwise.nil,λs h=>by cases h⟩
theorem LsU.mono (h:LsU e H0 H v ws U)(ae:U<=U'):LsU e H0 H v ws U':=by
 obtain⟨ss,aa,ab,ac,ad⟩:=h.it;exact⟨ss,aa,ab,ac,ad.mono ae⟩
theorem LsU.of (h:LsU e H0 H v ws U)(aa:∀ {size e v n cs},Gx size e H0 H v n cs->Gx size e H1 H' v n cs):LsU e H1 H' v ws U:=by
 obtain⟨ss,ab,ac,ad,ae⟩:=h.it;exact⟨ss,ab,aa ac,λj s w a b=>aa (ad j s w a b),ae⟩
theorem LsU.go (h:LsU e H0 H v ws U)(aa:H.Wf)(hx:Ext H H'):LsU e H0 H' v ws U:=h.of λg=>g.go aa hx
theorem LsU.down (h:LsU e H1 H v ws U)(hx:H0.next<=H1.next):LsU e H0 H v ws U:=h.of λg=>g.down hx
end
theorem QBO {e bytes:Nat}(ah:e≠5){H0 H:Qa}{v s:Value}{w:Ld}{ws:List Ld}{U U':Nat}{k:Value->Qa->Prop}{x:Value}(ai:LsU e H0 H v ws U)(an:U<=U')(am:∀a,inB s a->U<=a∧a<U')(hx:Ext H0 H)(ao:H.Wf)(ak:Gx 1 5 H0 H s w.b.length (bys w.b))(al:YX 3 x H=some (1,[s,.Z w.x,.Z w.h]))(ag:(ws.length+1) * bytes<=140737488355328)(aj:ws.length+1<=9223372036854775807)
  (h:∀aa H',LsU e H0 H' aa (ws++[w]) U'->GK v aa H0 H H'->k aa H'):Qdv e 3 bytes v x H k:=by
 obtain⟨ss,ab,ac,ad,ae⟩:=ai.it;exact QBN ah ab ac ad hx ao ak al ag aj λaa H' a b c d=>h aa H' ⟨_,a,b,c,ae.snoc an am⟩ d
def clR (e:TypeId)(Hb:Qa)(cB lB:Nat)(eC:TypeId)(bl:Blk)(W:List Ld)(j:Nat)(H':Qa):Prop:=
 H'.get lB=some bl∧Hb.next<=H'.next∧(∀id,id<Hb.next->id≠cB->id≠lB->H'.get id=Hb.get id)∧∃v,H'.get cB=some (.cells [v] eC false)∧XZ e Hb H' v (W.take j)∧∀id,inB v id->id<H'.next∧Hb.next<=id
def clO (cB lB:Nat)(eC:TypeId)(H:Qa)(id:Nat):Prop:=id=cB∨id=lB∨∃v,H.get cB=some (.cells [v] eC false)∧inB v id
theorem QH2 {e:TypeId}{Hb:Qa}{cB lB:Nat}(ak:cB<Hb.next)(al:lB<Hb.next){eC:TypeId}{bl:Blk}{W:List Ld}{j:Nat}{H1 H2:Qa}(h:clR e Hb cB lB eC bl W j H1)(ah:H1.Wf)(hx:Ext H1 H2):clR e Hb cB lB eC bl W j H2∧∀id,clO cB lB eC H2 id->clO cB lB eC H1 id:=by
 obtain⟨ab,aj,ac,v,ad,ae,ag⟩:=h;have am:=hx.next;have aa:=hx.get cB (by omega);refine⟨⟨by rw[hx.get lB (by omega)];exact ab,by omega,λid a b c=>by rw[hx.get id (by omega)];exact ac id a b c,v,by rw[aa];exact ad,ae.go ah hx,λid hi=>?_⟩,λid hi=>?_⟩
 ·have:=ag id hi;exact⟨by omega,this.2⟩
 ·rcases hi with h | h | ⟨ai,h,hi⟩
  ·exact .inl h
  ·exact .inr (.inl h)
  ·exact .inr (.inr ⟨ai,by rw[<- aa];exact h,hi⟩)
theorem QH3 {e:TypeId}{Hb:Qa}{cB lB:Nat}(ah:cB<Hb.next)(ai:lB<Hb.next){eC:TypeId}{bl:Blk}{W:List Ld}{j:Nat}{H1:Qa}(h:clR e Hb cB lB eC bl W j H1){id:Nat}(hi:clO cB lB eC H1 id):id<H1.next:=by
 obtain⟨ac,ad,ae,v,aa,ag,ab⟩:=h;rcases hi with rfl | rfl | ⟨aj,h,hi⟩
 ·omega
 ·omega
 ·rw[aa]at h;cases h;exact(ab id hi).1
theorem Qyo (f:FuncId)(aN:entered prog f=true)(aq:List Value)(W:List Ld)(bo:W.length<=1000)(H:Qa)
  (aP:∀ (l:Nat) (R:Nat->Qa->Prop) (Own:Qa->Nat->Prop) (H':Qa),Cns H'.next l W LdV R Own->R 0 H'->Ext H H'->(∀id,id<H.next->¬Own H' id)->Qe prog f ([.func (.yield l) #[] #[]]++aq) H' λu H2=>R W.length H2∧CK Own H' H2):
  Qe prog 305 [.slice none 0 0,.func (.func f) #[] aq.toArray] H λv H'=>XZ 210 H H' v W∧Ext H H':=by
 refine JG λaW=>?_;simp only[Xf,Qb,simprocAttr];generalize ae:H.push _=H1;obtain⟨eC,aF⟩:∃eC,H1.get H.next=some (.cells [.slice none 0 0] eC false):=⟨_,by rw[<- ae,Qc,Lc rfl]⟩;have ba:Ext H H1:=by rw[<- ae];exact(Ext.refl H).push _
 have aX:H1.Wf:=by rw[<- ae];exact aW.push _
 have aR:H1.next=H.next+1:=by rw[<- ae];rfl
 clear ae;simp only[Qf,simprocAttr,Ya];rw[QaB f [] aq];intro L aL;refine⟨aN,?_⟩;have aA:Ext H (H1.push (L none)):=ba.push _;have bx:(H1.push (L none)).next=H.next+2:=by rw[Qd,aR]
 have ar:(H1.push (L none)).get H.next=some (.cells [.slice none 0 0] eC false):=by rw[Qc,Le (by omega)];exact aF
 have aH:(H1.push (L none)).get H1.next=some (L none):=by rw[Qc,Lc rfl]
 have b4:=aX.push (L none);generalize H1.push (L none)=Hb at *;have av:H.next<Hb.next:=by omega
 have ax:H1.next<Hb.next:=by omega
 refine(aP H1.next (clR 210 Hb H.next H1.next eC (L none) W) (clO H.next H1.next eC) Hb ⟨?_,?_,?_⟩ ?_ aA ?_).thenW ?_
 ·exact λj Ha Hc h aZ hx=>QH2 av ax h aZ hx
 ·exact λj Ha id h hi=>QH3 av ax h hi
 ·rintro j w H0' H1' b7 aw aK _ _ ⟨s,rfl,aS⟩ aM b5 bn ao;obtain⟨am,aI,an,v,ad,ai,aJ⟩:=aK;refine aL H1.next _ H1' _ am rfl ?_ ao;have bq:=(Lk.1 aw).1;have az:Gx 1 5 Hb H1' s w.b.length (bys w.b):=aS.down aM
  -- the loop's Qww is taken away while its body runs
  have ab:∀id,id≠H1.next->(H1'.kill H1.next).get id=H1'.get id:=λid aa=>by rw[Q0,Le aa]
  have ay:(H1'.kill H1.next).next=H1'.next:=rfl;have ap:(H1'.kill H1.next).Wf:=ao.kill _;have k5:=(ab H.next (by omega)).trans ad;have k6:XZ 210 Hb (H1'.kill H1.next) v (W.take j):=ai.keep λid aa _=>ab id (by omega);have ks:Gx 1 5 Hb (H1'.kill H1.next) s w.b.length (bys w.b):=az.ext λid aa=>ab id (by have:=az.low ao aa;omega);have k3:∀id,id<Hb.next->id≠H.next->id≠H1.next->(H1'.kill H1.next).get id=Hb.get id:=λid a b c=>(ab id c).trans (an id a b c);generalize bm:H1'.kill H1.next=Hk at *;obtain⟨a,c,rfl⟩:=ks.slc;obtain⟨ak,al,rfl⟩:=k6.slc;have bg:¬H.next=Hk.next:=by omega
  simp only[K3,V6,Qb,simprocAttr,bg,LN,k5];generalize ag:Qa.push (Qa.set (Qa.push Hk _) _ _) _=H5;have ah:Ext Hk H5:=by rw[<- ag];exact(((Ext.refl Hk).push _).set (Lb _) _).push _
  have aY:H5.Wf:=by rw[<- ag];exact((ap.push _).set (b0:=.cells [.slice none 0 0,.Z 0,.Z 0] 210 false) (by rw[Qc,Lc rfl]) _).push _
  have aG:H5.get (Hk.next+1)=some (.cells [.slice a w.b.length c,.Z w.x,.Z w.h] 210 false):=by rw[<- ag,Qc,Lc (by rw[Qo,Qd])]
  have bw:H5.next=Hk.next+2:=by rw[<- ag,Qd,Qo,Qd]
  clear ag;have aT:YX 3 (.S (Hk.next+1) 1 1) H5=some (1,[.slice a w.b.length c,.Z w.x,.Z w.h]):=by
   rw[KM aG (by decide) (by simp)];rfl
  have br:(W.take j).length<=1000:=by rw[Sb];omega
  -- what was there when the loop began may have changed at its variable and its Qww alone;the rest of the list is new
  have bc:∃Hz:Qa,Ext Hz H5∧Hz.next=Hb.next:=⟨⟨Hb.next,H5.tr⟩,⟨by show Hb.next<=H5.next;omega,λid _=>rfl⟩,rfl⟩;obtain⟨Hz,aC,b2⟩:=bc;have aQ:XZ 210 Hz H5 (.slice ak (W.take j).length al) (W.take j):=(k6.go ap ah).down (by omega);have aU:Gx 1 5 Hz H5 (.slice a w.b.length c) w.b.length (bys w.b):=(ks.go ap ah).down (by omega);refine QKj (by decide) aQ aC aY aU aT (by omega) (by omega) ?_;intro bj H6 aj ac;obtain⟨aE,c',rfl⟩:=aj.slc;have aV:W.take (j+1)=W.take j++[w]:=by rw[Nv,aw];rfl
  rw[<- aV]at aj ac ⊢;have au:∀id,id<Hb.next->H6.get id=H5.get id:=λid aa=>(ac.x.get id (by omega)).trans (aC.get id (by omega)).symm;have bd:H6.get H.next=some (.cells [.slice ak (W.take j).length al] eC false):=by rw[au _ (by omega),ah.get _ (by omega)];exact k5
  have bz:=ac.next;simp only[Qb,simprocAttr,K2,bd];refine⟨by omega,⟨by rw[Qh,Lc rfl],by rw[Qo,Qo];omega,λid p q r=>?_,.slice aE (W.take (j+1)).length c',?_,?_,λid hi=>?_⟩,⟨by rw[Qo,Qo];omega,?_,λid p q=>?_,λid hi=>?_⟩⟩
  ·rw[Qh,Le r,Qh,Le q,au _ (by omega),ah.get _ (by omega)];exact k3 id p q r
  ·rw[Qh,Le (by omega),Qh,Lc rfl]
  ·refine XZ.keep (H0:=Hb) (H:=H6) (aj.down (by omega)) λid aa _=>?_;rw[Qh,Le (by omega),Qh,Le (by omega)]
  ·obtain⟨ss,_,aO,_⟩:=aj.it;have:=aO.low ac.w hi;rw[Qo,Qo];exact⟨this.2,by omega⟩
  ·intro id aa;rw[Qo,Qo]at aa;rw[Qh,Le (by omega),Qh,Le (by omega)];exact ac.w id aa
  ·have bh:id≠H.next:=λh=>q (.inl h);have aD:id≠H1.next:=λh=>q (.inr (.inl h));have bi:¬inB (.slice ak (W.take j).length al) id:=λh=>q (.inr (.inr ⟨_,ad,h⟩));rw[Qh,Le aD,Qh,Le bh,ac.keep id (by omega) bi,ah.get _ (by omega),ab id aD]
  ·rcases hi with h | h | ⟨b6,h,hi⟩
   ·exact .inl (.inl h)
   ·exact .inl (.inr (.inl h))
   ·rw[Qh,Le (by omega),Qh,Lc rfl]at h;cases h;rcases ac.new id hi with h | h
    ·exact .inl (.inr (.inr ⟨_,ad,h⟩))
    ·exact .inr (by omega)
 ·exact⟨aH,Lb _,λ_ _ _ _=>rfl,_,ar,XZ.nil _ _ _,λid ⟨o,n,c,h⟩=>by cases h⟩
 ·rintro id aa (h | h | ⟨bj,h,hi⟩)
  ·omega
  ·omega
  ·rw[ar]at h;cases h;obtain⟨o,n,c,h⟩:=hi;cases h
 ·rintro u H2 bu b3 ⟨⟨am,aI,an,v,ad,ai,aJ⟩,bp⟩;refine⟨none,am,?_⟩;have ab:∀id,id≠H1.next->(H2.kill H1.next).get id=H2.get id:=λid aa=>by rw[Q0,Le aa]
  have ay:(H2.kill H1.next).next=H2.next:=rfl;have k5:=(ab H.next (by omega)).trans ad;rw[Nr]at ai;have k6:XZ 210 Hb (H2.kill H1.next) v W:=ai.keep λid aa _=>ab id (by omega);have aB:Ext H (H2.kill H1.next):=⟨by rw[ay];omega,λid aa=>by rw[ab id (by omega),an id (by omega) (by omega) (by omega)];exact aA.get id aa⟩;generalize H2.kill H1.next=H3 at *;simp only[Qb,simprocAttr,V5,k5,Jj];exact .mk aB.next ⟨k6.down (by omega),aB⟩
theorem QDg (f:FuncId)(ac:entered prog f=true)(aa:List Value)(W:List Ld)(ab:W.length<=1000)(H:Qa)
  (ad:∀ (l:Nat) (R:Nat->Qa->Prop) (Own:Qa->Nat->Prop) (H':Qa),Cns H'.next l W LdV R Own->R 0 H'->Ext H H'->(∀id,id<H.next->¬Own H' id)->Qe prog f ([.func (.yield l) #[] #[]]++aa) H' λu H2=>R W.length H2∧CK Own H' H2):
  Qe prog 283 [.func (.func f) #[] aa.toArray] H λv H'=>XZ 210 H H' v W∧Ext H H':=by
 refine QcV λag=>?_;simp only[Ji,Qb,simprocAttr];refine(Qyo f ac aa W ab H ad).thenW ?_;rintro v H1 _ _ ⟨ae,hx⟩;simp only[Qb,simprocAttr,Qb3];exact .mk hx.next ⟨ae,hx⟩
def Qqt (mid:Int)(a:Ar):List Ld×Int:=
 if(decide (mid<0)||decide (mid>7))=true then([],5)
 else if(WD a==0)=false then([],WD a)
 else if(a.k==1)=true then([⟨[QR 3 mid (Xz a.r)],0,GI a.r⟩],0)
 else if(a.k==2)=true then(Qk7 mid (Wt a.m),0)
 else([],2)
theorem QlZ (mid aa:Int)(sib:List Int)(m:Mm):(ZT mid aa sib m).length<=3:=by
 have h:∀ab,(Kb mid aa sib m ab).length<=1:=λab=>by unfold Kb;split<;>simp
 have e:ZT mid aa sib m=Kb mid aa sib m 0++(Kb mid aa sib m 1++(Kb mid aa sib m 2++[])):=rfl;have ac:=h 0;have ad:=h 1;have ae:=h 2;rw[e];simp only[Lh,L9];omega
theorem Qyp (mid:Int)(m:Mm):(Qk7 mid m).length<=8:=by
 unfold Qk7;split
 ·simp
 ·split
  ·simp
  ·split
   ·have:=QlZ mid 4 [QR (Qam m.sc) (Xz m.i) (Xz m.b)] m;omega
   ·have aa:=QlZ mid (Xz m.b) [] m;have ab:=QlZ mid 4 [QR 0 4 (Xz m.b)] m;simp only[Lh];split<;>split<;>simp<;>omega
theorem Qwj (mid:Int)(m:Mm)(H:Qa):Qe prog 284 [.Z mid,.agg m.cells.toArray] H λu H'=>∃ab aa,u=.func (.func 306) #[] #[.P ab,.P aa]∧Ext H H'∧H.next<=ab∧H.next<=aa∧H'.get ab=some (.cells m.cells 70 false)∧H'.get aa=some (.cells [.Z mid] 3 false):=by
 refine Qtu λad=>?_;have ac:(Value.agg m.cells.toArray).cells.toList=m.cells:=rfl;simp only[QkE,ac,Qb,simprocAttr,Qsb];have hx:Ext H ((H.push (.cells [.Z mid] 3 false)).push (.cells m.cells 70 false)):=((Ext.refl H).push _).push _;exact .mk hx.next ⟨_,_,rfl,hx,by omega,Lb _,by rw[Qc,Lc (by rw[Qd])],by rw[Qc,Le (by rw[Qd];omega),Qc,Lc rfl]⟩
theorem QFn {m:Mm}(h:QI m=0):-2147483648<=m.d∧m.d<=2147483647:=by
 unfold QI at h;split at h
 ·simp at h
 ·rename_i aa;simp at aa;omega
theorem QuF {m:Mm}(h:QI m=0)(hi:isR m.i 0 0=false):Wz m.sc=true:=by
 unfold QI at h;split at h
 ·simp at h
 ·split at h
  ·simp at h
  ·split at h
   ·simp at h
   ·split at h
    ·simp at h
    ·split at h
     ·rename_i aa;rw[aa]at hi;cases hi
     ·split at h
      ·simp at h
      ·rename_i ab;cases e:Wz m.sc with
       | true=>rfl
       | false=>simp[e]at ab
theorem QFo (m:Mm):(Wt m).d=m.d:=by unfold Wt;split<;>(try rfl);split<;>(try rfl);split<;>rfl
theorem QDh {m:Mm}(h:QI m=0)(hi:isR (Wt m).i 0 0=false):Wz (Wt m).sc=true:=by
 unfold Wt at hi ⊢;split
 ·rename_i aa;rw[Lc aa]at hi;exact QuF h hi
 ·rename_i aa;rw[Le aa]at hi;split
  ·rename_i ab;rw[Lc ab]at hi;cases hi
  ·rename_i ab;rw[Le ab]at hi;have ac:isR m.i 0 0=false:=by
    cases e:isR m.i 0 0 with
    | false=>rfl
    | true=>simp[e]at aa
   have:=QuF h ac;split<;>exact this
theorem Qyq (mid:Int)(a:Ar)(H:Qa):Qe prog 220 [.Z mid,.agg a.cells.toArray] H λu H'=>∃v,u=.tuple #[v,.Z (Qqt mid a).2]∧XZ 210 H H' v (Qqt mid a).1∧Ext H H':=by
 refine QvU λbn=>?_;have bq:=KR a;have aS:=Qal a.r;have aT:=Qdo a.r;have aD:=QiF a.m;have ar:Qat a.m=if QI a.m=0 then(Wt a.m,0) else(WX,QI a.m):=rfl
 have aG:∀h:(a.k==2)=true,WD a=QI a.m:=λh=>by
  have:a.k=2:=by simpa using h
  simp[WD,this]
 have aI:=Qv7 a.r;obtain⟨w,aa⟩:∃w,w=Qqt mid a:=⟨_,rfl⟩;rw[<- aa];unfold Qqt at aa;have aY:(Value.agg a.cells.toArray).cells.toList=a.cells:=rfl;have aA:=(Ext.refl H).push (.cells a.cells 95 false);have b4:=bn.push (.cells a.cells 95 false);have av:(H.push (.cells a.cells 95 false)).get H.next=some (.cells a.cells 95 false):=by rw[Qc,Lc rfl]
 have b3:(H.push (.cells a.cells 95 false)).next=H.next+1:=rfl;have bu:=av;have aX:a.cells.take 11=a.cells:=rfl;simp only[Qne,aY,Wu,simprocAttr];generalize H.push (.cells a.cells 95 false)=H1 at *;have aF:∀ (A:Env),w=([],5)->A 4=.slice none 0 0->A 5=.Z 5->Rt prog Tryz.f220 H (λu H'=>∃v,u=.tuple #[v,.Z w.2]∧XZ 210 H H' v w.1∧Ext H H') A H1:=by
  intro A e r4 br;subst e;simp only[Kz,r4,br];exact .mk aA.next ⟨_,rfl,XZ.nil _ _ _,aA⟩
 have bh:(decide (mid<0)||decide (mid>7))=false->∀ (A:Env),A 0=.Z mid->A 3=.P H.next->Qk prog QcT ⟨Rt prog Tryz.f220 H (λu H'=>∃v,u=.tuple #[v,.Z w.2]∧XZ 210 H H' v w.1∧Ext H H'),Xi⟩ (Rt prog Tryz.f220 H (λu H'=>∃v,u=.tuple #[v,.Z w.2]∧XZ 210 H H' v w.1∧Ext H H')) A H1:=by
  intro aJ A r0 r3;have aK:0<=mid∧mid<8:=by simp at aJ;omega
  rw[aJ,Le (by simp)]at aa;simp only[QcT,Qb,simprocAttr,r0,r3,av,Lw,aX];refine⟨Lb _,?_⟩;refine(bq H1).thenW ?_;rintro _ _ aL b5 ⟨rfl,k,rfl⟩;simp only[Qw]at aL;have ac:=aA.up aL;have ae:(H1.up k).get H.next=some (.cells a.cells 95 false):=by rw[Xo];exact av
  generalize H1.up k=H2 at *;simp only[Qb,simprocAttr];cases au:WD a==0 with
  | false=>
   rw[au,Lc rfl]at aa;subst aa;simp only[Qb,simprocAttr,LM,Kz];exact .mk ac.next ⟨_,rfl,XZ.nil _ _ _,ac⟩
  | true=>
   rw[au,Le (by simp)]at aa;have bc:WD a=0:=by simpa using au
   obtain⟨b7,⟨am,an⟩,⟨⟨ao,ap⟩,⟨aB,aC⟩,sc,d,sz⟩,n⟩:=a;simp only[Ar.cells,Rg.cells,Mm.cells]at ae aS aT aD;simp only[Qi1,Qb,simprocAttr,L8,r0,r3,ae];simp only at aa aI ar aG;refine Qg (λh=>?_) (λh=>?_)
   ·rw[h,Lc rfl]at aa;simp only[QiY,Qb,simprocAttr,r0,r3,ae];refine(aS H2).thenW ?_;rintro _ _ ag az ⟨rfl,k3,rfl⟩;simp only[Qw]at ag;have ah:=ac.up ag;have aw:=ae;rw[<- Xo H2 k3]at aw;generalize H2.up k3=H3 at *;simp only[Qb,simprocAttr];refine(Yq 3 mid _ (by decide) aK aI H3).thenW ?_;rintro _ H3 _ _ ⟨rfl,rfl⟩;have ak:=ah.push (.cells [.int .u8 (QR 3 mid (Xz ⟨am,an⟩))] 5 false);have bo:=az.push (.cells [.int .u8 (QR 3 mid (Xz ⟨am,an⟩))] 5 false);have bd:=QsH H3 (QR 3 mid (Xz ⟨am,an⟩));have bx:=az.lt aw;have bp:¬H.next=H3.next:=by omega
    simp only[Qb,simprocAttr,bp,LN,aw,r3];generalize H3.push _=H4 at *;refine(aT H4).thenW ?_;rintro _ _ ay aj ⟨rfl,k5,rfl⟩;simp only[Qw]at ay;have ai:=ak.up ay;have bg:=bd.go bo ((Ext.refl H4).up ay);generalize H4.up k5=H5 at *;simp only[Qb,simprocAttr,Kz];have bz:=ac.next;have al:=ai.push (.cells [.S H3.next 1 1,.Z 0,.Z (GI ⟨am,an⟩)] 210 false);have b2:=ah.next;refine .mk al.next ⟨_,by rw[aa],⟨[.S H3.next 1 1],by rw[aa];rfl,?_,?_⟩,al⟩
    ·rw[aa];exact .inr ⟨_,_,rfl,by have:=ai.next;omega,by rw[Qc,Lc rfl];rfl,rfl,.inl rfl⟩
    ·intro j s w' aN aO;rw[aa]at aO;rcases j with _ | j
     ·cases aN;cases aO;exact(bg.go aj ((Ext.refl H5).push _)).down (by omega)
     ·simp at aN
   ·rw[h,Le (by simp)]at aa;simp only[Qi0,Qb,simprocAttr,r0,r3];refine Qg (λab=>?_) (λab=>?_)
    ·rw[ab,Lc rfl]at aa;simp only[QiZ,Qb,simprocAttr,r0,r3,ae];have ax:=(aG ab).symm.trans bc;rw[Lc ax]at ar;rw[ar]at aD;refine(aD H2).thenW ?_;rintro _ _ ag az ⟨rfl,k3,rfl⟩;simp only[Qw]at ag;have ah:=ac.up ag;generalize H2.up k3=H3 at *;generalize aH:Wt ⟨⟨ao,ap⟩,⟨aB,aC⟩,sc,d,sz⟩=m at *;have bi:I64 m.d:=by
      have bw:=QFn ax;have ad:=QFo ⟨⟨ao,ap⟩,⟨aB,aC⟩,sc,d,sz⟩;rw[aH]at ad;rw[ad];unfold I64;omega
     have bj:isR m.i 0 0=false->Wz m.sc=true:=by
      have ad:=@QDh ⟨⟨ao,ap⟩,⟨aB,aC⟩,sc,d,sz⟩ ax;rw[aH]at ad;exact ad
     simp only[Mm.cells,Qb,simprocAttr,LO,L8,r0];generalize aE:Qa.set (Qa.push H3 _) _ _=H4;have ak:Ext H H4:=by rw[<- aE];exact(ah.push _).set (by have:=ah.next;omega) _
     clear aE;have aU:=Qwj mid m H4;simp only[Mm.cells]at aU;refine aU.thenW ?_;rintro _ H5 _ aj ⟨aW,aV,rfl,ai,o1,o2,g1,g2⟩;have aQ:=aj.lt g1;have aR:=aj.lt g2;have b6:=Qyp mid m;simp only[Qb,simprocAttr];refine(QDg 306 (by kernel_rfl) [.P aW,.P aV] (Qk7 mid m) (by omega) H5 ?_).thenW ?_
     ·intro l R Own H' ba aZ hx aM;exact QtP ba (Lb _) aK bi bj aZ (by rw[hx.get _ aQ];exact g1) (by rw[hx.get _ aR];exact g2) (aM _ aQ) (aM _ aR)
     ·rintro v H6 _ _ ⟨bm,al⟩;have aP:=(ak.trans ai).trans al;simp only[Qb,simprocAttr,Kz];exact .mk aP.next ⟨v,by rw[aa],by rw[aa];exact bm.down (ak.trans ai).next,aP⟩
    ·rw[ab,Le (by simp)]at aa;subst aa;simp only[Qb,simprocAttr,Kz];exact .mk ac.next ⟨_,rfl,XZ.nil _ _ _,ac⟩
 cases aq:decide (mid<0) with
 | true=>
  rw[aq,N1,Lc rfl]at aa;simp only[Qb,simprocAttr];refine aF _ aa ?_ ?_
  all_goals simp only[Qf,simprocAttr]
 | false=>
  cases ab:decide (mid>7) with
  | true=>
   rw[aq,ab,Bd,Lc rfl]at aa;simp only[Qb,simprocAttr,ab];refine aF _ aa ?_ ?_
   all_goals simp only[Qf,simprocAttr]
  | false=>
   simp only[Qb,simprocAttr,ab];refine bh (by rw[aq,ab];rfl) _ ?_ ?_
   all_goals simp only[Qf,simprocAttr]
end Go.Proofs.YtopkfjiipdjbmaaGreatDoor.code
