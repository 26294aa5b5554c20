/- Operands in new memory. -/
import Derived.Test.YtgepgbbjfhggfaaGreatDoorLibI
import Derived.Test.YtgepgbbjfhggfaaGreatDoorLibC
import Derived.Test.YtgepgbbjfhggfaaGreatDoorLibW
import Derived.Test.YtgepgbbjfhggfaaGreatDoorC9Ref
import Derived.Test.YtgepgbbjfhggfaaGreatDoorLibJ
import Derived.Test.YtgepgbbjfhggfaaGreatDoorLibG
set_option linter.unusedVariables false
set_option linter.unusedSimpArgs false
set_option maxRecDepth 100000
set_option maxHeartbeats 4000000
namespace Go.Proofs.YtgepgbbjfhggfaaGreatDoor.code
open Go.Ab
def Qe4 (H0 H:Qa)(v:Value)(l:List Ar):Prop:=(v=.slice none 0 0∧l=[])∨∃b,v=.slice (some ⟨b,0,none⟩) l.length l.length∧H0.next<=b∧b<H.next∧(0<l.length->H.get b=some (.cells (Qh l) 58 false))
theorem Qe4.ars {H0 H:Qa}{v:Value}{l:List Ar}(h:Qe4 H0 H v l):Qt H v l:=by
 rcases h with⟨rfl,rfl⟩ | ⟨b,rfl,_,_,h⟩
 ·exact⟨none,0,rfl,λh=>absurd h (NX 0)⟩
 ·exact⟨_,_,rfl,λq=>⟨b,_,_,rfl,h q⟩⟩
theorem Qe4.below {H0 H:Qa}{v:Value}{l:List Ar}(op:Int)(h:Qe4 H0 H v l)(n:Nat)(q:H.next<=n):Qi n 6 (.agg #[.int .i64 op,v])=true:=by
 rcases h with⟨rfl,rfl⟩ | ⟨b,rfl,_,hb,h⟩
 ·simp[Qi,Ab.plain]
 ·simp[Qi,Ab.plain];omega
theorem Qe4.go {H0 H H':Qa}{v:Value}{l:List Ar}(h:Qe4 H0 H v l)(q:Ext H H'):Qe4 H0 H' v l:=by
 rcases h with h | ⟨b,rfl,aa,ab,ac⟩
 ·exact .inl h
 ·exact .inr ⟨b,rfl,aa,by have:=q.next;omega,λad=>by rw[q.get b ab];exact ac ad⟩
theorem Qe4.down {H0 H1 H:Qa}{v:Value}{l:List Ar}(h:Qe4 H1 H v l)(ab:H0.next<=H1.next):Qe4 H0 H v l:=by
 rcases h with h | ⟨b,rfl,aa,q⟩
 ·exact .inl h
 ·exact .inr ⟨b,rfl,by omega,q⟩
theorem Qe4.set {H0 H:Qa}{v:Value}{l:List Ar}(h:Qe4 H0 H v l){p:Nat}(ad:p<H0.next)(x:Blk):Qe4 H0 (H.set p x) v l:=by
 rcases h with h | ⟨b,rfl,q,aa,ab⟩
 ·exact .inl h
 ·exact .inr ⟨b,rfl,q,by rw[Qv];exact aa,λac=>by rw[Qn,Le (by omega)];exact ab ac⟩
theorem QEm {P:Program}{A:Env}{H H':Qa}{k:Value->Qa->Prop}{t t2:TypeId}{size:Nat}{x y:Operand}{v:Value}(q:QuX P t size=true)(ac:Qqt size (ev A x) (ev A y) H=some (v,H')):
  pr P (.gen (.call ⟨.builtin .copy,#[x,y],#[t,t2]⟩)) false A H k=k v H':=by
 unfold QuX at q;split at q
 ·rename_i e aa;split at q
  ·rename_i ad ab;have e0:ad.size=size:=LA q;subst e0;exact QvM (by
    simp only[rop,aop,QhT,aa,ab,ac];rfl)
  ·cases q
 ·cases q
theorem Qz7 (z:Array Value)(m:Nat):(YM z m).length=m:=by simp[YM]
theorem Qjm {op:Int}{va:Value}{l:List Ar}(H:Qa)(aw:Qt H va l)(aO:l.length<=1000):Qe prog 40 [.agg #[.int .i64 op,va]] H λu H'=>∃b,u=.agg #[.int .i64 op,.slice (some ⟨b,0,none⟩) l.length l.length]∧H.next<=b∧b<H'.next∧(0<l.length->H'.get b=some (.cells (Qh l) 58 false))∧Ext H H':=by
 refine Qqc λaj=>?_;obtain⟨a0,cap,rfl,av⟩:=aw;have aE:QuX prog 22 11=true:=by kernel_rfl
 simp only[QhJ,JL,simprocAttr];generalize aa:Qa.push H _=H1;have g1:H1.get H.next=some (.cells [.int .i64 op,.slice a0 l.length cap] 24 false):=by rw[<- aa,Qc,Lc rfl];rfl
 have aI:Ext H H1:=by rw[<- aa];exact(Ext.refl H).push _
 have aG:H1.Wf:=by rw[<- aa];exact aj.push _
 have ai:H1.next=H.next+1:=by rw[<- aa];rfl
 clear aa;simp only[Qb,simprocAttr,ai];generalize q:Qa.push H1 _=H2;have aJ:Ext H H2:=by rw[<- q];exact(aI.push _)
 have aH:H2.Wf:=by rw[<- q];exact(aG.push _)
 have g2:H2.get H.next=some (.cells [.int .i64 op,.slice a0 l.length cap] 24 false):=by rw[<- q,Qc,Le (by omega)];exact g1
 have aq:H2.get (H.next+1)=some (.cells [.int .i64 0,.slice none 0 0] 24 false):=by rw[<- q,Qc,Lc (by omega)]
 have aP:H2.next=H.next+2:=by rw[<- q,Qd,ai]
 clear q;have aL:¬H.next=H2.next:=by omega
 have aM:¬H.next+1=H2.next:=by omega
 simp only[Qb,simprocAttr,aL,aM,LN,g1,g2,QL,QuF];refine⟨⟨by omega,by omega,by omega,by omega⟩,?_⟩;have ao:(l.length:Int).toNat=l.length:=by omega
 rw[ao];generalize am:YM _ _=zs;have aT:zs.length=l.length * 11:=by rw[<- am,Qz7]
 clear am;have ae:=(Ext.refl H2).push (.cells zs 58 false);have ak:=aH.push (.cells zs 58 false);have g3:(H2.push (.cells zs 58 false)).get H2.next=some (.cells zs 58 false):=by rw[Qc,Lc rfl]
 have aQ:(H2.push (.cells zs 58 false)).next=H2.next+1:=rfl;generalize H2.push (.cells zs 58 false)=H3 at *;have ag:=aJ.trans ae
 -- what is copied
 obtain⟨H4,an,ay,aR,aS,ac,az⟩:∃H4 an,Qqt 11 (.slice (some ⟨H2.next,0,none⟩) l.length l.length) (.slice a0 l.length cap) H3=some (an,H4)∧H4.next=H3.next∧H4.Wf∧(∀id,id≠H2.next->H4.get id=H3.get id)∧(0<l.length->H4.get H2.next=some (.cells (Qh l) 58 false)):=by
  by_cases ab:l.length=0
  ·refine⟨H3,.int .i64 0,?_,rfl,ak,λ_ _=>rfl,λh=>by omega⟩;have ad:Zt 11 (.slice a0 l.length cap) H3=some (0,[]):=by rw[ab];cases a0<;>simp[Zt]
   unfold Qqt;rw[ad];simp[ab]
  ·obtain⟨b,e,ro,rfl,ah⟩:=av (by omega);have aA:H3.get b=some (.cells (Qh l) e ro):=by rw[ag.get _ (aj.lt ah)];exact ah
   have aN:=Qr l;have ad:Zt 11 (.slice (some ⟨b,0,none⟩) l.length cap) H3=some (l.length,Qh l):=by
    rw[Y5 aA ab (by omega),Lw,LF (by omega)]
   have aC:Nat.min l.length l.length=l.length:=Nat.min_self _;have ax:(Qh l).all (·.oneCell')=true:=by
    rw[Li];intro v aF;obtain⟨a,_,h⟩:=NF.1 aF;exact Li.1 (show(a.cells.all λv=>v.oneCell')=true from rfl) v h
   have aD:splice zs 0 (Qh l)=Qh l:=by
    unfold splice;rw[Rb,LH,NK (by omega),Na]
   refine⟨H3.set H2.next (.cells (Qh l) 58 false),.int .i64 l.length,?_,rfl,ak.set g3 _,λid h=>by rw[Qn,Le h],λ_=>by rw[Qn,Lc rfl]⟩;unfold Qqt;rw[ad];simp only[aC,ab,LN,g3];rw[Lc ⟨by omega,by rw[LF (by omega)];exact ax⟩,LF (by omega),aD]
 rw[QEm (size:=11) aE (by simp only[Qg,simprocAttr];exact ay)];have ar:H4.get H.next=some (.cells [.int .i64 op,.slice a0 l.length cap] 24 false):=by rw[ac _ (by omega),ae.get _ (by omega)];exact g2
 have au:H4.get (H.next+1)=some (.cells [.int .i64 0,.slice none 0 0] 24 false):=by rw[ac _ (by omega),ae.get _ (by omega)];exact aq
 have aK:Ext H H4:=⟨by have:=ag.next;omega,λid aB=>by rw[ac id (by omega)];exact ag.get id aB⟩;simp only[Qb,simprocAttr,ar,au,Qpg];have al:=aK.set (show H.next<=H.next+1 by omega) (.cells [.int .i64 op,.slice (some ⟨H2.next,0,none⟩) l.length l.length] 24 false);refine .mk al.next ⟨H2.next,rfl,by omega,by rw[Qv];omega,λh=>?_,al⟩;rw[Qn,Le (by omega)];exact az h
def Qfd (l:List Ar):Int:=if(l.any λa=>a.k==2)=true then(l.findIdx λa=>a.k==2:Nat) else -1
def WS (l:List Ar)(k:Nat)(s:Int):List Ar:=l.set k {l.getD k Q7 with m:={(l.getD k Q7).m with sz:=s}}
def Qe7 (L:List Fm)(op:Int)(l:List Ar)(k:Nat)(s:Int):Bool:=(QO op (WS l k s)==0)&&!(VZ L op (WS l k s)).isEmpty
def QcS (L:List Fm)(op:Int)(l:List Ar):Int×List Ar×Int:=
 if(QO op l==0)=false then(0,[],QO op l)
 else if(decide (Qfd l<0)||!((l.getD (Qfd l).toNat Q7).m.sz==0)||!(VZ L op l).isEmpty)=true then(op,l,0)
 else match ([1,2,4,8,16,32]:List Int).filter (Qe7 L op l (Qfd l).toNat) with
  | []=>(0,[],8)
  | [s]=>(op,WS l (Qfd l).toNat s,0)
  | _=>(0,[],2)
theorem QEn (a:Ar)(H:Qa):Qe prog 39 [.agg a.cells.toArray] H λu H'=>u=.bool (a.k==2)∧Ext H H':=by
 refine Qpf λai=>?_;obtain⟨aa,⟨ag,ah⟩,⟨⟨ab,ac⟩,⟨ad,ae⟩,sc,d,sz⟩,n⟩:=a;simp only[Ar.cells,Qf8,Qb,simprocAttr,Qnu];have q:=(Ext.refl H).push (.cells [.int .i64 aa,.int .i64 ag,.int .i64 ah,.int .i64 ab,.int .i64 ac,.int .i64 ad,.int .i64 ae,.int .i64 sc,.int .i64 d,.int .i64 sz,.int .i64 n] 58 false);exact .mk q.next ⟨rfl,q⟩
theorem Qz8 (va:Value)(l:List Ar)(H:Qa)(ad:Qt H va l)(ay:l.length<=1000):Qe prog 38 [va,.func (.func 39) #[] #[]] H λu H'=>u=.int .i64 (Qfd l)∧Ext H H':=by
 refine Zf λak=>?_;obtain⟨a0,cap,rfl,an⟩:=ad;simp only[Xd,Qb,simprocAttr,QL];refine Qo (λm A' H'=>∃i:Nat,i<=l.length∧m=l.length - i∧H'.Wf∧Ext H H'∧A' 0=.slice a0 l.length cap∧A' 1=.func (.func 39) #[] #[]∧A' 7=.int .i64 l.length∧A' 8=.int .i64 i∧∀j,j<i->((l.getD j Q7).k==2)=false) l.length ?_ ?_
 ·refine⟨0,L7 _,by omega,ak,Ext.refl H,?_,?_,?_,?_,λj h=>by omega⟩
  all_goals simp only[Qg,simprocAttr]
  all_goals rfl
 ·rintro m A' H' ⟨i,hi,rfl,aA,aa,al,r1,am,ai,ag⟩;simp only[Qb,simprocAttr,am,ai];refine Qf (λq=>?_) (λq=>?_)
  ·have q:i<l.length:=by have:=Lg q;omega
   obtain⟨a,ab⟩:∃a,l[i]? = some a:=⟨_,La q⟩;obtain⟨b,e,ro,rfl,aj⟩:=an (by omega);have aq:H'.get b=some (.cells (Qh l) e ro):=by rw[aa.get b (ak.lt aj)];exact aj
   have aw:=We l i a ab;have au:i * 11+11<=(Qh l).length:=by rw[Qr];omega
   have d1:(0:Int)<=i∧(i:Int)<l.length:=by omega
   have d3:(i:Int).toNat=i:=by omega
   have ei:IntKind.i64.wrap ((i:Int)+1)=((i+1:Nat):Int):=by rw[w64 (by unfold I64;omega)];omega
   have ar:l.getD i Q7=a:=by simp[LX,ab]
   simp only[Qb,simprocAttr,al,r1,ai,d1,d3,aq,aw,QpY];refine⟨au,?_⟩;refine(QEn a H').thenW ?_;rintro _ H2 az ax ⟨rfl,ah⟩;cases c:a.k==2 with
   | true=>
    simp only[Qb,simprocAttr,Wn];refine .mk (aa.trans ah).next ⟨?_,aa.trans ah⟩;have ae:(l.any λa=>a.k==2)=true:=Bh.2 ⟨a,Ln ab,c⟩;have ao:l.findIdx (λa=>a.k==2)=i:=by
     rw[List.findIdx_eq q];have e:l[i]=a:=by rw[La q]at ab;exact Ly ab
     refine⟨by rw[e];exact c,λj ac=>?_⟩;have:=ag j ac;rw[LX,La (by omega)]at this;simpa using this
    unfold Qfd;rw[Lc ae,ao]
   | false=>
    simp only[Qb,simprocAttr,ai,ei];have av:∀j,j<i+1->((l.getD j Q7).k==2)=false:=λj ac=>by
     rcases Nq j i with h | h
     ·exact ag j h
     ·rw[show j=i by omega,ar];exact c
    refine⟨l.length - (i+1),by omega,i+1,by omega,rfl,ax,aa.trans ah,?_,?_,?_,?_,av⟩
    all_goals simp only[Qg,simprocAttr,al,r1,am]
  ·have q:i=l.length:=by have:=Ll q;omega
   subst q;have ae:(l.any λa=>a.k==2)=false:=by
    rw[BX];intro a ad;obtain⟨j,ac,e⟩:=List.mem_iff_getElem.1 ad;have:=ag j ac;rw[LX,La ac]at this;rw[<- e];simpa using this
   simp only[Qb,simprocAttr,Wn];exact .mk aa.next ⟨by unfold Qfd;rw[ae,Le (by decide)],aa⟩
def QCK (op:Int)(H0 H:Qa)(v:Value)(ws:List (List Ar)):Prop:=∃q:List Value,q.length=ws.length∧Gx 2 24 H0 H v ws.length (Qrs op q)∧∀ (j:Nat) s w,q[j]? = some s->ws[j]? = some w->Qe4 H0 H s w∧0<w.length
theorem QCK.go {op:Int}{H0 H H':Qa}{v:Value}{ws:List (List Ar)}(h:QCK op H0 H v ws)(ad:H.Wf)(aa:Ext H H'):QCK op H0 H' v ws:=by
 obtain⟨ae,ab,ac,q⟩:=h;exact⟨ae,ab,ac.go ad aa,λj s w a b=>⟨(q j s w a b).1.go aa,(q j s w a b).2⟩⟩
theorem Qu9:∀ (l:List Ar) (k:Nat) (s:Int),k<l.length->(Qh l).set (k * 11+9) (.int .i64 s)=Qh (WS l k s)
 | [],k,s,h=>absurd h (Nat.not_lt_zero _)
 | ⟨ak,⟨rc,rn⟩,⟨⟨bc,bn⟩,⟨ic,nn⟩,sc,d,sz⟩,n⟩::t,0,s,h=>rfl
 | ⟨ak,⟨rc,rn⟩,⟨⟨bc,bn⟩,⟨ic,nn⟩,sc,d,sz⟩,n⟩::t,k+1,s,h=>by
  have q:=Qu9 t k s (Nat.lt_of_succ_lt_succ h);rw[show(k+1) * 11+9=(k * 11+9)+11 by omega];exact(congrArg (λz=>Ar.cells ⟨ak,⟨rc,rn⟩,⟨⟨bc,bn⟩,⟨ic,nn⟩,sc,d,sz⟩,n⟩++z) q:_)
theorem Qnv (l:List Ar)(k:Nat)(s:Int)(h:k<l.length):List.take (k * 11+3+6) (Qh l)++Value.int IntKind.i64 s::List.drop (k * 11+3+6+1) (Qh l)=Qh (WS l k s):=by
 rw[<- Qu9 l k s h,show k * 11+3+6=k * 11+9 by omega,Rs,Lc (by rw[Qr];omega)]
theorem QIc {op:Int}{H0 H:Qa}{v x:Value}{ws:List (List Ar)}{m:List Ar}{k:Value->Qa->Prop}{b n:Nat}(h:QCK op H0 H v ws)(aA:Ext H0 H)(az:H.Wf)(ar:Qe4 H0 H (.slice (some ⟨b,0,none⟩) n n) m)(ao:0<m.length)(ay:Zt 2 x H=some (1,[.int .i64 op,.slice (some ⟨b,0,none⟩) n n]))(aD:ws.length<=1000)
  (aw:∀ac H',QCK op H0 H' ac (ws++[m])->Ext H0 H'->H'.Wf->H.next<=H'.next->k ac H'):QbP 24 2 32 v x H k:=by
 obtain⟨ae,e,ak,hi⟩:=h;have am:∀ {ac:Value} {H':Qa} {s:Value} {w:List Ar},GK v ac H0 H H'->0<w.length->Qe4 H0 H s w->Qe4 H0 H' s w:=λaa an ax=>by
  rcases ax with h | ⟨b',rfl,ah,ag,aj⟩
  ·exact .inl h
  ·refine .inr ⟨b',rfl,ah,by have:=aa.next;omega,λ_=>?_⟩;rw[aa.keep b' ag λav=>?_]
   ·exact aj an
   ·obtain⟨o,aE,c,rfl⟩:=av;rcases ak with⟨h,_⟩ | ⟨aB,aC,h,_,aq,_⟩
    ·cases h
    ·cases h;have:=aj an;rw[aq]at this;injection this with this;injection this with _ this;exact absurd this (by decide)
 refine Y8 ak aA az ay rfl rfl (by omega) (by omega) λac H' au aa=>?_;refine aw ac H' ⟨ae++[.slice (some ⟨b,0,none⟩) n n],by rw[Lh,Lh,e];rfl,?_,λj s w ab ad=>?_⟩ aa.x aa.w aa.next
 ·rw[show Qrs op (ae++[.slice (some ⟨b,0,none⟩) n n])=Qrs op ae++[.int .i64 op,.slice (some ⟨b,0,none⟩) n n] by unfold Qrs;rw[Bm];rfl,Lh];exact au
 ·rcases Nq j ae.length with ai | ai
  ·rw[LY ai]at ab;rw[LY (by omega)]at ad;obtain⟨ah,ag⟩:=hi j s w ab ad;exact⟨am aa ag ah,ag⟩
  ·rw[LR ai]at ab;rw[LR (by omega),<- e]at ad;cases al:j - ae.length with
   | zero=>rw[al]at ab ad;cases ab;cases ad;exact⟨am aa ao ar,ao⟩
   | succ q=>rw[al]at ab;cases ab
section
variable {T:Qa->Prop} {L:Int->List Fm} (hT:∀H H',H.Wf->T H->Ext H H'->T H') (hO:∀op H,T H->Qe prog 15 [.int .i64 op] H λu H'=>QkX H H' u (L op))
include hT hO
theorem Qti {op:Int}{va:Value}{l:List Ar}(H:Qa)(cp:T H)(ak:Qt H va l)(de:∀n,H.next<=n->Qi n 6 (.agg #[.int .i64 op,va])=true)(aA:l.length<=1000)(aN:∀a∈l,I64 a.n):
  Qe prog 17 [.agg #[.int .i64 op,va]] H λu H'=>∃v,u=.tuple #[.agg #[.int .i64 (QcS (L op) op l).1,v],.int .i64 (QcS (L op) op l).2.2]∧Qe4 H H' v (QcS (L op) op l).2.1∧Ext H H':=by
 refine Qq8 λai=>?_;obtain⟨a0,cap,rfl⟩:=Qu ak;obtain⟨W,aa⟩:∃W,W=QcS (L op) op l:=⟨_,rfl⟩;rw[<- aa];unfold QcS at aa;simp only[QiM,JL,simprocAttr];generalize ay:Qa.push H _=H1;have g1:H1.get H.next=some (.cells [.int .i64 op,.slice a0 l.length cap] 24 false):=by rw[<- ay,Qc,Lc rfl];rfl
 have cH:Ext H H1:=by rw[<- ay];exact(Ext.refl H).push _
 have cC:H1.Wf:=by rw[<- ay];exact ai.push _
 have bF:H1.next=H.next+1:=by rw[<- ay];rfl
 clear ay;simp only[Qb,simprocAttr,bF];generalize av:Qa.push H1 _=H2;have bR:Ext H H2:=by rw[<- av];exact(cH.push _)
 have df:H2.Wf:=by rw[<- av];exact(cC.push _)
 have g2:H2.get H.next=some (.cells [.int .i64 op,.slice a0 l.length cap] 24 false):=by rw[<- av,Qc,Le (by omega)];exact g1
 have cj:H2.get (H.next+1)=some (.cells [.int .i64 0,.slice none 0 0] 24 false):=by rw[<- av,Qc,Lc (by omega)]
 have cY:H2.next=H.next+2:=by rw[<- av,Qd,bF]
 clear av;simp only[Qb,simprocAttr,g1,g2];refine(Gw op _ l H2 (ak.ext ai bR) aA aN).thenW ?_;rintro _ _ c5 bN ⟨rfl,bW,rfl⟩;have br:Ext H2 (H2.up bW):=(Ext.refl H2).up c5;generalize H2.up bW=H3 at *;have bu:=bR.trans br;have g3:H3.get H.next=some (.cells [.int .i64 op,.slice a0 l.length cap] 24 false):=by rw[br.get _ (by omega)];exact g2
 have aZ:H3.get (H.next+1)=some (.cells [.int .i64 0,.slice none 0 0] 24 false):=by rw[br.get _ (by omega)];exact cj
 simp only[Qb,simprocAttr];cases bA:QO op l==0 with
 | false=>
  rw[bA,Lc rfl]at aa;simp only[Qb,simprocAttr,LM,aZ,Yo];have aD:=bu.set (show H.next<=H.next+1 by omega) (.cells [.int .i64 0,.slice none 0 0] 24 false);exact .mk aD.next ⟨_,by rw[aa],by rw[aa];exact .inl ⟨rfl,rfl⟩,aD⟩
 | true=>
  rw[bA,Le (by decide)]at aa;simp only[Qb,simprocAttr,L8,g3];refine(hO op H3 (hT _ _ ai cp bu)).thenW ?_;rintro fv H4 cZ aO ⟨bv,ys,b2,bS,bU,bT⟩;have aD:=bu.trans bv;have g4:H4.get H.next=some (.cells [.int .i64 op,.slice a0 l.length cap] 24 false):=by rw[bv.get _ (bN.lt g3)];exact g3
  have b3:H4.get (H.next+1)=some (.cells [.int .i64 0,.slice none 0 0] 24 false):=by rw[bv.get _ (bN.lt aZ)];exact aZ
  simp only[Qb,simprocAttr,g4];refine(Qz8 _ l H4 (ak.ext ai aD) aA).thenW ?_;rintro _ H5 da ad ⟨rfl,aE⟩;have aj:=aD.trans aE;have ag:H5.get H.next=some (.cells [.int .i64 op,.slice a0 l.length cap] 24 false):=by rw[aE.get _ (aO.lt g4)];exact g4
  have au:H5.get (H.next+1)=some (.cells [.int .i64 0,.slice none 0 0] 24 false):=by rw[aE.get _ (aO.lt b3)];exact b3
  simp only[Qb,simprocAttr];have cx:∀ (m:List Ar) (i:Nat) (a:Ar),m[i]? = some a->(Qh m)[i * 11+3+6]? = some (.int .i64 a.m.sz):=λm i a h=>by
   have ah:=congrArg (λl=>l[9]?) (We m i a h);simp only[Nl,Nk]at ah;rw[show i * 11+3+6=i * 11+9 by omega];exact ah
  have bj:∀ (Hx:Qa),Ext H5 Hx->Hx.Wf->∀ (k:Value->Qa->Prop),(∀b Hy,Qe4 H5 Hy (.slice (some ⟨b,0,none⟩) l.length l.length) l->Ext H5 Hy->Hy.Wf->Hy.get (H.next+1)=some (.cells [.int .i64 0,.slice none 0 0] 24 false)->k (.agg #[.int .i64 op,.slice (some ⟨b,0,none⟩) l.length l.length]) Hy)->Qe prog 40 [.agg #[.int .i64 op,.slice a0 l.length cap]] Hx k:=λHx aT dg k c1=>by
   refine(Qjm Hx ((ak.ext ai aj).ext ad aT) aA).thenW ?_;rintro _ Hy dd aP ⟨b,rfl,bY,bZ,bz,aG⟩;exact c1 b Hy (.inr ⟨b,rfl,by have:=aT.next;omega,bZ,bz⟩) (aT.trans aG) aP (by rw[(aT.trans aG).get _ (ad.lt au)];exact au)
  have bd:W=(op,l,0)->∀ (b:Nat) (Hy:Qa),Qe4 H5 Hy (.slice (some ⟨b,0,none⟩) l.length l.length) l->Ext H5 Hy->Ret H (λu H'=>∃v,u=.tuple #[.agg #[.int .i64 W.1,v],.int .i64 W.2.2]∧Qe4 H H' v W.2.1∧Ext H H') (.tuple #[.agg #[.int .i64 op,.slice (some ⟨b,0,none⟩) l.length l.length],.int .i64 0]) (Hy.set (H.next+1) (.cells [.int .i64 op,.slice (some ⟨b,0,none⟩) l.length l.length] 24 false)):=λb8 b Hy al ao=>by
   have aQ:=(aj.trans ao).set (show H.next<=H.next+1 by omega) (.cells [.int .i64 op,.slice (some ⟨b,0,none⟩) l.length l.length] 24 false);refine .mk aQ.next ⟨_,by rw[b8],?_,aQ⟩;rw[b8];exact(al.set (by have:=ad.lt au;omega) _).down aj.next
  cases bh:decide (Qfd l<0) with
  | true=>
   rw[bh,N1,N1,Lc rfl]at aa;simp only[Qb,simprocAttr,L8,ag];refine bj H5 (.refl _) ad _ λb Hy al ao aP az=>?_;simp only[Qb,simprocAttr,az,Yo];exact bd aa b Hy al ao
  | false=>
   have cU:0<=Qfd l:=by have:=Ll bh;omega
   rw[bh,Nt]at aa;obtain⟨k,bk⟩:∃k:Nat,Qfd l=k:=⟨(Qfd l).toNat,by omega⟩;have bE:k<l.length:=by
    unfold Qfd at bk;split at bk
    ·rename_i cv;obtain⟨a,cr,ct⟩:=Bh.1 cv;have:=List.findIdx_lt_length_of_exists (p:=λa=>a.k==2) ⟨a,cr,ct⟩;omega
    ·omega
   rw[bk]at aa ⊢;have aX:(k:Int).toNat=k:=LG k;rw[aX]at aa;obtain⟨a,bi⟩:∃a,l[k]? = some a:=⟨_,La bE⟩;have bD:l.getD k Q7=a:=by simp[LX,bi]
   rw[bD]at aa;obtain⟨b,e,ro,rfl,bC⟩:=(show 0<l.length->∃b e ro,a0=some ⟨b,0,none⟩∧H.get b=some (.cells (Qh l) e ro) by obtain⟨_,_,e0,ah⟩:=ak;cases e0;exact ah) (by omega);have cz:H5.get b=some (.cells (Qh l) e ro):=by rw[aj.get b (ai.lt bC)];exact bC
   have d1:(0:Int)<=k∧(k:Int)<l.length:=by omega
   have cw:=cx l k a bi;simp only[Qb,simprocAttr,LM,ag,d1,aX,cz,cw];cases bK:a.m.sz==0 with
   | false=>
    rw[bK,LM,N1,Lc rfl]at aa;simp only[Qb,simprocAttr,L8,LM,ag];refine bj H5 (.refl _) ad _ λb Hy al ao aP az=>?_;simp only[Qb,simprocAttr,az,Yo];exact bd aa b Hy al ao
   | true=>
    rw[bK,L8,Nt]at aa;simp only[Qb,simprocAttr,L8,LM,ag];refine(Qee H5 (ak.ext ai aj) aA aN (bS.fms.ext aO aE) (λx aC=>(bT x aC).mono (L7 _)) bU).thenW ?_;rintro dk H6 db bO ⟨aL,bw⟩;have aL:=aL.ls;rw[b2]at aL;obtain⟨a6,cR,rfl⟩:=aL.slc;have cl:H6.get H.next=some (.cells [.int .i64 op,.slice (some ⟨b,0,none⟩) l.length cap] 24 false):=by rw[bw.get _ (ad.lt ag)];exact ag
    simp only[Qb,simprocAttr,QL];refine Qf (λh=>?_) (λh=>?_)
    ·have bm:(!(VZ (L op) op l).isEmpty)=true:=by
      have:=Lg h;cases am:(VZ (L op) op l) with
      | nil=>rw[am]at this;simp at this
      | cons _ _=>rfl
     rw[bm,Lc rfl]at aa;simp only[Qb,simprocAttr,cl];refine bj H6 bw bO _ λb Hy al ao aP az=>?_;simp only[Qb,simprocAttr,az,Yo];exact bd aa b Hy al ao
    ·have bm:(!(VZ (L op) op l).isEmpty)=false:=by
      have:=Ll h;cases am:(VZ (L op) op l) with
      | nil=>rfl
      | cons _ _=>rw[am]at this;simp at this
     rw[bm,Le (by decide)]at aa;simp only[Qb,simprocAttr];have aq:H6.push (.cells [.int .i64 1,.int .i64 2,.int .i64 4,.int .i64 8,.int .i64 16,.int .i64 32] 3 false)=H6.push (.cells (ints [1,2,4,8,16,32]) 3 false):=rfl;rw[aq];have b4:(H6.push (.cells (ints [1,2,4,8,16,32]) 3 false)).get H6.next=some (.cells (ints [1,2,4,8,16,32]) 3 false):=by rw[Qc,Lc rfl]
     have cJ:=(Ext.refl H6).push (.cells (ints [1,2,4,8,16,32]) 3 false);have bP:=bO.push (.cells (ints [1,2,4,8,16,32]) 3 false);clear aq;generalize H6.push (.cells (ints [1,2,4,8,16,32]) 3 false)=H7 at *;generalize cq:([1,2,4,8,16,32]:List Int)=Z at *;have b9:Z.length=6:=by rw[<- cq];rfl
     have cf:(.int .i64 6:Value)=.int .i64 (Z.length:Int):=by rw[b9];rfl
     have cg:Value.slice (some ⟨H6.next,0,none⟩) 6 6=.slice (some ⟨H6.next,0,none⟩) Z.length Z.length:=by rw[b9]
     have an:=bw.trans cJ;refine Qo (λq A' H'=>∃i:Nat,i<=Z.length∧q=Z.length - i∧H'.Wf∧Ext H7 H'∧QCK op H7 H' (A' 7) (((Z.take i).filter (Qe7 (L op) op l k)).map (WS l k))∧A' 1=.pointer (some ⟨H.next,0,none⟩)∧A' 2=.pointer (some ⟨H.next+1,0,none⟩)∧A' 5=fv∧A' 6=.int .i64 k∧A' 44=.slice (some ⟨H6.next,0,none⟩) Z.length Z.length∧A' 45=.int .i64 Z.length∧A' 46=.int .i64 i) Z.length ?_ ?_
     ·refine⟨0,L7 _,by omega,bP,.refl _,?_,?_,?_,?_,?_,?_,?_,?_⟩
      ·simp only[Qg,simprocAttr];exact⟨[],rfl,.inl ⟨rfl,rfl,rfl⟩,λj s w h=>by simp at h⟩
      all_goals simp only[Qg,simprocAttr,cf,cg]
      all_goals rfl
     ·rintro q A' H' ⟨i,hi,rfl,bo,ae,aB,r1,r2,r5,aI,aV,aW,aH⟩;simp only[Qb,simprocAttr,aW,aH];refine Qf (λac=>?_) (λac=>?_)
      ·have ac:i<Z.length:=by have:=Lg ac;omega
       obtain⟨s,bJ⟩:∃s,Z[i]? = some s:=⟨_,La ac⟩;have c8:(ints Z)[i]? = some (.int .i64 s):=by unfold ints;rw[LD,bJ];rfl
       have ce:(0:Int)<=i∧(i:Int)<Z.length:=by omega
       have ch:(i:Int).toNat=i:=by omega
       have ei:IntKind.i64.wrap ((i:Int)+1)=((i+1:Nat):Int):=by rw[w64 (by unfold I64;omega)];omega
       have cm:H'.get H6.next=some (.cells (ints Z) 3 false):=by rw[ae.get _ (bP.lt b4)];exact b4
       have cn:H'.get H.next=some (.cells [.int .i64 op,.slice (some ⟨b,0,none⟩) l.length cap] 24 false):=by rw[(an.trans ae).get _ (ad.lt ag)];exact ag
       simp only[Qb,simprocAttr,r1,r2,r5,aI,aV,aH,ce,ch,cm,c8,cn];refine(Qjm H' ((ak.ext ai aj).ext ad (an.trans ae)) aA).thenW ?_;rintro _ H8 dc cG ⟨ab,rfl,bY,bZ,bz,aG⟩;have b5:=bz (by omega);have aU:¬ab=H8.next:=by omega
       simp only[Qb,simprocAttr,aU,LN,b5,d1,aX,aI];have bX:¬H8.next=ab:=λh=>aU h.symm;have c2:k * 11+3+6+1<=(Qh l).length:=by rw[Qr];omega
       rw[Qnv l k s bE];have c3:(WS l k s).length=l.length:=by unfold WS;rw[Fq]
       have b7:∀x∈WS l k s,I64 x.n:=λx aC=>by
        rcases List.mem_or_eq_of_mem_set aC with h | rfl
        ·exact aN x h
        ·rw[bD];exact aN a (Ln bi)
       simp only[bX,LN];refine⟨c2,?_⟩;obtain⟨H9,ar⟩:∃H9,H9=((H8.push (.cells [.int .i64 0,.slice none 0 0] 24 false)).set H8.next (.cells [.int .i64 op,.slice (some ⟨ab,0,none⟩) l.length l.length] 24 false)).set ab (.cells (Qh (WS l k s)) 58 false):=⟨_,rfl⟩;rw[<- ar];have aQ:Ext H' H9:=by rw[ar];exact((aG.push _).set (by have:=aG.next;omega) _).set bY _
       have bQ:H9.Wf:=by rw[ar];exact((cG.push _).set (by rw[Qc,Lc rfl]) _).set (by rw[Qn,Le aU,Qc,Le aU];exact b5) _
       have b6:H9.get ab=some (.cells (Qh (WS l k s)) 58 false):=by rw[ar,Qn,Lc rfl]
       have ba:H9.get H8.next=some (.cells [.int .i64 op,.slice (some ⟨ab,0,none⟩) l.length l.length] 24 false):=by rw[ar,Qn,Le bX,Qn,Lc rfl]
       have bG:Qe4 H7 H9 (.slice (some ⟨ab,0,none⟩) l.length l.length) (WS l k s):=.inr ⟨ab,by rw[c3],by have:=ae.next;omega,bQ.lt b6,λ_=>b6⟩;clear ar;simp only[Qb,simprocAttr,ba];refine(Gw op _ (WS l k s) H9 bG.ars (by omega) b7).thenW ?_;rintro _ _ c4 bL ⟨rfl,bV,rfl⟩;have bx:Ext H9 (H9.up bV):=(Ext.refl H9).up c4;generalize H9.up bV=H10 at *;have aR:=aQ.trans bx;have bH:=bG.go bx;have bb:H10.get H8.next=some (.cells [.int .i64 op,.slice (some ⟨ab,0,none⟩) l.length l.length] 24 false):=by rw[bx.get _ (bQ.lt ba)];exact ba
       have bn:(Z.take (i+1)).filter (Qe7 (L op) op l k)=(Z.take i).filter (Qe7 (L op) op l k)++(if Qe7 (L op) op l k s=true then[s] else[]):=by rw[Nv,bJ,Re];congr 1;simp only[Option.toList,List.filter_cons,List.filter_nil]
       have cO:(((Z.take i).filter (Qe7 (L op) op l k)).map (WS l k)).length<=1000:=by
        rw[Nn];exact N8 (R7 _ _) (by rw[Sb];omega)
       simp only[Qb,simprocAttr];cases bc:QO op (WS l k s)==0 with
       | false=>
        have aF:Qe7 (L op) op l k s=false:=by unfold Qe7;rw[bc];rfl
        simp only[Qb,simprocAttr,aH,ei];refine⟨Z.length - (i+1),by omega,i+1,by omega,rfl,bL,ae.trans aR,?_,?_,?_,?_,?_,?_,?_,?_⟩
        ·simp only[Qg,simprocAttr];rw[bn,aF,Le (by decide),Na];exact aB.go bo aR
        all_goals simp only[Qg,simprocAttr,r1,r2,r5,aI,aV,aW]
       | true=>
        simp only[Qb,simprocAttr,bb,r5];have cy:=(bS.fms.ext aO aE).ext ad ((an.trans ae).trans aR);refine(Qee H10 bH.ars (by omega) b7 cy (λx aC=>(bT x aC).mono (L7 _)) bU).thenW ?_;rintro dj H11 cW bM ⟨aK,bp⟩;have aK:=aK.ls;rw[b2]at aK;obtain⟨a11,cQ,rfl⟩:=aK.slc;have aS:=aR.trans bp;simp only[Qb,simprocAttr,QL];refine Qf (λac=>?_) (λac=>?_)
        ·have aF:Qe7 (L op) op l k s=true:=by
          have:=Lg ac;unfold Qe7;rw[bc];cases am:VZ (L op) op (WS l k s) with
          | nil=>rw[am]at this;simp at this
          | cons _ _=>rfl
         have co:H11.get H8.next=some (.cells [.int .i64 op,.slice (some ⟨ab,0,none⟩) l.length l.length] 24 false):=by rw[bp.get _ (bL.lt bb)];exact bb
         simp only[Qb,simprocAttr,co];generalize aM:H11.push _=H12;have bq:Ext H11 H12:=by rw[<- aM];exact(Ext.refl _).push _
         have cD:H12.Wf:=by rw[<- aM];exact bM.push _
         have ci:H12.get H11.next=some (.cells [.int .i64 op,.slice (some ⟨ab,0,none⟩) l.length l.length] 24 false):=by rw[<- aM,Qc,Lc rfl]
         clear aM;have c9:Zt 2 (.slice (some ⟨H11.next,0,none⟩) 1 1) H12=some (1,[.int .i64 op,.slice (some ⟨ab,0,none⟩) l.length l.length]):=by rw[Y5 ci (by decide) (by simp)];rfl
         refine QIc (aB.go bo (aS.trans bq)) (ae.trans (aS.trans bq)) cD ((bH.go bp).go bq) (by omega) c9 cO λdi H13 c7 cI cE cX=>?_;simp only[Qb,simprocAttr,aH,ei];refine⟨Z.length - (i+1),by omega,i+1,by omega,rfl,cE,cI,?_,?_,?_,?_,?_,?_,?_,?_⟩
         ·simp only[Qg,simprocAttr];rw[bn,Lc aF,N6];exact c7
         all_goals simp only[Qg,simprocAttr,r1,r2,r5,aI,aV,aW]
        ·have aF:Qe7 (L op) op l k s=false:=by
          have:=Ll ac;unfold Qe7;rw[bc];cases am:VZ (L op) op (WS l k s) with
          | nil=>rfl
          | cons _ _=>rw[am]at this;simp at this
         simp only[Qb,simprocAttr,aH,ei];refine⟨Z.length - (i+1),by omega,i+1,by omega,rfl,bM,ae.trans aS,?_,?_,?_,?_,?_,?_,?_,?_⟩
         ·simp only[Qg,simprocAttr];rw[bn,aF,Le (by decide),Na];exact aB.go bo aS
         all_goals simp only[Qg,simprocAttr,r1,r2,r5,aI,aV,aW]
      ·have ac:i=Z.length:=by have:=Ll ac;omega
       subst ac;rw[Nr]at aB;obtain⟨cP,ev,bB,c0⟩:=aB;obtain⟨a7,cS,aq⟩:=bB.slc;have aY:H'.get (H.next+1)=some (.cells [.int .i64 0,.slice none 0 0] 24 false):=by rw[(an.trans ae).get _ (ad.lt au)];exact au
       have cK:=aj.trans (an.trans ae);generalize Z.filter (Qe7 (L op) op l k)=F at *;simp only[Qb,simprocAttr,aq,QL,Nn];have aw:∀v n,Ext H (H'.set (H.next+1) (.cells [.int .i64 n,v] 24 false)):=λv n=>cK.set (by omega) _;rcases F with _ | ⟨s,_ | ⟨dh,F⟩⟩
       ·have ax:(((([]:List Int).length:Nat):Int)==0)=true:=rfl;simp only[ax,Qb,simprocAttr,r2,aY,Yo];exact .mk (aw _ _).next ⟨_,by rw[aa],by rw[aa];exact .inl ⟨rfl,rfl⟩,aw _ _⟩
       ·have ax:(((([s]:List Int).length:Nat):Int)==0)=false:=rfl;have ah:(((([s]:List Int).length:Nat):Int)==1)=true:=rfl;have cc:(0:Int)<=0∧(0:Int)<(([s]:List Int).length:Nat):=⟨by omega,Int.zero_lt_one⟩;obtain⟨aJ,rfl⟩:∃aJ,cP=[aJ]:=List.length_eq_one_iff.1 (by rw[ev];rfl);rcases bB with⟨_,h,_⟩ | ⟨ca,c,b1,cT,bg,_⟩
        ·exact absurd h (Nat.one_ne_zero)
        ·rw[aq]at b1;cases b1;have bg:H'.get ca=some (.cells [.int .i64 op,aJ] 24 false):=bg;have bI:=(c0 0 aJ _ rfl rfl).1;have c6:aJ.oneCell'=true:=by rcases bI with⟨rfl,_⟩ | ⟨b,rfl,_⟩<;>rfl
         simp only[ax,ah,cc,Qb,simprocAttr,r2,aY,aq,bg,c6,Yo];refine .mk (aw _ _).next ⟨_,by rw[aa],?_,aw _ _⟩;rw[aa];exact(bI.set (by have:=ad.lt au;have:=an.next;omega) _).down (by have:=aj.next;have:=an.next;omega)
       ·have ax:(((F.length+1+1:Nat):Int)==0)=false:=by simp;omega
        have ah:(((F.length+1+1:Nat):Int)==1)=false:=by simp;omega
        simp only[Lo,ax,ah,Qb,simprocAttr,r2,aY,Yo];exact .mk (aw _ _).next ⟨_,by rw[aa],by rw[aa];exact .inl ⟨rfl,rfl⟩,aw _ _⟩
end
theorem QGe {l:List Ar}{i:Nat}{a:Ar}(hi:l[i]? = some a)(aa:a.k=2)(ab:∀j b,j<i->l[j]? = some b->¬b.k=2):Qfd l=i:=by
 have q:=(Lk.1 hi).1;have ac:(l.any λa=>a.k==2)=true:=Bh.2 ⟨a,Ln hi,by simpa using aa⟩;unfold Qfd;rw[Lc ac];have:(l.findIdx λa=>a.k==2)=i:=by
  rw[List.findIdx_eq q];refine⟨?_,λj ad=>?_⟩
  ·rw[La q]at hi;rw[Ly hi];simpa using aa
  ·have:=ab j _ ad (La (by omega));simpa using this
 rw[this]
theorem QGf {l:List Ar}(ab:∀j b,j<l.length->l[j]? = some b->¬b.k=2):Qfd l=-1:=by
 have ac:¬ (l.any λa=>a.k==2)=true:=λh=>by
  obtain⟨a,aa,ad⟩:=Bh.1 h;obtain⟨j,q⟩:=Bx.1 aa;exact ab j a (Lk.1 q).1 q (by simpa using ad)
 unfold Qfd;rw[Le ac]
theorem Qyi {op:Int}{va:Value}{l:List Ar}(H:Qa)(ai:Qt H va l)(an:l.length<=1000):Qe prog 41 [.agg #[.int .i64 op,va]] H λu H'=>u=.int .i64 (Qfd l)∧Ext H H':=by
 refine Qik λal=>?_;obtain⟨a0,cap,rfl,ah⟩:=ai;simp only[Qbf,JL,simprocAttr];generalize ac:Qa.push H _=H1;have g1:H1.get H.next=some (.cells [.int .i64 op,.slice a0 l.length cap] 24 false):=by rw[<- ac,Qc,Lc rfl];rfl
 have aa:Ext H H1:=by rw[<- ac];exact(Ext.refl H).push _
 clear ac;refine Qo (λm A' H'=>∃i:Nat,i<=l.length∧m=l.length - i∧H'=H1∧(∀j b,j<i->l[j]? = some b->¬b.k=2)∧A' 1=.pointer (some ⟨H.next,0,none⟩)∧A' 3=.int .i64 i) l.length ?_ ?_
 ·refine⟨0,by omega,by omega,rfl,λj b h=>by omega,?_,?_⟩
  all_goals simp only[Qg,simprocAttr]
  all_goals rfl
 ·rintro m A' H' ⟨i,hi,rfl,rfl,ae,r1,r3⟩;simp only[Vr,Qb,simprocAttr,r1,r3,g1];refine Qf (λq=>?_) (λq=>?_)
  ·have q:i<l.length:=by have:=Lg q;omega
   obtain⟨a,ad⟩:∃a,l[i]? = some a:=⟨_,La q⟩;obtain⟨b,e,ro,rfl,ag⟩:=ah (by omega);have aj:H'.get b=some (.cells (Qh l) e ro):=by rw[aa.get b (al.lt ag)];exact ag
   have d1:(0:Int)<=i∧(i:Int)<l.length:=by omega
   have d3:(i:Int).toNat=i:=by omega
   have ei:IntKind.i64.wrap ((i:Int)+1)=((i+1:Nat):Int):=by rw[w64 (by unfold I64;omega)];omega
   have ak:(Qh l)[i * 11]? = some (.int .i64 a.k):=by
    have:=We l i a ad;have h:=congrArg (λz=>z[0]?) this;simpa[Ar.cells,Nl,Nk] using h
   simp only[Vq,Qb,simprocAttr,r1,r3,g1,d1,d3,aj,ak];cases ab:a.k==2 with
   | true=>
    simp only[Qb,simprocAttr,ab,r3,Qag];exact .mk aa.next ⟨by rw[QGe ad (by simpa using ab) ae],aa⟩
   | false=>
    simp only[Qb,simprocAttr,ab,r3,ei];refine⟨l.length - (i+1),by omega,i+1,by omega,rfl,rfl,λj b am hb=>?_,?_,?_⟩
    ·rcases Nq j i with h | h
     ·exact ae j b h hb
     ·have:j=i:=by omega
      subst this;rw[ad]at hb;cases hb;simpa using ab
    all_goals simp only[Qg,simprocAttr,r1]
  ·have q:i=l.length:=by have:=Ll q;omega
   subst q;simp only[Qb,simprocAttr,Qag];exact .mk aa.next ⟨by rw[QGf ae],aa⟩
theorem QEo (m:Mm):¬Qx m=8:=by
 unfold Qx
 repeat' split
 all_goals decide
theorem QEp (a:Ar):¬Wk a=8:=by
 unfold Wk
 repeat' split
 all_goals first | exact QEo _ | decide
theorem QEq:∀l:List Ar,¬QbR l=8
 | []=>by decide
 | a::l=>by
  unfold QbR;split
  ·exact QEq l
  ·exact QEp a
theorem QId (n b:Int)(s:Bool):¬ (WR n b s).2=8:=by
 unfold WR
 repeat' split
 all_goals simp
theorem QEr (op:Int)(l:List Ar):¬QO op l=8:=by
 unfold QO
 repeat' split
 all_goals first | exact QEq _ | exact QId _ _ _ | decide
theorem QEs {H1:Qa}(ad:H1.Wf){s:Value}{n:Nat}{bs:List Value}{k:Value->Qa->Prop}(ac:Zt 11 s (H1.push (.cells [] 58 false))=some (n,bs))(ag:bs.all (·.oneCell')=true)(ae:bs.length=n * 11)(ak:n<=1000)
  (h:∀q H',Gx 11 58 H1 H' q n bs->Ext (H1.push (.cells [] 58 false)) H'->H'.Wf->k q H'):QbP 58 11 88 (.slice (some ⟨H1.next,0,none⟩) 0 0) s (H1.push (.cells [] 58 false)) k:=by
 have g0:Gx 11 58 H1 (H1.push (.cells [] 58 false)) (.slice (some ⟨H1.next,0,none⟩) 0 0) 0 []:=.inr ⟨_,_,rfl,Lb _,by rw[Qc,Lc rfl],rfl,.inl rfl⟩
 by_cases ab:n=0
 ·subst ab;have:bs=[]:=N2.1 (by omega);subst this;have ah:Y4 58 11 88 (.slice (some ⟨H1.next,0,none⟩) 0 0) s (H1.push (.cells [] 58 false))=some (.slice (some ⟨H1.next,0,none⟩) 0 0,H1.push (.cells [] 58 false)):=by
   unfold Y4;rw[ac];simp
  unfold QbP;rw[ah,QJ];exact h _ _ g0 (.refl _) (ad.push _)
 ·refine Qsz g0 ⟨_,rfl⟩ (ad.push _) ac ag ab ae (by omega) (by omega) (by decide) λq H' aa aj ai _=>h q H' ?_ aj ai;rw[LP,LH]at aa;exact aa.down (by rw[Qd];omega)
section
variable {T:Qa->Prop} {L:Int->List Fm} (hT:∀H H',H.Wf->T H->Ext H H'->T H') (hR:∀op H,T H->Qe prog 33 [.int .i64 op] H λu H'=>QkX H H' u (L op)) (hC:∀op,∀f∈L op,Chk f∧Qec f=0)
include hT hR hC
theorem Qyj {op:Int}{va:Value}{l:List Ar}(H:Qa)(b9:T H)(ar:Qt H va l)(aO:l.length<=1000)(bh:∀a∈l,I64 a.n):
  Qe prog 18 [.agg #[.int .i64 op,va]] H λu H'=>∃v,u=.tuple #[.agg #[.int .i64 (QcS (L op) op l).1,v],.int .i64 (QcS (L op) op l).2.2]∧Qt H' v (QcS (L op) op l).2.1∧Ext H H':=by
 refine Qij λaj=>?_;obtain⟨a0,cap,rfl⟩:=Qu ar;obtain⟨W,aa⟩:∃W,W=QcS (L op) op l:=⟨_,rfl⟩;rw[<- aa];unfold QcS at aa;simp only[Qa8,JL,simprocAttr];generalize ax:Qa.push H _=H1;have g1:H1.get H.next=some (.cells [.int .i64 op,.slice a0 l.length cap] 24 false):=by rw[<- ax,Qc,Lc rfl];rfl
 have c6:Ext H H1:=by rw[<- ax];exact(Ext.refl H).push _
 have c2:H1.Wf:=by rw[<- ax];exact aj.push _
 have bG:H1.next=H.next+1:=by rw[<- ax];rfl
 clear ax;generalize aq:Qa.push H1 _=H2;have bv:Ext H H2:=by rw[<- aq];exact(c6.push _)
 have c3:H2.Wf:=by rw[<- aq];exact(c2.push _)
 have g2:H2.get H.next=some (.cells [.int .i64 op,.slice a0 l.length cap] 24 false):=by rw[<- aq,Qc,Le (by omega)];exact g1
 have cc:H2.get (H.next+1)=some (.cells [.int .i64 0,.slice none 0 0] 24 false):=by rw[<- aq,Qc,Lc (by omega)]
 have cQ:H2.next=H.next+2:=by rw[<- aq,Qd,bG]
 clear aq;have bS:¬H.next=H2.next:=by omega
 simp only[Qb,simprocAttr,QAX,g2,bS,LN,bG];have c0:∀ {H':Qa} {v:Value} {m:List Ar},Qt H' v m->Zt 11 v H'=some (m.length,Qh m):=λ{H' v m} h=>by
  obtain⟨a,c,rfl,ad⟩:=h
  by_cases ah:m.length=0
  ·rw[N2.1 ah];cases a<;>simp[Zt,Qh]
  ·obtain⟨b,e,ro,rfl,bk⟩:=ad (by omega);have:=Qr m;rw[Y5 bk ah (by omega),Lw,LF (by omega)]
 refine⟨by simp[Qi,Ab.plain],?_⟩;refine QEs c3 (c0 (ar.ext aj (bv.push _))) (QiC _) (Qr _) aO λdb H3 g3 aJ aI=>?_;have c7:Ext H H3:=(bv.push _).trans aJ;have b4:H3.get H.next=some (.cells [.int .i64 op,.slice a0 l.length cap] 24 false):=by rw[aJ.get _ (by rw[Qd];omega),Qc,Le bS];exact g2
 have b3:H3.get (H.next+1)=some (.cells [.int .i64 0,.slice none 0 0] 24 false):=by rw[aJ.get _ (by rw[Qd];omega),Qc,Le (by omega)];exact cc
 obtain⟨ak,ac,rfl⟩:=g3.slc;have cx:=aJ.next;rw[Qd]at cx;have c8:¬H.next=H3.next:=by omega
 have cY:¬H.next+1=H3.next:=by omega
 simp only[Qb,simprocAttr];refine⟨aJ.eqB,?_⟩;generalize aN:Qa.set (Qa.push H3 _) _ _=H4;have bw:Ext H3 H4:=by rw[<- aN];exact((Ext.refl H3).push _).set (Lb _) _
 have bK:H4.Wf:=by rw[<- aN];exact(aI.push _).set (b0:=.cells [.int .i64 0,.slice none 0 0] 24 false) (by rw[Qc,Lc rfl]) _
 have g4:H4.get H3.next=some (.cells [.int .i64 op,.slice ak l.length ac] 24 false):=by rw[<- aN,Qn,Lc rfl]
 clear aN;have bz:=c7.trans bw;have b5:H4.get H.next=some (.cells [.int .i64 op,.slice a0 l.length cap] 24 false):=by rw[bw.get _ (by omega)];exact b4
 simp only[Qb,simprocAttr,c8,LN,b4];refine(Qu8 hT hR hC H4 (hT _ _ aj b9 bz) (ar.ext aj bz) aO bh).thenW ?_;rintro _ H5 cR c4 ⟨dc,rfl,cD,aT⟩;have bL:=bz.trans aT;have aX:H5.get H.next=some (.cells [.int .i64 op,.slice a0 l.length cap] 24 false):=by rw[aT.get _ (bK.lt b5)];exact b5
 simp only[Qb,simprocAttr,aX];refine(Qyi H5 (ar.ext aj bL) aO).thenW ?_;rintro _ H6 cS aQ ⟨rfl,aU⟩;have bx:=(bw.trans aT).trans aU;have aD:=bL.trans aU;have cf:H6.get H.next=some (.cells [.int .i64 op,.slice a0 l.length cap] 24 false):=by rw[aU.get _ (c4.lt aX)];exact aX
 have ao:H6.get (H.next+1)=some (.cells [.int .i64 0,.slice none 0 0] 24 false):=by rw[bx.get _ (aI.lt b3)];exact b3
 have av:H6.get H3.next=some (.cells [.int .i64 op,.slice ak l.length ac] 24 false):=by rw[(aT.trans aU).get _ (bK.lt g4)];exact g4
 have ce:=(g3.go aI bx).down bv.next;have cH:=ar.ext aj aD;have br:∀id,inB (.slice ak l.length ac) id->H.next+2<=id∧id<H3.next:=λid am=>by have:=g3.low aI am;omega
 generalize bd:(QiG (L op) op l).2=e at *;have al:(e==0)=((QO op l==0)&&!(VZ (L op) op l).isEmpty):=by
  rw[<- bd];unfold QiG;cases h:QO op l==0 with
  | false=>rw[Lc rfl];exact h
  | true=>
   rw[Le (by decide)];cases(VZ (L op) op l).isEmpty<;>rfl
 have ae:(e==8)=((QO op l==0)&&(VZ (L op) op l).isEmpty):=by
  rw[<- bd];unfold QiG;cases h:QO op l==0 with
  | false=>rw[Lc rfl];simpa using QEr op l
  | true=>
   rw[Le (by decide)];cases(VZ (L op) op l).isEmpty<;>rfl
 have bj:W=(op,l,0)->Ret H (λu H'=>∃v,u=.tuple #[.agg #[.int .i64 W.1,v],.int .i64 W.2.2]∧Qt H' v W.2.1∧Ext H H') (.tuple #[.agg #[.int .i64 op,.slice ak l.length ac],.int .i64 0]) (H6.set (H.next+1) (.cells [.int .i64 op,.slice ak l.length ac] 24 false)):=λay=>by
  have bM:=aD.set (show H.next<=H.next+1 by omega) (.cells [.int .i64 op,.slice ak l.length ac] 24 false);refine .mk bM.next ⟨_,by rw[ay],?_,bM⟩;rw[ay];exact(ce.ext λid am=>by rw[Qn,Le];have:=(br id am).1;omega).sl
 have bi:∀ (e:Int) (H7:Qa),W=(0,[],e)->Ext H H7->Ret H (λu H'=>∃v,u=.tuple #[.agg #[.int .i64 W.1,v],.int .i64 W.2.2]∧Qt H' v W.2.1∧Ext H H') (.tuple #[.agg #[.int .i64 0,.slice none 0 0],.int .i64 e]) (H7.set (H.next+1) (.cells [.int .i64 0,.slice none 0 0] 24 false)):=λe H7 ay bu=>by
  have bN:=bu.set (show H.next<=H.next+1 by omega) (.cells [.int .i64 0,.slice none 0 0] 24 false);exact .mk bN.next ⟨_,by rw[ay],by rw[ay];exact⟨none,0,rfl,λh=>absurd h (NX 0)⟩,bN⟩
 cases az:QO op l==0 with
 | false=>
  rw[az,Lc rfl]at aa;rw[az,NG]at al ae;have e1:e=QO op l:=by rw[<- bd];unfold QiG;rw[az,Lc rfl]
  simp only[Qb,simprocAttr,ae,al,LM,L8];simp only[Z4,Qb,simprocAttr,ae,LM,ao,Wq];rw[e1];exact bi _ _ aa aD
 | true=>
  rw[az,Le (by decide)]at aa;rw[az,LJ]at al ae;cases bB:(VZ (L op) op l).isEmpty with
  | false=>
   rw[bB]at al ae aa;rw[LM,Bd,Lc rfl]at aa;simp only[Qb,simprocAttr,ae,al,LM,L8,av,ao,Wq];exact bj aa
  | true=>
   rw[bB]at al ae aa;rw[L8,NI]at aa;simp only[Qb,simprocAttr,ae,al,LM,L8];cases bn:decide (Qfd l<0) with
   | true=>
    rw[bn,N1,Lc rfl]at aa;simp only[Qb,simprocAttr,L8,av,ao,Wq];exact bj aa
   | false=>
    have cK:0<=Qfd l:=by have:=Ll bn;omega
    rw[bn,Nt]at aa;obtain⟨k,bp⟩:∃k:Nat,Qfd l=k:=⟨(Qfd l).toNat,by omega⟩;have bE:k<l.length:=by
     unfold Qfd at bp;split at bp
     ·rename_i co;obtain⟨a,cl,cm⟩:=Bh.1 co;have:=List.findIdx_lt_length_of_exists (p:=λa=>a.k==2) ⟨a,cl,cm⟩;omega
     ·omega
    rw[bp]at aa ⊢;have aK:(k:Int).toNat=k:=LG k;rw[aK]at aa;obtain⟨a,bo⟩:∃a,l[k]? = some a:=⟨_,La bE⟩;have bD:l.getD k Q7=a:=by simp[LX,bo]
    rw[bD]at aa;obtain⟨b,e',ro,rfl,bC⟩:=(show 0<l.length->∃b e ro,a0=some ⟨b,0,none⟩∧H.get b=some (.cells (Qh l) e ro) by obtain⟨_,_,e0,ad⟩:=ar;cases e0;exact ad) (by omega);have bk:H6.get b=some (.cells (Qh l) e' ro):=by rw[aD.get b (aj.lt bC)];exact bC
    have d1:(0:Int)<=k∧(k:Int)<l.length:=by omega
    have cp:(Qh l)[k * 11+3+6]? = some (.int .i64 a.m.sz):=by
     have ad:=congrArg (λl=>l[9]?) (We l k a bo);simp only[Nl,Nk]at ad;rw[show k * 11+3+6=k * 11+9 by omega];exact ad
    simp only[Qb,simprocAttr,LM,cf,d1,aK,bk,cp];cases bJ:a.m.sz==0 with
    | false=>
     rw[bJ,LM,Lc rfl]at aa;simp only[Qb,simprocAttr,L8,LM,av,ao,Wq];exact bj aa
    | true=>
     rw[bJ,L8,Le (by decide)]at aa;obtain⟨ab,bY,cI,b6⟩:∃ab,ak=some ⟨ab,0,none⟩∧H2.next<=ab∧H6.get ab=some (.cells (Qh l) 58 false):=by
      rcases g3 with⟨_,h,_⟩ | ⟨b,c,h,c9,bT,_⟩
      ·omega
      ·cases h;exact⟨b,rfl,c9,by rw[bx.get _ (aI.lt bT)];exact bT⟩
     subst bY;simp only[Qb,simprocAttr,L8,LM];simp only[Z4,Vp,Qb,simprocAttr,ae,L8];have cy:∀i:Fin 7,decide ((2:Int) ^ (i:Nat)<=32)=decide ((i:Nat)<6):=by decide
     have cz:∀i:Fin 6,([1,2,4,8,16,32]:List Int)[(i:Nat)]? = some ((2:Int) ^ (i:Nat))∧IntKind.i64.wrap (2 * (2:Int) ^ (i:Nat))=(2:Int) ^ ((i:Nat)+1):=by decide
     have bH:∀ (m:List Ar) (s an:Int),m.length=l.length->WS (WS m k s) k an=WS m k an:=λm s an cw=>by
      unfold WS;simp[LX,cw,bE]
     have aB:∀s,(WS l k s).length=l.length:=λs=>by unfold WS;rw[Fq]
     have ci:∀s,∀x∈WS l k s,I64 x.n:=λs x bu=>by
      rcases List.mem_or_eq_of_mem_set bu with h | rfl
      ·exact bh x h
      ·rw[bD];exact bh a (Ln bo)
     have cj:([1,2,4,8,16,32]:List Int).length=6:=rfl;generalize cG:([1,2,4,8,16,32]:List Int)=Z at *;have ct:=aQ.lt b6;refine Qo (λq A' H'=>∃i:Nat,i<=6∧q=6 - i∧H'.Wf∧Ext H H'∧H6.next<=H'.next∧(∃m:List Ar,m.length=l.length∧(∀s,WS m k s=WS l k s)∧H'.get ab=some (.cells (Qh m) 58 false))∧H'.get H3.next=some (.cells [.int .i64 op,.slice (some ⟨ab,0,none⟩) l.length ac] 24 false)∧H'.get (H.next+1)=some (.cells [.int .i64 0,.slice none 0 0] 24 false)∧Gx 1 3 H H' (A' 8) ((Z.take i).filter (Qe7 (L op) op l k)).length (ints ((Z.take i).filter (Qe7 (L op) op l k)))∧(∀id,inB (A' 8) id->H6.next<=id)∧A' 2=.pointer (some ⟨H.next+1,0,none⟩)∧A' 4=.pointer (some ⟨H3.next,0,none⟩)∧A' 7=.int .i64 k∧A' 9=.int .i64 ((2:Int) ^ i)) 6 ?_ ?_
     ·refine⟨0,L7 _,by omega,aQ,aD,Lb _,⟨l,rfl,λ_=>rfl,b6⟩,av,ao,?_,?_,?_,?_,?_,?_⟩
      all_goals simp only[Qg,simprocAttr]
      ·exact .inl ⟨rfl,rfl,rfl⟩
      ·rintro id ⟨_,_,_,h⟩;cases h
      all_goals first | rfl | skip
     ·rintro q A' H' ⟨i,hi,rfl,c1,aS,cP,⟨m,cO,bF,aY⟩,go,aw,aL,aM,r2,r4,aV,aH⟩;have bA:=cy ⟨i,by omega⟩;simp only at bA;simp only[Vo,Qb,simprocAttr,aH,bA];refine Qf (λag=>?_) (λag=>?_)
      ·have ag:i<6:=Lg ag;obtain⟨bR,aW⟩:=cz ⟨i,ag⟩;simp only at bR aW;generalize cW:(2:Int) ^ i=s at *;have bq:k * 11+3+6+1<=(Qh m).length:=by rw[Qr];omega
       have cC:(0:Int)<=k∧(k:Int)<l.length:=d1;simp only[Vn,Qb,simprocAttr,r4,aV,aH,go,d1,aK,aY];rw[Qnv m k s (by omega),bF];refine⟨bq,?_⟩;generalize ai:Qa.set H' ab _=Ha;have cT:H'.next=Ha.next:=by rw[<- ai];rfl
       have bP:Ext H Ha:=by rw[<- ai];exact aS.set (by omega) _
       have aR:Ha.Wf:=by rw[<- ai];exact c1.set aY _
       have aZ:Ha.get ab=some (.cells (Qh (WS l k s)) 58 false):=by rw[<- ai,Qn,Lc rfl]
       have aF:¬H3.next=ab:=by have:=br ab ⟨_,_,_,rfl⟩;omega
       have aG:¬H.next+1=ab:=by omega
       have b7:Ha.get H3.next=some (.cells [.int .i64 op,.slice (some ⟨ab,0,none⟩) l.length ac] 24 false):=by rw[<- ai,Qn,Le aF];exact go
       have b8:Ha.get (H.next+1)=some (.cells [.int .i64 0,.slice none 0 0] 24 false):=by rw[<- ai,Qn,Le aG];exact aw
       have ch:=aL.ext (H':=Ha) λid am=>by rw[<- ai,Qn,Le (by have:=aM id am;omega)]
       clear ai;have cn:Qt Ha (.slice (some ⟨ab,0,none⟩) l.length ac) (WS l k s):=⟨_,_,by rw[aB],λ_=>⟨ab,_,_,rfl,aZ⟩⟩;simp only[Qb,simprocAttr,aF,LN];refine(Qu8 hT hR hC Ha (hT _ _ aj b9 bP) cn (by rw[aB];exact aO) (ci s)).thenW ?_;rintro _ Hb cU au ⟨vb,rfl,cX,aE⟩;have bQ:=bP.trans aE;have ba:Hb.get ab=some (.cells (Qh (WS l k s)) 58 false):=by rw[aE.get _ (aR.lt aZ)];exact aZ
       have bb:Hb.get H3.next=some (.cells [.int .i64 op,.slice (some ⟨ab,0,none⟩) l.length ac] 24 false):=by rw[aE.get _ (aR.lt b7)];exact b7
       have bc:Hb.get (H.next+1)=some (.cells [.int .i64 0,.slice none 0 0] 24 false):=by rw[aE.get _ (aR.lt b8)];exact b8
       have bg:=ch.go aR aE;have ca:((QiG (L op) op (WS l k s)).2==0)=Qe7 (L op) op l k s:=by
        unfold QiG Qe7;cases h:QO op (WS l k s)==0 with
        | false=>rw[Lc rfl];exact h
        | true=>
         rw[Le (by decide)];cases(VZ (L op) op (WS l k s)).isEmpty<;>rfl
       have aP:(Z.take (i+1)).filter (Qe7 (L op) op l k)=(Z.take i).filter (Qe7 (L op) op l k)++(if Qe7 (L op) op l k s=true then[s] else[]):=by rw[Nv,bR,Re];congr 1;simp only[Option.toList,List.filter_cons,List.filter_nil]
       have cE:((Z.take i).filter (Qe7 (L op) op l k)).length<=6:=N8 (R7 _ _) (by rw[Sb];omega);simp only[Qb,simprocAttr,ca];cases bI:Qe7 (L op) op l k s with
       | false=>
        rw[bI,Le (by decide),Na]at aP;simp only[Qb,simprocAttr,aH,aW];refine⟨6 - (i+1),by omega,i+1,by omega,rfl,au,bQ,by omega,⟨_,aB s,λan=>bH l s an rfl,ba⟩,bb,bc,?_,?_,?_,?_,?_,?_⟩
        all_goals simp only[Qg,simprocAttr,r2,r4,aV,aP]
        ·exact bg
        ·exact aM
       | true=>
        rw[bI,Lc rfl]at aP;generalize aC:A' 8=v8 at *;have b1:=(Ext.refl Hb).push (.cells (ints [s]) 3 false);have c5:=au.push (.cells (ints [s]) 3 false);have cg:(Hb.push (.cells (ints [s]) 3 false)).get Hb.next=some (.cells (ints [s]) 3 false):=by rw[Qc,Lc rfl]
        have bZ:Hb.push (.cells [.int .i64 s] 3 false)=Hb.push (.cells (ints [s]) 3 false):=rfl;obtain⟨a8,bV,rfl⟩:=bg.slc;simp only[Qb,simprocAttr,aH,aC,bZ];refine Y8 (bg.go au b1) (bQ.trans b1) c5 (by rw[Y5 cg (by decide) (show 0+1 * 1<=1 by decide)]) rfl rfl (by omega) (by omega) λda Hd cr aA=>?_;have b2:∀id,id<H6.next->id<Hb.next->Hd.get id=Hb.get id:=λid ad ag=>by
         rw[aA.keep id (by rw[Qd];omega) λh=>by have:=aM id h;omega,b1.get id ag]
        simp only[Qb,simprocAttr,aH,aW];have cq:=aA.next;rw[Qd]at cq;refine⟨6 - (i+1),by omega,i+1,by omega,rfl,aA.w,aA.x,by omega,⟨_,aB s,λan=>bH l s an rfl,by rw[b2 ab ct (au.lt ba)];exact ba⟩,by rw[b2 _ (aQ.lt av) (au.lt bb)];exact bb,by rw[b2 _ (aQ.lt ao) (au.lt bc)];exact bc,?_,?_,?_,?_,?_,?_⟩
        all_goals simp only[Qg,simprocAttr,r2,r4,aV,aP]
        ·rw[Lh,show ∀a b:List Int,ints (a++b)=ints a++ints b from λa b=>by unfold ints;exact N6 ..];exact cr
        ·intro id am;rcases aA.new id am with h | h
         ·exact aM id h
         ·rw[Qd]at h;omega
      ·have ag:i=6:=by have:=Ll ag;omega
       subst ag;rw[show Z.take 6=Z by rw[<- cj,Nr]]at aL;generalize aC:A' 8=v8 at *;generalize Z.filter (Qe7 (L op) op l k)=F at *;obtain⟨a8,bV,rfl⟩:=aL.slc;simp only[Vm,Qb,simprocAttr,aC,QL];rcases F with _ | ⟨s,_ | ⟨cZ,F⟩⟩
       ·have ah:(((0:Nat):Int)==0)=true:=rfl;simp only[ah,Qb,simprocAttr,r2,aw,Wq];exact bi 8 H' aa aS
       ·have ah:(((1:Nat):Int)==0)=false:=rfl;have ad:decide (1<((1:Nat):Int))=false:=rfl;have bW:(0:Int)<=0∧(0:Int)<((1:Nat):Int):=by decide
        rcases aL with⟨_,h,_⟩ | ⟨bU,c,bX,cJ,bm,_⟩
        ·exact absurd h (Nat.one_ne_zero)
        ·cases bX;have bm:H'.get bU=some (.cells [.int .i64 s] 3 false):=bm;have cv:([.int .i64 s]:List Value)[Int.toNat 0]? = some (.int .i64 s):=rfl;have aF:¬H3.next=ab:=by have:=br ab ⟨_,_,_,rfl⟩;omega
         have aG:¬H.next+1=ab:=by omega
         have bq:k * 11+3+6+1<=(Qh m).length:=by rw[Qr];omega
         simp only[ah,ad,Z3,Vl,sxA,sxB,Nat.reduceBEq,Nat.reduceEqDiff,reduceCtorEq,mxA,mxB,Nat.reduceAdd,reduceIte,Nat.reduceLeDiff,splice,aC,QL,bW,bm,cv,r2,r4,aV,go,aw,d1,aK,aY,aF,aG,LN];rw[Qnv m k s (by omega),bF];refine⟨bq,?_⟩;simp only[Qb,simprocAttr,r2,r4,go,aw,aF,aG,LN,Wq];have bO:=(aS.set (show H.next<=ab by omega) (.cells (Qh (WS l k s)) 58 false)).set (show H.next<=H.next+1 by omega) (.cells [.int .i64 op,.slice (some ⟨ab,0,none⟩) l.length ac] 24 false)
         replace aa:W=(op,WS l k s,0):=aa
         refine .mk bO.next ⟨_,by rw[aa],?_,bO⟩;rw[aa];exact⟨_,_,by rw[aB],λ_=>⟨ab,_,_,rfl,by rw[Qn,Le (λh=>aG h.symm),Qn,Lc rfl]⟩⟩
       ·have ah:(((F.length+1+1:Nat):Int)==0)=false:=by simp only[LC];omega
        have ad:decide (1<((F.length+1+1:Nat):Int))=true:=by rw[Lv];omega
        simp only[ah,ad,Z3,Qb,simprocAttr,aC,QL,r2,aw,Wq];exact bi 2 H' aa aS
end
theorem Qz9 {Hx:Qa}{op:Int}{v:Value}{l:List Ar}(H:Qa)(ai:Ext Hx H)(ag:Qe4 Hx H v l)(ax:l.length<=1000):Qe prog 19 [.agg #[.int .i64 op,v]] H λu H'=>u=.tuple #[]∧Ext Hx H':=by
 refine QhI λaq=>?_;obtain⟨a0,cap,rfl⟩:=Qu ag.ars;simp only[QaB,JL,simprocAttr];generalize ab:Qa.push H _=H1;have g1:H1.get H.next=some (.cells [.int .i64 op,.slice a0 l.length cap] 24 false):=by rw[<- ab,Qc,Lc rfl];rfl
 have ad:Ext H H1:=by rw[<- ab];exact(Ext.refl H).push _
 have au:H1.Wf:=by rw[<- ab];exact aq.push _
 clear ab;have ay:=ai.next;have az:=ad.next;refine Qo (λq A' H'=>∃i:Nat,i<=l.length∧q=l.length - i∧H'.Wf∧Ext Hx H'∧H1.next<=H'.next∧H'.get H.next=some (.cells [.int .i64 op,.slice a0 l.length cap] 24 false)∧(0<l.length->∃b c,a0=some ⟨b,0,none⟩∧Hx.next<=b∧b<H.next∧c.length=l.length * 11∧H'.get b=some (.cells c 58 false))∧A' 1=.pointer (some ⟨H.next,0,none⟩)∧A' 2=.int .i64 i) l.length ?_ ?_
 ·refine⟨0,L7 _,by omega,au,ai.trans ad,Lb _,g1,λh=>?_,?_,?_⟩
  ·rcases ag with⟨_,aa⟩ | ⟨b,e,ak,aa,al⟩
   ·rw[aa]at h;exact absurd h (NX 0)
   ·cases e;exact⟨b,_,rfl,ak,aa,Qr _,by rw[ad.get b aa];exact al h⟩
  all_goals simp only[Qg,simprocAttr]
  all_goals rfl
 ·rintro q A' H' ⟨i,hi,rfl,ar,aj,ao,ac,hb,r1,r2⟩;simp only[GE,Qb,simprocAttr,r1,r2,ac,QL];refine Qf (λaa=>?_) (λaa=>?_)
  ·have aa:i<l.length:=by have:=Lg aa;omega
   obtain⟨b,c,rfl,ah,am,aw,ae⟩:=hb (by omega);have d1:(0:Int)<=i∧(i:Int)<l.length:=by omega
   have d3:(i:Int).toNat=i:=by omega
   have ei:IntKind.i64.wrap ((i:Int)+1)=((i+1:Nat):Int):=by rw[w64 (by unfold I64;omega)];omega
   have an:i * 11+11<=c.length:=by omega
   simp only[GD,Qb,simprocAttr,r1,r2,ac,d1,d3,ae,ei];refine⟨an,?_⟩;have av:¬H.next=b:=by omega
   refine⟨l.length - (i+1),by omega,i+1,by omega,rfl,ar.set ae _,aj.set ah _,ao,by rw[Qn,Le av];exact ac,λ_=>⟨b,_,rfl,ah,am,?_,by rw[Qn,Lc rfl]⟩,?_,?_⟩
   ·simp only[Lh,Sb,NT,Lo,L9];omega
   all_goals simp only[Qg,simprocAttr,r1]
  ·simp only[Qb,simprocAttr,Qgo];exact .mk (by omega) ⟨rfl,aj⟩
theorem QAa {op:Int}{q:Option Addr}{n c m:Nat}(h:∀d,q=some d->d.block<m):Qi m 6 (.agg #[.int .i64 op,.slice q n c])=true:=by
 cases q with
 | none=>simp[Qi,Ab.plain]
 | some d=>
  have:=h d rfl;simp[Qi,Ab.plain];omega
theorem QAb (op:Int)(v:Value)(l:List Ar)(H:Qa)(aA:Qt H v l)(aw:l.length<=1000):Qe prog 8 [.agg #[.int .i64 op,v]] H λu H'=>∃q,u=.agg #[.int .i64 op,q]∧Qt H' q l∧(∀n,H'.next<=n->Qi n 6 (.agg #[.int .i64 op,q])=true)∧Ext H H':=by
 refine QgG λak=>?_;obtain⟨a0,cap,rfl,ao⟩:=aA;simp(disch:=(first | omega | (simp only[hnP];try omega))) only[V6,Qk,simprocAttr]
 generalize aa:Qa.push (Qa.push (Qa.push H _) _) _=H1;have am:Ext H H1:=by rw[<- aa];exact(((Ext.refl H).push _).push _).push _
 have aD:H1.next=H.next+3:=by rw[<- aa];rfl
 have al:H1.Wf:=by rw[<- aa];exact((ak.push _).push _).push _
 have g0:H1.get H.next=some (.cells [.int .i64 op,.slice a0 l.length cap] 24 false):=by rw[<- aa,Qc,Le (by simp only[Qd];omega),Qc,Le (by simp only[Qd];omega),Qc,Lc rfl]
 have g1:H1.get (H.next+1)=some (.cells [.int .i64 0,.slice none 0 0] 24 false):=by rw[<- aa,Qc,Le (by simp only[Qd];omega),Qc,Lc (by simp only[Qd])]
 have g2:H1.get (H.next+1+1)=some (.cells [] 58 false):=by rw[<- aa,Qc,Lc (by simp only[Qd])]
 clear aa
 -- what is left once the operands are copied
 have ad:∀ (ac:Option Addr) (sc:Nat) (H2:Qa) (A:Env),H2.Wf->Ext H1 H2->Qt H2 (.slice ac l.length sc) l->(∀id,Qlg (.slice ac l.length sc) id->H.next+1<id)->(∀d,ac=some d->d.block<H2.next)->A 1=.pointer (some ⟨H.next,0,none⟩)->A 2=.pointer (some ⟨H.next+1,0,none⟩)->
   QnR prog [Ow 7 (.fldA 1 (t 1)),Ov (.st 1 (t 7) (t 6))] (Qm prog (.seq (.ops [Ow 8 (.ld true 2 (t 1)),Ov (.st 2 (t 2) (t 8))]) .ret) ⟨Rt prog Tryz.f8 H λu H'=>∃q,u=.agg #[.int .i64 op,q]∧Qt H' q l∧(∀n,H'.next<=n->Qi n 6 (.agg #[.int .i64 op,q])=true)∧Ext H H',WL⟩ (Rt prog Tryz.f8 H λu H'=>∃q,u=.agg #[.int .i64 op,q]∧Qt H' q l∧(∀n,H'.next<=n->Qi n 6 (.agg #[.int .i64 op,q])=true)∧Ext H H')) A (some 6) (.slice ac l.length sc) H2:=by
  intro ac sc H2 A aE ag aB ax au r1 r2;have aC:H2.get H.next=some (.cells [.int .i64 op,.slice a0 l.length cap] 24 false):=by rw[ag.get _ (by omega)];exact g0
  have k1:H2.get (H.next+1)=some (.cells [.int .i64 0,.slice none 0 0] 24 false):=by rw[ag.get _ (by omega)];exact g1
  simp(disch:=(first | omega | (simp only[hnP];try omega))) only[Qk,simprocAttr,r1,r2,aC,k1,Qga]
  have an:∀b b',Ext H ((H2.set H.next b).set (H.next+1) b'):=λb b'=>((am.trans ag).set (Lb _) _).set (by omega) _;refine .mk (an _ _).next ⟨_,rfl,?_,λn ae=>QAa λd ab=>N5 (au d ab) ae,an _ _⟩;obtain⟨a9,ah,ai,ar⟩:=aB;refine⟨a9,ah,ai,λay=>?_⟩;obtain⟨b,e,ro,rfl,aq⟩:=ar ay;have hb:=ax b ⟨0,l.length,ah,ai⟩;exact⟨b,e,ro,rfl,by rw[Qn,Le (by omega),Qn,Le (by omega)];exact aq⟩
 cases l with
 | nil=>
  have az:∀H1:Qa,Y4 58 11 88 (.slice (some ⟨H.next+1+1,0,none⟩) 0 0) (.slice a0 0 cap) H1=some (.slice (some ⟨H.next+1+1,0,none⟩) 0 0,H1):=λH1=>by cases a0<;>simp[Y4,Zt]
  simp only[L9]at ad ⊢;unfold QbP;rw[az,QJ];refine ad _ _ H1 _ al (.refl _) ⟨_,_,rfl,λh=>absurd h (NX 0)⟩ (λid ⟨o,n,c,h⟩=>by cases h;omega) (λd ab=>by cases ab;show H.next+1+1<_;omega) ?_ ?_
  all_goals simp only[Qg,simprocAttr]
 | cons a l=>
  obtain⟨b,e,ro,rfl,hb⟩:=ao (by simp);have av:=ak.lt hb;have aj:=Qr (a::l);have ae:Zt 11 (.slice (some ⟨b,0,none⟩) (l.length+1) cap) H1=some (l.length+1,Qh (a::l)):=by
   rw[Y5 (c:=Qh (a::l)) (e:=e) (ro:=ro) (by rw[am.get _ av];exact hb) (by omega) (by rw[aj,Lo];omega),Lw,LF (by rw[aj,Lo];exact Lb _)]
  rw[Lo]at aw ad;refine Qlw (c:=[]) (ro:=false) (e':=58) ae (QiC _) (by omega) g2 (by simp) (by omega) (by omega) (by decide) (by omega) ?_;rw[LP];refine ad _ _ (H1.push _) _ (al.push _) ((Ext.refl _).push _) ?_ ?_ (λd ab=>by cases ab;exact Rq _) ?_ ?_
  ·exact⟨_,_,rfl,λ_=>⟨_,_,_,rfl,by rw[Qc,Lc rfl];rfl⟩⟩
  ·rintro id ⟨o,n,c,h⟩;cases h;omega
  all_goals simp only[Qg,simprocAttr]
theorem Qnw {P:Program}{f:Nat}{t:TypeId}{q:Array Field}{xs ys:Array Value}(h:P.underlying t=some (.struct q))(aa:P.stoodInHeld t=false):aeq P (f+1) t (.agg xs) (.agg ys)=X0 P (aeq P f) q.toList xs ys:=by
 unfold aeq;rw[h];simp[aa]
theorem QiJ {P:Program}{f:Nat}{t:TypeId}{k:IntKind}{a b:Int}(h:P.underlying t=some (.int k)):aeq P (f+1) t (.int k a) (.int k b)=some (a==b):=by
 unfold aeq;rw[h];simp
theorem JC {P:Program}{eq:TypeId->Value->Value->Option Bool}{fd:Field}{q:List Field}{xs ys:Array Value}{a b:Value}{r s:Bool}(ac:(fd.name == "_")=false)(aa:QcZ P fd.type xs fd.offset=some a)(hb:QcZ P fd.type ys fd.offset=some b)(ab:eq fd.type a b=some r)(ae:X0 P eq q xs ys=some s):
  X0 P eq (fd::q) xs ys=some (r&&s):=by
 have ad:¬fd.name = "_" := by simpa using ac
 show(if fd.name = "_" then X0 P eq q xs ys else match QcZ P fd.type xs fd.offset,QcZ P fd.type ys fd.offset with
  | some a,some b=>match eq fd.type a b with
   | some true=>X0 P eq q xs ys
   | r=>r
  | _,_=>none)=_
 rw[Le ad,aa,hb];simp only[ab];cases r
 ·rfl
 ·rw[ae];rfl
theorem Qtj {P:Program}{eq:TypeId->Value->Value->Option Bool}{xs ys:Array Value}:X0 P eq [] xs ys=some true:=rfl
theorem Qtk:prog.underlying 3=some (.int .i64):=by kernel_rfl
theorem QIe:prog.underlying 54=some (.struct #[⟨ "Class",3,0,false, "", "",0⟩,⟨ "N",3,1,false, "", "",8⟩]):=by kernel_rfl
theorem QIf:prog.underlying 56=some (.struct #[⟨ "Base",54,0,false, "", "",0⟩,⟨ "Index",54,2,false, "", "",16⟩,⟨ "Scale",3,4,false, "", "",32⟩,⟨ "Disp",3,5,false, "", "",40⟩,⟨ "Size",3,6,false, "", "",48⟩]):=by kernel_rfl
theorem QIg:prog.underlying 58=some (.struct #[⟨ "Kind",3,0,false, "", "",0⟩,⟨ "R",54,1,false, "", "",8⟩,⟨ "M",56,3,false, "", "",24⟩,⟨ "N",3,10,false, "", "",80⟩]):=by kernel_rfl
theorem Qwo (f:Nat)(a b c d:Int):aeq prog (f+2) 54 (.agg #[.int .i64 a,.int .i64 b]) (.agg #[.int .i64 c,.int .i64 d])=some ((a==c)&&((b==d)&&true)):=by
 rw[Qnw QIe (by kernel_rfl)];exact JC (by rfl) (a:=.int .i64 a) (b:=.int .i64 c) (by kernel_rfl) (by kernel_rfl) (QiJ Qtk) (JC (by rfl) (a:=.int .i64 b) (b:=.int .i64 d) (by kernel_rfl) (by kernel_rfl) (QiJ Qtk) Qtj)
theorem QGg (f:Nat)(a1 a2 a3 a4 a5 a6 a7 q aa ab ac ad ae ag:Int):aeq prog (f+3) 56 (.agg #[.int .i64 a1,.int .i64 a2,.int .i64 a3,.int .i64 a4,.int .i64 a5,.int .i64 a6,.int .i64 a7]) (.agg #[.int .i64 q,.int .i64 aa,.int .i64 ab,.int .i64 ac,.int .i64 ad,.int .i64 ae,.int .i64 ag]) =
  some (((a1==q)&&((a2==aa)&&true))&&(((a3==ab)&&((a4==ac)&&true))&&((a5==ad)&&((a6==ae)&&((a7==ag)&&true))))):=by
 rw[Qnw QIf (by kernel_rfl)];exact JC (by rfl) (a:=.agg #[.int .i64 a1,.int .i64 a2]) (b:=.agg #[.int .i64 q,.int .i64 aa]) (by kernel_rfl) (by kernel_rfl) (Qwo f _ _ _ _)
  (JC (by rfl) (a:=.agg #[.int .i64 a3,.int .i64 a4]) (b:=.agg #[.int .i64 ab,.int .i64 ac]) (by kernel_rfl) (by kernel_rfl) (Qwo f _ _ _ _)
  (JC (by rfl) (a:=.int .i64 a5) (b:=.int .i64 ad) (by kernel_rfl) (by kernel_rfl) (QiJ Qtk)
  (JC (by rfl) (a:=.int .i64 a6) (b:=.int .i64 ae) (by kernel_rfl) (by kernel_rfl) (QiJ Qtk)
  (JC (by rfl) (a:=.int .i64 a7) (b:=.int .i64 ag) (by kernel_rfl) (by kernel_rfl) (QiJ Qtk) Qtj))))
theorem QGh (f:Nat)(a b:Ar):aeq prog (f+4) 58 (.agg a.cells.toArray) (.agg b.cells.toArray)=some (decide (a=b)):=by
 obtain⟨k,⟨al,an⟩,⟨⟨q,ab⟩,⟨ah,iN⟩,sc,ad,sz⟩,n⟩:=a;obtain⟨aj,⟨am,ao⟩,⟨⟨aa,ac⟩,⟨ai,ag⟩,aq,ae,ar⟩,ak⟩:=b;have e:=Qnw (f:=f+3) (xs:=#[.int .i64 k,.int .i64 al,.int .i64 an,.int .i64 q,.int .i64 ab,.int .i64 ah,.int .i64 iN,.int .i64 sc,.int .i64 ad,.int .i64 sz,.int .i64 n]) (ys:=#[.int .i64 aj,.int .i64 am,.int .i64 ao,.int .i64 aa,.int .i64 ac,.int .i64 ai,.int .i64 ag,.int .i64 aq,.int .i64 ae,.int .i64 ar,.int .i64 ak]) QIg (by kernel_rfl)
 have e2:=JC (P:=prog) (eq:=aeq prog (f+3)) (fd:=⟨ "Kind",3,0,false, "", "",0⟩) (by rfl) (a:=.int .i64 k) (b:=.int .i64 aj) (xs:=#[.int .i64 k,.int .i64 al,.int .i64 an,.int .i64 q,.int .i64 ab,.int .i64 ah,.int .i64 iN,.int .i64 sc,.int .i64 ad,.int .i64 sz,.int .i64 n]) (ys:=#[.int .i64 aj,.int .i64 am,.int .i64 ao,.int .i64 aa,.int .i64 ac,.int .i64 ai,.int .i64 ag,.int .i64 aq,.int .i64 ae,.int .i64 ar,.int .i64 ak]) (by kernel_rfl) (by kernel_rfl) (QiJ Qtk)
  (JC (fd:=⟨ "R",54,1,false, "", "",8⟩) (by rfl) (a:=.agg #[.int .i64 al,.int .i64 an]) (b:=.agg #[.int .i64 am,.int .i64 ao]) (by kernel_rfl) (by kernel_rfl) (Qwo (f+1) _ _ _ _)
  (JC (fd:=⟨ "M",56,3,false, "", "",24⟩) (by rfl) (a:=.agg #[.int .i64 q,.int .i64 ab,.int .i64 ah,.int .i64 iN,.int .i64 sc,.int .i64 ad,.int .i64 sz]) (b:=.agg #[.int .i64 aa,.int .i64 ac,.int .i64 ai,.int .i64 ag,.int .i64 aq,.int .i64 ae,.int .i64 ar]) (by kernel_rfl) (by kernel_rfl) (QGg f _ _ _ _ _ _ _ _ _ _ _ _ _ _)
  (JC (fd:=⟨ "N",3,10,false, "", "",80⟩) (by rfl) (a:=.int .i64 n) (b:=.int .i64 ak) (by kernel_rfl) (by kernel_rfl) (QiJ Qtk) Qtj)))
 refine(e.trans e2).trans ?_;congr 1;rw[Ni];simp[and_assoc]
theorem QIh {A:Env}{H:Qa}{k:Value->Qa->Prop}{x y:Operand}{q:TypeId}(a b:Ar)(aa:(Qj3 x||Qj3 y)=false)(ac:ev A x=.agg a.cells.toArray)(ad:ev A y=.agg b.cells.toArray):
  pr prog (.gen (.binOp .neq 58 x y q)) false A H k=k (.bool (!decide (a=b))) H:=by
 have ab:JI prog false 58 (.agg a.cells.toArray) (.agg b.cells.toArray)=true:=by
  have h:prog.eqGuardType prog.depth 58=false:=by kernel_rfl
  simp[JI,QmF,Qvk,h]
 have e:rop prog (.gen (.binOp .neq 58 x y q)) A H=some (.bool (!decide (a=b)),H):=by
  simp only[rop,aop,Qfk,Qvm,ac,ad,aa,Qqn,Qcx,ab,Bj,N3,QGh 16];rfl
 refine(WW _).trans ?_;rw[e,QJ]
theorem QAc (va vb:Value)(xs ys:List Ar)(H:Qa)(ax:Qt H va xs)(hb:Qt H vb ys)(aI:xs.length<=1000000)(aJ:ys.length<=1000000):Qe prog 35 [va,vb] H λu H'=>u=.bool (decide (xs=ys))∧H'=H:=by
 refine QgI λaK=>?_;obtain⟨ah,ai,rfl,aB⟩:=ax;obtain⟨aj,ak,rfl,aC⟩:=hb;simp only[V8,Qb,simprocAttr]
 by_cases ag:xs.length=ys.length
 ·have e0:((xs.length:Int)==(ys.length:Int))=true:=by simp[ag]
  simp only[e0,Qb,simprocAttr];refine Qo (λm A' H'=>∃i:Nat,i<=xs.length∧m=xs.length - i∧H'=H∧(∀j,j<i->xs[j]? = ys[j]?)∧A' 0=.slice ah xs.length ai∧A' 1=.slice aj ys.length ak∧A' 5=.int .i64 i) xs.length ?_ ?_
  ·refine⟨0,L7 _,by omega,rfl,λj h=>by omega,?_,?_,?_⟩
   all_goals simp only[uxA,uxB,Nat.reduceBEq]
   rfl
  ·rintro m A' H' ⟨i,hi,rfl,aw,ae,ad,r1,r5⟩;subst aw;simp only[Qb,simprocAttr,ad,r1,r5];refine Qf (λq=>?_) (λq=>?_)
   ·have q:i<xs.length:=by have:=Lg q;omega
    obtain⟨aF,e1,aL,rfl,ay⟩:=aB (by omega);obtain⟨aG,e2,aM,rfl,az⟩:=aC (by omega);have al:(0:Int)<=i∧(i:Int)<xs.length:=by omega
    have am:(0:Int)<=i∧(i:Int)<ys.length:=by omega
    have an:(i:Int).toNat=i:=by omega
    have ao:i * 11+11<=xs.length * 11:=by omega
    have aq:i * 11+11<=ys.length * 11:=by omega
    have ei:IntKind.i64.wrap ((i:Int)+1)=((i+1:Nat):Int):=by rw[w64 (by unfold I64;omega)];omega
    have au:i<ys.length:=by omega
    have ab:=La q;have ac:=La au;have d1:=We xs i _ ab;have d2:=We ys i _ ac;have aD:=Qr xs;have aE:=Qr ys;generalize xs[i]=x at *;generalize ys[i]=y at *;have a1:(x.cells.all λv=>v.oneCell')=true:=rfl;have a2:(y.cells.all λv=>v.oneCell')=true:=rfl;simp only[Qb,simprocAttr,ad,r1,r5,al,am,an,ao,aq,ay,az,d1,d2,aD,aE,a1,a2,WT];rw[QIh x y rfl (by simp only[Qg,simprocAttr]) (by simp only[Qg,simprocAttr])]
    by_cases aa:x=y
    ·have e3:decide (x=y)=true:=Lp aa;simp only[Qb,simprocAttr,e3,r5,ei];refine⟨xs.length - (i+1),by omega,i+1,by omega,rfl,rfl,λj aH=>?_,?_,?_,?_⟩
     ·rcases Nq j i with h | h
      ·exact ae j h
      ·rw[show j=i by omega,ab,ac,aa]
     all_goals simp only[Qg,simprocAttr,ad,r1]
    ·have e3:decide (x=y)=false:=Lj aa;simp only[Qb,simprocAttr,e3,ZU];have av:xs≠ys:=λh=>by
      rw[h,ac]at ab;exact aa (Ly ab).symm
     exact .mk (Lb _) ⟨by rw[Lj av],rfl⟩
   ·have q:i=xs.length:=by have:=Ll q;omega
    subst q;simp only[Qb,simprocAttr,ZU];have aA:xs=ys:=by
     refine BA λi=>?_
     by_cases ar:i<xs.length
     ·exact ae i ar
     ·rw[N7 (by omega),N7 (by omega)]
    exact .mk (Lb _) ⟨by rw[Lp aA],rfl⟩
 ·have e0:((xs.length:Int)==(ys.length:Int))=false:=by simp;omega
  simp only[e0,Qb,simprocAttr,ZU];exact .mk (Lb _) ⟨by rw[Lj (λh=>ag (by rw[h]))],rfl⟩
theorem Qtl (o p:Int)(va vb:Value)(xs ys:List Ar)(H:Qa)(ac:Qt H va xs)(hb:Qt H vb ys)(ag:xs.length<=1000000)(ah:ys.length<=1000000):Qe prog 12 [.agg #[.int .i64 o,va],.agg #[.int .i64 p,vb]] H λu H'=>u=.bool ((o==p)&&decide (xs=ys))∧∃k,H'=H.up k:=by
 refine QgH λaa=>?_;have ab:Ext H ((H.push (.cells [.int .i64 o,va] 24 false)).push (.cells [.int .i64 p,vb] 24 false)):=((Ext.refl H).push _).push _;have ad:=ac.ext aa ab;have ae:=hb.ext aa ab;have q:=QAc va vb xs ys _ ad ae ag ah;obtain⟨ai,aj,rfl,ao⟩:=ac;obtain⟨ak,al,rfl,aq⟩:=hb;simp only[V7,Qb,simprocAttr,Ys];cases am:o==p
 ·simp only[Qb,simprocAttr,Ys];exact .ext aa ab ⟨rfl,_,rfl⟩
 ·simp only[Qb,simprocAttr,Ys];refine q.thenW ?_;rintro _ _ an ar ⟨rfl,rfl⟩;simp only[Qb,simprocAttr,Ys];exact .ext aa ab ⟨by simp,_,rfl⟩
theorem QAd (l:List Ar)(k:Nat)(s:Int):(WS l k s).length=l.length:=Fq
theorem QCL (L:List Fm)(op:Int)(l:List Ar):(QcS L op l).2.1.length<=l.length:=by
 unfold QcS
 repeat' split
 all_goals first | exact L7 _ | exact Lb _ | exact FM (QAd _ _ _)
section
variable {T:Qa->Prop} {L:Int->List Fm} (hT:∀H H',H.Wf->T H->Ext H H'->T H') (hO:∀op H,T H->Qe prog 15 [.int .i64 op] H λu H'=>QkX H H' u (L op)) (hR:∀op H,T H->Qe prog 33 [.int .i64 op] H λu H'=>QkX H H' u (L op)) (hC:∀op,∀f∈L op,Chk f∧Qec f=0)
include hT hO hR hC
theorem Quj {op:Int}{va:Value}{l:List Ar}(H:Qa)(aE:∀H,T H->Qe prog 7 [] H λu H'=>u=.bool true∧Ext H H')(ab:T H)(ac:Qt H va l)(aF:∀a∈l,I64 a.n):
  Qe prog 5 [.agg #[.int .i64 op,va]] H λu H'=>u=.bool true∧Ext H H':=by
 refine QdK λaa=>?_;obtain⟨a0,cap,rfl⟩:=Qu ac;simp only[Kg,JL,simprocAttr];generalize aj:Qa.push H _=H1;have g1:H1.get H.next=some (.cells [.int .i64 op,.slice a0 l.length cap] 24 false):=by rw[<- aj,Qc,Lc rfl];rfl
 have an:Ext H H1:=by rw[<- aj];exact(Ext.refl H).push _
 have av:H1.Wf:=by rw[<- aj];exact aa.push _
 clear aj;simp only[Qb,simprocAttr,g1,QL];refine Qf (λh=>?_) (λh=>?_)
 ·simp only[Qb,simprocAttr];refine(aE H1 (hT _ _ aa ab an)).thenW ?_;rintro _ H2 aX ah ⟨rfl,ad⟩;have aM:=an.trans ad;simp only[Qb,simprocAttr,JH];exact .mk aM.next ⟨rfl,aM⟩
 ·have au:l.length<=1000:=by have:=Ll h;omega
  simp only[JA,Qb,simprocAttr,g1];refine(QAb op _ l H1 (ac.ext aa an) au).thenW ?_;rintro _ H2 aX ah ⟨bw,rfl,aH,aW,ad⟩;obtain⟨a2,aq,rfl⟩:=Qu aH;have k1:H2.get H.next=some (.cells [.int .i64 op,.slice a0 l.length cap] 24 false):=by rw[ad.get _ (av.lt g1)];exact g1
  have bd:¬H.next=H2.next:=by have:=ah.lt k1;omega
  simp only[Qb,simprocAttr,bd,LN];generalize ak:Qa.set (Qa.push H2 _) _ _=H3;have ai:Ext H2 H3:=by rw[<- ak];exact((Ext.refl H2).push _).set (Lb _) _
  have aw:H3.Wf:=by rw[<- ak];exact(ah.push _).set (b0:=.cells [.int .i64 0,.slice none 0 0] 24 false) (by rw[Qc,Lc rfl]) _
  have aS:H3.get H2.next=some (.cells [.int .i64 op,.slice a2 l.length aq] 24 false):=by rw[<- ak,Qn,Lc rfl]
  clear ak;have ax:=(an.trans ad).trans ai;have aI:=aH.ext ah ai;have k1:H3.get H.next=some (.cells [.int .i64 op,.slice a0 l.length cap] 24 false):=by rw[ai.get _ (ah.lt k1)];exact k1
  refine(Qti hT hO H3 (hT _ _ aa ab ax) aI (λn bk=>aW n (by have:=ai.next;omega)) au aF).thenW ?_;rintro _ H4 bn aJ ⟨bx,rfl,aB,ay⟩;have bj:=QCL (L op) op l;have bc:=ax.trans ay;have k1:H4.get H.next=some (.cells [.int .i64 op,.slice a0 l.length cap] 24 false):=by rw[ay.get _ (aw.lt k1)];exact k1
  obtain⟨a4,ae,rfl⟩:=Qu aB.ars;have bi:=λH ab ac=>Qyj hT hR hC (op:=op) (va:=.slice a0 l.length cap) (l:=l) H ab ac au aF;generalize QcS (L op) op l=W at *;have bg:¬H.next=H4.next:=by have:=aJ.lt k1;omega
  simp only[Qb,simprocAttr,k1,bg,LN];generalize al:Qa.set (Qa.push H4 _) _ _=H5;have aN:Ext H4 H5:=by rw[<- al];exact((Ext.refl H4).push _).set (Lb _) _
  have aZ:H5.Wf:=by rw[<- al];exact(aJ.push _).set (b0:=.cells [.int .i64 0,.slice none 0 0] 24 false) (by rw[Qc,Lc rfl]) _
  have q:H5.get H4.next=some (.cells [.int .i64 W.1,.slice a4 W.2.1.length ae] 24 false):=by rw[<- al,Qn,Lc rfl]
  clear al;have aP:=bc.trans aN;refine(bi H5 (hT _ _ aa ab aP) (ac.ext aa aP)).thenW ?_;rintro _ H6 bo am ⟨bz,rfl,aD,aQ⟩;obtain⟨a6,aU,rfl⟩:=Qu aD;have q:H6.get H4.next=some (.cells [.int .i64 W.1,.slice a4 W.2.1.length ae] 24 false):=by rw[aQ.get _ (aZ.lt q)];exact q
  have bh:¬H4.next=H6.next:=by have:=am.lt q;omega
  have aV:(W.2.2==W.2.2)=true:=LO _;simp only[Qb,simprocAttr,aV,bh,LN,q];generalize ar:Qa.set (Qa.push H6 _) _ _=H7;have az:Ext H6 H7:=by rw[<- ar];exact((Ext.refl H6).push _).set (Lb _) _
  have ba:H7.Wf:=by rw[<- ar];exact(am.push _).set (b0:=.cells [.int .i64 0,.slice none 0 0] 24 false) (by rw[Qc,Lc rfl]) _
  clear ar;have aO:=(aN.trans aQ).trans az;have aC:=aB.go aO;have q:H7.get H4.next=some (.cells [.int .i64 W.1,.slice a4 W.2.1.length ae] 24 false):=by rw[az.get _ (am.lt q)];exact q
  have ag:=Qtl W.1 W.1 (.slice a4 W.2.1.length ae) (.slice a6 W.2.1.length aU) W.2.1 W.2.1 H7 aC.ars (aD.ext am az) (by omega) (by omega);have e1:((W.1==W.1)&&decide (W.2.1=W.2.1))=true:=by simp
  rw[e1]at ag;refine ag.thenW ?_;rintro _ _ aY bu ⟨rfl,aT,rfl⟩;have aA:Ext H7 (H7.up aT):=(Ext.refl H7).up aY;generalize H7.up aT=H8 at *;have q:H8.get H4.next=some (.cells [.int .i64 W.1,.slice a4 W.2.1.length ae] 24 false):=by rw[aA.get _ (ba.lt q)];exact q
  simp only[Qb,simprocAttr,q];refine(Qz9 H8 ((ay.trans aO).trans aA) (aC.go aA) (by omega)).thenW ?_;rintro _ H9 bp bv ⟨rfl,ao⟩;have aR:=ax.trans ao;have k1:H9.get H.next=some (.cells [.int .i64 op,.slice a0 l.length cap] 24 false):=by rw[(ai.trans ao).get _ (N5 (av.lt g1) ad.next),ad.get _ (av.lt g1)];exact g1
  have k2:H9.get H2.next=some (.cells [.int .i64 op,.slice a2 l.length aq] 24 false):=by rw[ao.get _ (aw.lt aS)];exact aS
  have ag:=Qtl op op (.slice a2 l.length aq) (.slice a0 l.length cap) l l H9 (aI.ext aw ao) (ac.ext aa aR) (by omega) (by omega);have e1:((op==op)&&decide (l=l))=true:=by simp
  rw[e1]at ag;simp only[Qb,simprocAttr,k1,k2];refine ag.thenW ?_;rintro _ _ aG bq ⟨rfl,k,rfl⟩;simp only[Ql]at aG;simp only[Qb,simprocAttr];have aK:=aR.up aG;refine(aE _ (hT _ _ aa ab aK)).thenW ?_;rintro _ H11 bm br ⟨rfl,bb⟩;have aL:=aK.trans bb;simp only[Qb,simprocAttr,JH];exact .mk aL.next ⟨rfl,aL⟩
end
def QEt (a b:List Int):Bool:=(a.map λz=>z.toNat.toUInt8)==(b.map λz=>z.toNat.toUInt8)
theorem Qq3:∀l:List Int,QhS (bys l)=some (l.map λz=>z.toNat.toUInt8)
 | []=>rfl
 | z::l=>by
  show(QhS (bys l)).map (z.toNat.toUInt8::·)=_;rw[Qq3 l];rfl
theorem QEu {H0 H:Qa}{v:Value}{l:List Int}(h:Gx 1 5 H0 H v l.length (bys l)):∃a n c,v=.slice a n c∧Qcz 1 v H=some (bys l):=by
 rcases h with⟨rfl,h,_⟩ | ⟨b,c,rfl,_,aa,_⟩
 ·have:l=[]:=N2.1 h;subst this;exact⟨none,0,0,rfl,rfl⟩
 ·refine⟨_,_,_,rfl,?_⟩
  by_cases q:l.length=0
  ·have:l=[]:=by simpa using q
   subst this;simp[Qcz,bys]
  ·have ab:=Xe l;simp only[Qcz,q,LN,aa];rw[Lc (by omega),Lw,LF (by omega)]
theorem Qyk {A:Env}{H0 H:Qa}{k:Value->Qa->Prop}{src q e:TypeId}{x:Operand}{v:Value}{l:List Int}(ae:prog.underlying src=some (.slice e))(ac:prog.underlying e=some (.int .u8))(ab:prog.underlying q=some .string)(ag:ev A x=v)(ad:Gx 1 5 H0 H v l.length (bys l)):
  pr prog (.gen (.convert src q x)) false A H k=k (.string (mkS (l.map λz=>z.toNat.toUInt8))) H:=by
 obtain⟨a,n,c,rfl,aa⟩:=QEu ad;have e1:rop prog (.gen (.convert src q x)) A H=some (.string (mkS (l.map λz=>z.toNat.toUInt8)),H):=by
  simp only[rop,aop,QgB,ae,ab,ag,ac,aa,Qq3]
 refine(WW _).trans ?_;rw[e1,QJ]
theorem QGi {H0 H1:Qa}(va vb:Value)(l m:List Int)(H:Qa)(q:Gx 1 5 H0 H va l.length (bys l))(hb:Gx 1 5 H1 H vb m.length (bys m)):Qe prog 11 [va,vb] H λu H'=>u=.bool (QEt l m)∧H'=H:=by
 refine Qgn λaa=>?_;simp only[VK,Qb,simprocAttr];rw[Qyk (e:=5) (v:=va) (by kernel_rfl) (by kernel_rfl) (by kernel_rfl) (by simp only[Qg,simprocAttr]) q];simp only[Qb,simprocAttr];rw[Qyk (e:=5) (v:=vb) (by kernel_rfl) (by kernel_rfl) (by kernel_rfl) (by simp only[Qg,simprocAttr]) hb];simp only[Qb,simprocAttr,Qfc];exact .mk (Lb _) ⟨by rw[QCQ,QCQ];rfl,rfl⟩
theorem QAe (l:List Int):QEt l l=true:=by unfold QEt;exact LO _
theorem Qnx (H:Qa)(b b':Blk):Ext H ((H.push b).set H.next b'):=((Ext.refl H).push b).set (Lb _) b'
theorem Qwp (H:Qa)(bs:List Int):Gx 1 5 H (H.push (.cells (bys bs) 5 false)) (.slice (some ⟨H.next,0,none⟩) bs.length bs.length) bs.length (bys bs):=.inr ⟨_,_,rfl,Lb _,by rw[Qc,Lc rfl],by rw[Xe,NH],.inl rfl⟩
theorem QGj (c k:Int)(H:Qa):Qe prog 26 [.int .i64 c,.int .i64 k] H λu H'=>u=.agg (Ar.cells ⟨1,⟨c,k⟩,Kb,0⟩).toArray∧Ext H H':=by
 refine Qns λq=>?_;simp only[Qe5,Qb,simprocAttr,QlZ];exact .mk (Qnx _ _ _).next ⟨rfl,Qnx _ _ _⟩
theorem QGk (k:Int)(H:Qa):Qe prog 27 [.int .i64 k] H λu H'=>u=.agg (Ar.cells ⟨3,⟨0,0⟩,Kb,k⟩).toArray∧Ext H H':=by
 refine Qnt λq=>?_;simp only[Qe6,Qb,simprocAttr,Ql0];exact .mk (Qnx _ _ _).next ⟨rfl,Qnx _ _ _⟩
theorem Qtm (op:Int)(a:Option Addr)(n c:Nat)(H:Qa):Qe prog 24 [.int .i64 op,.slice a n c] H λu H'=>u=.agg #[.int .i64 op,.slice a n c]∧Ext H H':=by
 refine QlX λq=>?_;simp only[Qd0,Qb,simprocAttr,Qlk];exact .mk (Qnx _ _ _).next ⟨rfl,Qnx _ _ _⟩
section
variable {T:Qa->Prop} {L:Int->List Fm} (hT:∀H H',H.Wf->T H->Ext H H'->T H') (hO:∀op H,T H->Qe prog 15 [.int .i64 op] H λu H'=>QkX H H' u (L op))
include hT hO
theorem Qtn {op w:Int}{va vb:Value}{l:List Ar}{ws:List Int}{H0 H:Qa}(ai:T H)(ad:Qt H va l)(al:∀n,H.next<=n->Qi n 6 (.agg #[.int .i64 op,va])=true)(ak:l.length<=1000)(ah:∀a∈l,I64 a.n)(hb:Gx 1 5 H0 H vb ws.length (bys ws))(aj:Qrt (L op) op l w=(ws,0)):
  Qe prog 25 [.agg #[.int .i64 op,va],.int .i64 w,vb] H λu H'=>u=.bool true∧Ext H H':=by
 refine QlY λab=>?_;obtain⟨a0,cap,rfl⟩:=Qu ad;simp only[Qd1,JL,simprocAttr];generalize aa:Qa.push H _=H1;have g1:H1.get H.next=some (.cells [.int .i64 op,.slice a0 l.length cap] 24 false):=by rw[<- aa,Qc,Lc rfl];rfl
 have q:Ext H H1:=by rw[<- aa];exact(Ext.refl H).push _
 have am:H1.Wf:=by rw[<- aa];exact ab.push _
 clear aa;simp only[Qb,simprocAttr,g1];refine(Qru hT hO w H1 (hT _ _ ab ai q) (ad.ext ab q) (λn ao=>al n (by have:=q.next;omega)) ak ah).thenW ?_;rintro _ H2 aq ar ⟨au,rfl,ac,ae⟩;rw[aj]at ac ⊢;have ag:=q.trans ae;have an:((0:Int)==0)=true:=rfl;simp only[Qb,simprocAttr,an];refine(QGi _ _ ws ws H2 ac ((hb.go ab q).go am ae)).thenW ?_;rintro _ H2 _ _ ⟨rfl,rfl⟩;rw[QAe];simp only[Qb,simprocAttr,Qll];exact .mk ag.next ⟨rfl,ag⟩
theorem QAf {op:Int}{va:Value}{l:List Ar}{W:List Ld}{H:Qa}(ah:T H)(ad:Qt H va l)(ak:∀n,H.next<=n->Qi n 6 (.agg #[.int .i64 op,va])=true)(aj:l.length<=1000)(ag:∀a∈l,I64 a.n)(ai:QiG (L op) op l=(W,0)):
  Qe prog 28 [.agg #[.int .i64 op,va]] H λu H'=>u=.int .i64 W.length∧Ext H H':=by
 refine QjW λab=>?_;obtain⟨a0,cap,rfl⟩:=Qu ad;simp only[Qcr,JL,simprocAttr];generalize q:Qa.push H _=H1;have g1:H1.get H.next=some (.cells [.int .i64 op,.slice a0 l.length cap] 24 false):=by rw[<- q,Qc,Lc rfl];rfl
 have aa:Ext H H1:=by rw[<- q];exact(Ext.refl H).push _
 have ar:H1.Wf:=by rw[<- q];exact ab.push _
 clear q;simp only[Qb,simprocAttr,g1];refine(Qwn hT hO H1 (hT _ _ ab ah aa) (ad.ext ab aa) (λn ao=>ak n (by have:=aa.next;omega)) aj ag).thenW ?_;rintro _ H2 aq au ⟨av,rfl,ac,al⟩;rw[ai]at ac ⊢;have ae:=aa.trans al;have am:((0:Int)==0)=true:=rfl;obtain⟨a8,an,rfl⟩:=ac.ls.slc;simp only[Qb,simprocAttr,am,L8,QL,QiI];exact .mk ae.next ⟨rfl,ae⟩
def exA:Ar:=⟨1,⟨4,0⟩,Kb,0⟩
def exB:Ar:=⟨3,⟨0,0⟩,Kb,5⟩
def exC:Ar:=⟨4,⟨0,0⟩,Kb,5⟩
theorem Qyl {W:List Ld}(aO:Qrt (L 1) 1 [exA,exB] 0=([131,192,5],0))(aP:Qrt (L 54) 54 [exC] 0=([235,5],0))(aQ:Qrt (L 54) 54 [exC] 2=([233,5,0,0,0],0))(aR:QiG (L 50) 50 []=(W,0))(aS:W.length=2)(H:Qa)(ad:T H):
  Qe prog 7 [] H λu H'=>u=.bool true∧Ext H H':=by
 refine QiH λaa=>?_;simp only[QbN,Qb,simprocAttr];have g0:(H.push (.cells (Qh [exC]) 58 false)).get H.next=some (.cells (Qh [exC]) 58 false):=by rw[Qc,Lc rfl]
 have aA:=(Ext.refl H).push (.cells (Qh [exC]) 58 false);have aY:=aa.push (.cells (Qh [exC]) 58 false);have e0:H.push (.cells [.int .i64 4,.int .i64 0,.int .i64 0,.int .i64 0,.int .i64 0,.int .i64 0,.int .i64 0,.int .i64 0,.int .i64 0,.int .i64 0,.int .i64 5] 58 false)=H.push (.cells (Qh [exC]) 58 false):=rfl;rw[e0];clear e0;generalize H.push (.cells (Qh [exC]) 58 false)=H1 at *;have br:=aY.lt g0;refine(Qtm 54 _ _ _ H1).thenW ?_;rintro _ H2 b3 bb ⟨rfl,aG⟩;simp only[Qb,simprocAttr];generalize ac:(H2.push _).set H2.next _=H3;have aI:Ext H2 H3:=by rw[<- ac];exact Qnx _ _ _
 have bc:H3.Wf:=by rw[<- ac];exact(bb.push _).set (b0:=.cells [.int .i64 0,.slice none 0 0] 24 false) (by rw[Qc,Lc rfl]) _
 have g3:H3.get H2.next=some (.cells [.int .i64 54,.slice (some ⟨H.next,0,none⟩) 1 1] 24 false):=by rw[<- ac,Qn,Lc rfl]
 clear ac;refine(QGj 4 0 H3).thenW ?_;rintro _ H4 b4 bB ⟨rfl,aJ⟩;simp only[Qb,simprocAttr];refine(QGk 5 H4).thenW ?_;rintro _ H5 b5 bd ⟨rfl,aL⟩;simp only[Qb,simprocAttr,Ar.cells,Rg.cells,Mm.cells,Kb,Nm,LH];have bp:=((aG.trans aI).trans aJ).trans aL;have ar:(H5.push (.cells (Qh [exA,exB]) 58 false)).get H5.next=some (.cells (Qh [exA,exB]) 58 false):=by rw[Qc,Lc rfl]
 have aM:=(Ext.refl H5).push (.cells (Qh [exA,exB]) 58 false);have bg:=bd.push (.cells (Qh [exA,exB]) 58 false);have ao:H5.push (.cells [.int .i64 1,.int .i64 4,.int .i64 0,.int .i64 0,.int .i64 0,.int .i64 0,.int .i64 0,.int .i64 0,.int .i64 0,.int .i64 0,.int .i64 0,.int .i64 3,.int .i64 0,.int .i64 0,.int .i64 0,.int .i64 0,.int .i64 0,.int .i64 0,.int .i64 0,.int .i64 0,.int .i64 0,.int .i64 5] 58 false)=H5.push (.cells (Qh [exA,exB]) 58 false):=rfl;rw[ao];clear ao;generalize H5.push (.cells (Qh [exA,exB]) 58 false)=H6 at *;have bu:=bg.lt ar;refine(Qtm 1 _ _ _ H6).thenW ?_;rintro _ H7 b6 bh ⟨rfl,ag⟩;have aq:H7.push (.cells [.int .u8 131,.int .u8 192,.int .u8 5] 5 false)=H7.push (.cells (bys [131,192,5]) 5 false):=rfl;simp only[Qb,simprocAttr,aq];clear aq;have aT:=Qwp H7 [131,192,5];have aj:=(Ext.refl H7).push (.cells (bys [131,192,5]) 5 false);have bi:=bh.push (.cells (bys [131,192,5]) 5 false);generalize H7.push (.cells (bys [131,192,5]) 5 false)=H8 at *;have bj:=((aA.trans bp).trans aM).trans (ag.trans aj);have au:H8.get H5.next=some (.cells (Qh [exA,exB]) 58 false):=by rw[aj.get _ (by have:=ag.next;omega),ag.get _ bu];exact ar
 have ai:∀ (op:Int) (H':Qa) (b n c:Nat),b<H'.next->∀m,H'.next<=m->Qi m 6 (.agg #[.int .i64 op,.slice (some ⟨b,0,none⟩) n c])=true:=λop H' b n c hb m aX=>by
  simp[Qi,Ab.plain];omega
 have aW:∀a∈[exA,exB],I64 a.n:=by intro a q;simp only[LK,Ns,NN]at q;rcases q with rfl | rfl<;>(unfold I64;decide)
 have ay:∀a∈[exC],I64 a.n:=by intro a q;simp only[LK,Ns,NN]at q;subst q;unfold I64;decide
 have bw:=bi.lt au;refine(Qtn hT hO (l:=[exA,exB]) (hT _ _ aa ad bj) ⟨_,2,rfl,λ_=>⟨H5.next,_,_,rfl,au⟩⟩ (ai 1 H8 _ _ _ bw) (by decide) aW aT aO).thenW ?_;rintro _ H9 b7 ae ⟨rfl,bq⟩;have aK:=(((aJ.trans aL).trans aM).trans (ag.trans aj)).trans bq;have aH:=(aG.trans aI).trans aK;have aE:=aA.trans aH;have ah:H9.get H2.next=some (.cells [.int .i64 54,.slice (some ⟨H.next,0,none⟩) 1 1] 24 false):=by rw[aK.get _ (bc.lt g3)];exact g3
 have ab:H9.get H.next=some (.cells (Qh [exC]) 58 false):=by rw[aH.get _ br];exact g0
 have bv:=ae.lt ah;have am:H9.push (.cells [.int .u8 235,.int .u8 5] 5 false)=H9.push (.cells (bys [235,5]) 5 false):=rfl;simp only[Qb,simprocAttr,ah,am];clear am;have aU:=Qwp H9 [235,5];have ak:=(Ext.refl H9).push (.cells (bys [235,5]) 5 false);have aZ:=ae.push (.cells (bys [235,5]) 5 false);generalize H9.push (.cells (bys [235,5]) 5 false)=H10 at *;have av:H10.get H.next=some (.cells (Qh [exC]) 58 false):=by rw[ak.get _ (ae.lt ab)];exact ab
 refine(Qtn hT hO (l:=[exC]) (hT _ _ aa ad (aE.trans ak)) ⟨_,1,rfl,λ_=>⟨H.next,_,_,rfl,av⟩⟩ (ai 54 H10 _ _ _ (aZ.lt av)) (by decide) ay aU aP).thenW ?_;rintro _ H11 bx az ⟨rfl,bk⟩;have al:=ak.trans bk;have aN:H11.get H2.next=some (.cells [.int .i64 54,.slice (some ⟨H.next,0,none⟩) 1 1] 24 false):=by rw[al.get _ bv];exact ah
 have aw:H11.get H.next=some (.cells (Qh [exC]) 58 false):=by rw[al.get _ (ae.lt ab)];exact ab
 have an:H11.push (.cells [.int .u8 233,.int .u8 5,.int .u8 0,.int .u8 0,.int .u8 0] 5 false)=H11.push (.cells (bys [233,5,0,0,0]) 5 false):=rfl;simp only[Qb,simprocAttr,aN,an];clear an;have aV:=Qwp H11 [233,5,0,0,0];have aF:=(Ext.refl H11).push (.cells (bys [233,5,0,0,0]) 5 false);have ba:=az.push (.cells (bys [233,5,0,0,0]) 5 false);generalize H11.push (.cells (bys [233,5,0,0,0]) 5 false)=H12 at *;have ax:H12.get H.next=some (.cells (Qh [exC]) 58 false):=by rw[aF.get _ (az.lt aw)];exact aw
 have aB:=(aE.trans al).trans aF;refine(Qtn hT hO (l:=[exC]) (hT _ _ aa ad aB) ⟨_,1,rfl,λ_=>⟨H.next,_,_,rfl,ax⟩⟩ (ai 54 H12 _ _ _ (ba.lt ax)) (by decide) ay aV aQ).thenW ?_;rintro _ H13 bz b8 ⟨rfl,bm⟩;simp only[Qb,simprocAttr];refine(Qtm 50 none 0 0 H13).thenW ?_;rintro _ H14 b1 b9 ⟨rfl,bn⟩;have aC:=(aB.trans bm).trans bn;simp only[Qb,simprocAttr];refine(QAf hT hO (l:=[]) (hT _ _ aa ad aC) ⟨none,0,rfl,λh=>absurd h (NX 0)⟩ (λm aX=>by simp[Qi,Ab.plain]) (by decide) (λa q=>by cases q) aR).thenW ?_;rintro _ H15 b2 bA ⟨rfl,bo⟩;have aD:=aC.trans bo;rw[aS];simp only[Qb,simprocAttr,QhH];exact .mk aD.next ⟨rfl,aD⟩
end
end Go.Proofs.YtgepgbbjfhggfaaGreatDoor.code
