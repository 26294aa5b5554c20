/- What Decode tells, where no two forms read the same bytes: more bytes, and fewer. -/
import Derived.Test.YtmedjaegakinnaaGreatDoorLibT
import Derived.Test.YtmedjaegakinnaaGreatDoorLibR
import Derived.Test.YtmedjaegakinnaaGreatDoorLibH
import Derived.Test.YtmedjaegakinnaaGreatDoorLibC
set_option linter.unusedVariables false
set_option linter.unusedSimpArgs false
set_option maxRecDepth 100000
set_option maxHeartbeats 1000000
namespace Go.Proofs.YtmedjaegakinnaaGreatDoor.code
open Go.Ab
def dcd (L:List Fm)(w:List Int):Dr:=QaK w (Q7 w true 0 L) 4
theorem QtM {w:List Int}:∀ (l:List Fm) (err:Int),(err=4∨err=9)->((QaK w l err).e=0∧∃f∈l,(QD w f).e=0∧QaK w l err=QD w f)∨((QaK w l err=Y0 4∨QaK w l err=Y0 9)∧((QaK w l err).e=9->err=9∨∃f∈l,(QD w f).e=9))
 | [],err,h=>.inr ⟨by rcases h with rfl | rfl;exact .inl rfl;exact .inr rfl,λh=>.inl h⟩
 | f::l,err,h=>by
  rw[QmL]
  by_cases z:((QD w f).e==0)=true;·rw[Lc z];have ab:=eq_of_beq z;exact .inl ⟨rfl,f,Ny ..,ab,by rw[<- ab]⟩
  rw[Le z];rcases QtM l _ (show(if((QD w f).e==9)=true then(9:Int) else err)=4∨_=9 by split;exact .inr rfl;exact h) with⟨h1,g,aa,h2⟩ | ⟨h1,h2⟩;·exact .inl ⟨h1,g,NA _ aa,h2⟩
  refine .inr ⟨h1,λad=>?_⟩;rcases h2 ad with q | ⟨g,aa,q⟩
  ·by_cases ac:((QD w f).e==9)=true;·exact .inr ⟨f,Ny ..,eq_of_beq ac⟩
   rw[Le ac]at q;exact .inl q
  exact .inr ⟨g,NA _ aa,q⟩
section
variable {L:List Fm} (hfit:∀f∈L,QrH f=true) (hone:∀f∈L,∀g∈L,Qlx f g=true->f=g)
include hfit hone
theorem QDn {w:List Int}(ac:WO w)(ae:w.length<=1000000){f:Fm}(q:f∈L)(h:(QD w f).e=0):dcd L w=QD w f:=by
 have ag:∀g∈L,g.vex=false->Qo g∈QnK:=λg aa ab=>Qly (QaM (hfit g aa) ab);have ah:f.vex=false->∀l∈QnK,ZD f l=false:=λab=>(QaM (hfit f q) ab).no;refine Qzk h _ 4 (QC1 ae ac (Qd8 (hfit f q)).1 q ag ah h) λg aa h'=>?_;have ad:=X0 g w true 0 L aa;rw[hone f q g ad (Qx9 ae ac (hfit f q) (hfit g ad) h h')]
omit hone in
theorem QFW {w:List Int}(ag:WO w)(ai:w.length<=1000000){f:Fm}(ac:f∈L)(h:(QD w f).e=9)(aj:∀g∈L,(QD w g).e≠0):dcd L w=Y0 9:=by
 have ae:∀g∈L,g.vex=false->Qo g∈QnK:=λg ad q=>Qly (QaM (hfit g ad) q);have ak:f.vex=false->∀l∈QnK,ZD f l=false:=λq=>(QaM (hfit f ac) q).no;have ah:=QC4 ai ag (Qd8 (hfit f ac)).1 ac ae ak (λq=>(QaM (hfit f ac) q).op) (λq=>(QaM (hfit f ac) q).nr) h;have aa:=QvV (bs:=w) (Q7 w true 0 L) 4 (.inr ⟨f,ah,h⟩);rcases QtM (w:=w) (Q7 w true 0 L) 4 (.inl rfl) with⟨_,g,ad,ab,_⟩ | ⟨ab | ab,_⟩;·exact absurd ab (aj g (X0 g w true 0 L ad))
 ·rw[ab]at aa;rcases aa with aa | aa<;>cases aa
 exact ab
theorem QjR {w:List Int}(ae:WO w)(ag:w.length<=1000000):
  (∃f∈L,(QD w f).e=0∧dcd L w=QD w f)∨((∀g∈L,(QD w g).e≠0)∧((dcd L w=Y0 9∧∃f∈L,(QD w f).e=9)∨(dcd L w=Y0 4∧∀f∈L,(QD w f).e≠9))):=by
 by_cases aa:∃g∈L,(QD w g).e=0;·obtain⟨g,q,h⟩:=aa;exact .inl ⟨g,q,h,QDn hfit hone ae ag q h⟩
 have aa:∀g∈L,(QD w g).e≠0:=λg q h=>aa ⟨g,q,h⟩;refine .inr ⟨aa,?_⟩
 by_cases ad:∃f∈L,(QD w f).e=9;·obtain⟨f,ac,h⟩:=ad;exact .inl ⟨QFW hfit ae ag ac h aa,f,ac,h⟩
 refine .inr ⟨?_,λf ac h=>ad ⟨f,ac,h⟩⟩;rcases QtM (w:=w) (Q7 w true 0 L) 4 (.inl rfl) with⟨_,g,q,ab,_⟩ | ⟨ab | ab,ah⟩;·exact absurd ab (aa g (X0 g w true 0 L q))
 ·exact ab
 rcases ah (by rw[ab];rfl) with h5 | ⟨g,q,h5⟩;·cases h5
 exact absurd ⟨g,X0 g w true 0 L q,h5⟩ ad
theorem Qv6 {w more:List Int}(ah:WO (w++more))(ae:(w++more).length<=1000000):
  ((dcd L w).e=0->dcd L (w++more)=dcd L w)∧(dcd L w=Y0 4->dcd L (w++more)=Y0 4)∧
  ((dcd L w).e=9->dcd L (w++more)=Y0 9∨dcd L (w++more)=Y0 4∨((dcd L (w++more)).e=0∧(w.length:Int)<(dcd L (w++more)).n)):=by
 have an:WO w:=λx hx=>ah x (List.mem_append_left _ hx);have ao:=QeU ae;have same:∀f:Fm,(QD w f).e≠9->QD (w++more) f=QD w f:=λf h=>by
  rcases Qsz (bs:=w) (more:=more) f ae with⟨q,_⟩ | q;·exact absurd q h
  exact q
 have ai:=QjR hfit hone an ao;have am:=QjR hfit hone ah ae;refine⟨λh=>?_,λh=>?_,λh=>?_⟩
 ·rcases ai with⟨f,ab,q,aa⟩ | ⟨_,⟨aa,_⟩ | ⟨aa,_⟩⟩;·have e:=same f (by rw[q];decide);rw[aa,<- e];exact QDn hfit hone ah ae ab (by rw[e,q])
  ·rw[aa]at h;cases h
  rw[aa]at h;cases h
 ·rcases ai with⟨f,ab,q,aa⟩ | ⟨ag,⟨aa,_⟩ | ⟨aa,aj⟩⟩;·rw[aa]at h;rw[h]at q;cases q
  ·rw[aa]at h;cases h
  have ak:∀f∈L,QD (w++more) f=QD w f:=λf ab=>same f (aj f ab);rcases am with⟨f,ab,q,_⟩ | ⟨_,⟨_,f,ab,ac⟩ | ⟨ad,_⟩⟩;·rw[ak f ab]at q;exact absurd q (ag f ab)
  ·rw[ak f ab]at ac;exact absurd ac (aj f ab)
  exact ad
 have ag:∀g∈L,(QD w g).e≠0:=by
  rcases ai with⟨f,ab,q,aa⟩ | ⟨ag,_⟩;·rw[aa,q]at h;cases h
  exact ag
 rcases am with⟨f,ab,q,aa⟩ | ⟨_,⟨ad,_⟩ | ⟨ad,_⟩⟩
 ·right;right;rw[aa];refine⟨q,?_⟩;rcases Qsz (bs:=w) (more:=more) f ae with⟨_,ac⟩ | ac;·exact ac q
  rw[ac]at q;exact absurd q (ag f ab)
 ·exact .inl ad
 exact .inr (.inl ad)
theorem QDo {w more:List Int}(ab:WO (w++more))(ac:(w++more).length<=1000000)(h:(dcd L (w++more)).e=9):dcd L w=Y0 9:=by
 have ad:WO w:=λx hx=>ab x (List.mem_append_left _ hx);obtain⟨ae,ag,_⟩:=Qv6 hfit hone ab ac;rcases QjR hfit hone ad (QeU ac) with⟨f,ah,aa,q⟩ | ⟨_,⟨q,_⟩ | ⟨q,_⟩⟩;·rw[ae (by rw[q,aa]),q,aa]at h;cases h
 ·exact q
 rw[ag q]at h;cases h
end
structure Cn (ib:Int×Bool) (a:Ar):Prop where
 chk:QJ a=0
 can:WX a=a
 imm:a.k=3->W4 a.n ib.1 ib.2=(a.n,0)
def Qww (ib:Int×Bool)(q a:Ar):Prop:=q=a∨(a.k=3∧∃m,q=nA 3 m∧W4 m ib.1 ib.2=(a.n,0))
def Qb7 (ib:Int×Bool):List Ar->List Ar->Prop
 | [],[]=>True
 | a'::l',a::l=>Qww ib a' a∧Qb7 ib l' l
 | _,_=>False
section
variable {ib:Int×Bool}
theorem Qud:∀ {q l:List Ar},q.length=l.length->(∀ (k:Nat) (a' a:Ar),q[k]? = some a'->l[k]? = some a->Qww ib a' a)->Qb7 ib q l
 | [],[],_,_=>trivial
 | a'::q,a::l,hl,h=>⟨h 0 a' a rfl rfl,Qud (by simpa using hl) λk x y hx aa=>h (k+1) x y hx aa⟩
 | [],_::_,hl,_=>by simp at hl
 | _::_,[],hl,_=>by simp at hl
theorem Qb7.len:∀ {q l:List Ar},Qb7 ib q l->q.length=l.length
 | [],[],_=>rfl
 | _::q,_::l,h=>by rw[Lo,Lo,Qb7.len h.2]
 | [],_::_,h=>h.elim
 | _::_,[],h=>h.elim
theorem Qww.k {q a:Ar}(h:Qww ib q a):q.k=a.k:=by
 rcases h with rfl | ⟨aa,m,rfl,_⟩;·rfl
 exact aa.symm
theorem QGr {a:Ar}(h:a.k=3):QJ a=0:=by unfold QJ;rw[h];rfl
theorem Qww.chk {q a:Ar}(h:Qww ib q a)(aa:QJ a=0):QJ q=0:=by
 rcases h with rfl | ⟨_,m,rfl,_⟩;·exact aa
 exact QGr rfl
theorem Qb7.errA:∀ {q l:List Ar},Qb7 ib q l->(∀a∈l,QJ a=0)->errA q=0
 | [],[],_,_=>rfl
 | a'::q,a::l,h,hc=>by
  show(if(QJ a'==0)=true then _ else _)=_;rw[Lc (by rw[h.1.chk (hc a (Ny ..))];rfl),Qb7.errA h.2 λx hx=>hc x (NA _ hx)]
 | [],_::_,h,_=>h.elim
 | _::_,[],h,_=>h.elim
theorem Qb7.cnt (k:Int):∀ {q l:List Ar},Qb7 ib q l->W5 k q=W5 k l
 | [],[],_=>rfl
 | a'::q,a::l,h=>by
  show(if(a'.k==k)=true then(1:Int) else 0)+W5 k q=(if(a.k==k)=true then 1 else 0)+W5 k l;rw[h.1.k,Qb7.cnt k h.2]
 | [],_::_,h=>h.elim
 | _::_,[],h=>h.elim
theorem QDX {P:Int->Prop}:∀ {l:List Ar} (n:Int),(∀a∈l,a.k=3->P a.n)->P n->P (QeO n l)
 | [],n,_,h=>h
 | a::l,n,hl,h=>by
  show P (QeO (if(a.k==3)=true then a.n else n) l);refine QDX _ (λx hx=>hl x (NA _ hx)) ?_;split;·rename_i q;exact hl a (Ny ..) (eq_of_beq q)
  exact h
theorem Que {P:Int->Prop}:∀ {l:List Ar} (n:Int),(∀a∈l,a.k=3->P a.n)->¬W5 3 l=0->P (QeO n l)
 | [],n,_,h=>absurd rfl h
 | a::l,n,hl,h=>by
  show P (QeO (if(a.k==3)=true then a.n else n) l);have h:¬ (if(a.k==3)=true then(1:Int) else 0)+W5 3 l=0:=h
  by_cases q:(a.k==3)=true;·rw[Lc q];exact QDX _ (λx hx=>hl x (NA _ hx)) (hl a (Ny ..) (eq_of_beq q))
  rw[Le q]at h ⊢;exact Que n (λx hx=>hl x (NA _ hx)) (by omega)
theorem Qb7.mem:∀ {ab l:List Ar},Qb7 ib ab l->∀q∈ab,∃a∈l,Qww ib q a
 | [],[],_,_,h=>by cases h
 | x'::ab,x::l,h,q,aa=>by
  rcases LK.1 aa with rfl | aa;·exact⟨x,Ny ..,h.1⟩
  obtain⟨a,ac,ad⟩:=Qb7.mem h.2 q aa;exact⟨a,NA _ ac,ad⟩
 | [],_::_,h,_,_=>h.elim
 | _::_,[],h,_,_=>h.elim
theorem Qyn {aa a:Ar}(h:Qww ib aa a)(q:Cn ib a):Wi ib aa=(a,0):=by
 rcases h with rfl | ⟨ac,m,rfl,ad⟩
 ·unfold Wi Wo;simp only[q.chk,LO,N3,q.can]
  by_cases ab:aa.k=3;·rw[Le (by simp),Lc (by rw[ab];rfl),q.imm ab]
  rw[Le (by simp),Le (by simpa using ab)]
 have e1:Wo (nA 3 m)=(nA 3 m,0):=by unfold Wo;rw[Lc (by rw[QGr rfl];rfl)];rfl
 unfold Wi;simp only[e1];rw[Le (by simp),Lc (by rfl)];have e2:(nA 3 m).n=m:=rfl;rw[e2,ad];have:=q.can;obtain⟨k,r,ae,n⟩:=a;simp only at ac;subst ac;unfold WX at this;rw[Le (by simp),Le (by simp)]at this;rw[<- this];rfl
theorem Qb7.args:∀ {q l:List Ar},Qb7 ib q l->(∀a∈l,Cn ib a)->QS ib q=(l,0)
 | [],[],_,_=>rfl
 | a'::q,a::l,h,hc=>by
  have aa:=Qyn h.1 (hc a (Ny ..));have ab:=Qb7.args h.2 λx hx=>hc x (NA _ hx);unfold QS;rw[aa,ab];rfl
 | [],_::_,h,_=>h.elim
 | _::_,[],h,_=>h.elim
end
theorem QzK {a:Ar}(h:a.k=3):YE a=0:=by
 unfold YE;rw[Lc (by rw[QGr h];rfl),Le (by rw[h];decide),Le (by rw[h];decide)]
theorem Qb7.bits {op:Int}{ib:Int×Bool}{q l:List Ar}(h:Qb7 ib q l):Qy op q=Qy op l:=by
 unfold Qy
 match q,l,h with
 | [],[],_=>rfl
 | a'::q,a::l,h=>
  have e:YE a'=YE a:=by
   rcases h.1 with rfl | ⟨aa,m,rfl,_⟩;·rfl
   rw[QzK aa,QzK rfl]
  simp only[e]
theorem QGs {op:Int}{l ae:List Ar}(h:QZ op l=0)(ad:∀a∈l,Cn (Qy op l) a)(q:Qb7 (Qy op l) ae l):QZ op ae=0∧QU op ae=(op,Q6 op l,0):=by
 have aj:=q.bits (op:=op);have h':QZ op ae=0:=by
  unfold QZ at h ⊢;rw[q.len,q.errA (λa aa=>(ad a aa).chk),q.cnt 2,q.cnt 3,q.cnt 4,aj];split at h;·cases h
  rename_i ah;rw[Le ah];split at h;·cases h
  rename_i ab;rw[Le ab,Le (by decide)];split at h
  ·rename_i ai;exfalso;have:Qb7 (Qy op l) l l:=Qud rfl λk ag a ah ab=>by rw[ah]at ab;cases ab;exact .inl rfl
   rw[this.errA λa aa=>(ad a aa).chk]at ai;cases ai
  split at h;·cases h
  rename_i ak;rw[Le ak];split at h;·rename_i ac;rw[Lc ac]
  rename_i ac;rw[Le ac];split at h;·cases h
  rename_i am;rw[Le am];refine Que (P:=λz=>(W4 z (Qy op l).1 (Qy op l).2).2=0) 0 (λag ap aq=>?_) (by rw[q.cnt 3];simpa using ac);obtain⟨a,aa,an⟩:=q.mem ag ap;rcases an with rfl | ⟨ar,m,rfl,ao⟩;·exact congrArg Prod.snd ((ad ag aa).imm aq)
  exact congrArg Prod.snd ao
 refine⟨h',?_⟩;unfold QU;rw[h',Le (by decide),aj,q.args ad,Le (by simp)]
theorem QDY {n b:Int}{aa:Bool}(h:(W4 n b aa).2=0):W4 (W4 n b aa).1 b aa=((W4 n b aa).1,0):=by
 unfold W4 at h ⊢
 by_cases q:(b==8||b==16||b==32||b==64)=false;·rw[Lc q]at h;cases h
 rw[Le q]at h ⊢;rw[Le q]
 by_cases ab:(!(n==K9 n b)&&!(n==Ku n b))=true;·rw[Lc ab]at h;cases h
 rw[Le ab];have q:b=8∨b=16∨b=32∨b=64:=by
  simp at q;rcases Int.lt_trichotomy b 8 with h | h | h
  all_goals omega
 cases aa with
 | true=>
  simp only[N3];have e:Ku (Ku n b) b=Ku n b:=by
   unfold Ku;rcases q with rfl | rfl | rfl | rfl<;>simp<;>omega
  rw[e,Le (by simp)]
 | false=>
  simp only[LV,LN];have e:K9 (K9 n b) b=K9 n b:=by
   unfold K9;rcases q with rfl | rfl | rfl | rfl<;>simp
  rw[e,Le (by simp)]
theorem QzL {a:Ar}(h:QJ a=0):Wo a=(WX a,0):=by unfold Wo;rw[h];rfl
theorem QKu {ib:Int×Bool}{a:Ar}(ac:a.k=1∨a.k=2∨a.k=4)(q:QJ a=0):Cn ib (WX a)∧(WX a).k=a.k∧YE (WX a)=YE a:=by
 obtain⟨k,r,m,n⟩:=a;simp only at ac;rcases ac with rfl | rfl | rfl
 ·have e:WX ⟨1,r,m,n⟩=⟨1,r,Wa,0⟩:=rfl;have aa:QJ ⟨1,r,Wa,0⟩=0:=by unfold QJ at q ⊢;exact q
  rw[e];refine⟨⟨aa,rfl,λh=>by cases h⟩,rfl,?_⟩;unfold YE;rw[q,aa];rfl
 ·have e:WX ⟨2,r,m,n⟩=⟨2,⟨0,0⟩,QH m,0⟩:=rfl;have ad:Qv m=0:=q;have ab:=QIx ad;have aa:QJ ⟨2,⟨0,0⟩,QH m,0⟩=0:=ab.chk;rw[e];refine⟨⟨aa,?_,λh=>by cases h⟩,rfl,?_⟩;·show(⟨2,⟨0,0⟩,QH (QH m),0⟩:Ar)=_;rw[ab.idem]
  unfold YE;rw[q,aa];show(QH m).sz=m.sz;unfold QH
  repeat' split
  all_goals rfl
 have e:WX ⟨4,r,m,n⟩=⟨4,⟨0,0⟩,Wa,n⟩:=rfl;have aa:QJ ⟨4,⟨0,0⟩,Wa,n⟩=0:=by unfold QJ at q ⊢;exact q
 rw[e];refine⟨⟨aa,rfl,λh=>by cases h⟩,rfl,?_⟩;unfold YE;rw[q,aa];rfl
theorem QDZ {ib:Int×Bool}{a:Ar}(h:(Wi ib a).2=0):Cn ib (Wi ib a).1∧(Wi ib a).1.k=a.k∧YE (Wi ib a).1=YE a∧QJ a=0:=by
 have q:QJ a=0:=by
  unfold Wi at h;simp only at h
  by_cases q:QJ a=0;·exact q
  have e:Wo a=(WN,QJ a):=by unfold Wo;rw[Le (by simpa using q)]
  rw[e,Lc (by simpa using q)]at h;exact absurd h q
 have ag:=(Vm q).2.2;have e:Wi ib a=if((WX a).k==3)=true then({WX a with n:=(W4 (WX a).n ib.1 ib.2).1},(W4 (WX a).n ib.1 ib.2).2) else(WX a,0):=by
  unfold Wi;simp only[QzL q];rw[Le (by simp)]
 rw[e]at h ⊢
 by_cases aa:a.k=3;·obtain⟨k,r,m,n⟩:=a;simp only at aa;subst aa;have e2:WX ⟨3,r,m,n⟩=nA 3 n:=rfl;rw[e2]at h ⊢;rw[Lc (by rfl)]at h ⊢;have h:(W4 n ib.1 ib.2).2=0:=h;exact⟨⟨QGr rfl,rfl,λ_=>QDY h⟩,rfl,by rw[QzK rfl,QzK rfl],q⟩
 have ae:a.k=1∨a.k=2∨a.k=4:=by omega
 obtain⟨ac,ab,ad⟩:=QKu (ib:=ib) ae q;rw[Le (by rw[ab];simpa using aa)];exact⟨ac,ab,ad,q⟩
def Qh6 (ib:Int×Bool):List Ar->List Ar->Prop
 | [],[]=>True
 | d::D,a::l=>(Cn ib d∧d.k=a.k∧YE d=YE a∧Wi ib a=(d,0))∧Qh6 ib D l
 | _,_=>False
theorem QzM {ib:Int×Bool}:∀ {l:List Ar},(QS ib l).2=0->Qh6 ib (QS ib l).1 l
 | [],_=>trivial
 | a::l,h=>by
  unfold QS at h ⊢
  by_cases z:((Wi ib a).2==0)=true;·rw[Lc z]at h ⊢;obtain⟨q,aa,ab,_⟩:=QDZ (eq_of_beq z);exact⟨⟨q,aa,ab,Prod.ext rfl (eq_of_beq z)⟩,QzM h⟩
  rw[Le z]at h;have h:(Wi ib a).2=0:=h;rw[h]at z;exact absurd rfl z
section
variable {ib:Int×Bool}
theorem Qh6.len:∀ {D l:List Ar},Qh6 ib D l->D.length=l.length
 | [],[],_=>rfl
 | _::D,_::l,h=>by rw[Lo,Lo,Qh6.len h.2]
 | [],_::_,h=>h.elim
 | _::_,[],h=>h.elim
theorem Qh6.cn:∀ {D l:List Ar},Qh6 ib D l->∀d∈D,Cn ib d
 | [],[],_,_,h=>by cases h
 | x::D,y::l,h,d,q=>by
  rcases LK.1 q with rfl | q;·exact h.1.1
  exact Qh6.cn h.2 d q
 | [],_::_,h,_,_=>h.elim
 | _::_,[],h,_,_=>h.elim
theorem Qh6.cnt (k:Int):∀ {D l:List Ar},Qh6 ib D l->W5 k D=W5 k l
 | [],[],_=>rfl
 | d::D,a::l,h=>by
  show(if(d.k==k)=true then(1:Int) else 0)+W5 k D=(if(a.k==k)=true then 1 else 0)+W5 k l;rw[h.1.2.1,Qh6.cnt k h.2]
 | [],_::_,h=>h.elim
 | _::_,[],h=>h.elim
theorem Qh6.bits {op:Int}{D l:List Ar}(h:Qh6 ib D l):Qy op D=Qy op l:=by
 unfold Qy;cases D with
 | nil=>
  cases l with
  | nil=>rfl
  | cons a l=>exact h.elim
 | cons d D=>
  cases l with
  | nil=>exact h.elim
  | cons a l=>simp only[h.1.2.2.1]
end
theorem QzN:∀ {l:List Ar},(∀a∈l,QJ a=0)->errA l=0
 | [],_=>rfl
 | a::l,h=>by
  show(if(QJ a==0)=true then _ else _)=_;rw[Lc (by rw[h a (Ny ..)];rfl),QzN λx hx=>h x (NA _ hx)]
theorem Quf {op:Int}{l:List Ar}(ac:Ji op=true)(ag:l.length<=4)(aa:∀a∈l,Cn (Qy op l) a)(ad:W5 2 l<=1∧W5 4 l<=1∧W5 3 l<=1)(ae:W5 3 l=0∨¬ (Qy op l).1=0):QZ op l=0:=by
 unfold QZ;rw[ac,Le (by decide),Le (by omega),QzN λa q=>(aa a q).chk,Le (by decide),Le (by simp;omega)]
 by_cases h:W5 3 l=0;·rw[Lc (by rw[h];rfl)]
 rw[Le (by simpa using h),Le (by simp;omega)];exact Que (P:=λz=>(W4 z (Qy op l).1 (Qy op l).2).2=0) 0 (λa q ab=>congrArg Prod.snd ((aa a q).imm ab)) h
theorem Qug {op:Int}{l:List Ar}(h:QZ op l=0):Ji op=true∧l.length<=4∧(W5 2 l<=1∧W5 4 l<=1∧W5 3 l<=1)∧(W5 3 l=0∨¬ (Qy op l).1=0):=by
 unfold QZ at h;split at h;·cases h
 rename_i aa;split at h;·cases h
 rename_i ae;split at h;·rename_i q;exfalso;rw[h]at q;cases q
 split at h;·cases h
 rename_i ab;refine⟨by simpa using aa,by omega,by simp at ab;omega,?_⟩;split at h;·rename_i ac;left;simpa using ac
 split at h;·cases h
 rename_i ad;right;simpa using ad
theorem QKv {op:Int}{l:List Ar}(h:(QU op l).2.2=0):∃D,QZ op l=0∧Qh6 (Qy op l) D l∧QZ op D=0∧(∀d∈D,Cn (Qy op D) d)∧QU op l=(op,Q6 op D,0):=by
 have aa:QZ op l=0:=by
  unfold QU at h
  by_cases z:(QZ op l==0)=false;·rw[Lc z]at h;have h:QZ op l=0:=h;exact h
  simpa using z
 have ab:(QS (Qy op l) l).2=0:=by
  unfold QU at h;rw[aa,Le (by decide)]at h
  by_cases z:((QS (Qy op l) l).2==0)=false;·rw[Lc z]at h;exact h
  simpa using z
 have q:=QzM ab;obtain⟨k1,k2,k3,k4⟩:=Qug aa;have ac:=q.bits (op:=op);have ad:∀d∈(QS (Qy op l) l).1,Cn (Qy op (QS (Qy op l) l).1) d:=by rw[ac];exact q.cn
 refine⟨_,aa,q,Quf k1 (by rw[q.len];exact k2) ad (by rw[q.cnt 2,q.cnt 3,q.cnt 4];exact k3) (by rw[q.cnt 3,ac];exact k4),ad,?_⟩;unfold QU;rw[aa,Le (by decide),ab,Le (by decide)]
theorem QI6 (x y z:Ar):Q6 16 [x,y,z]=[x,y,z]:=by
 unfold Q6;rw[Le (show ¬QeQ 16 [x,y,z]=true from by unfold QeQ QbP;simp),Le (show ¬Qc9 16 [x,y,z]=true from by unfold Qc9 QbP;simp),Le (show ¬Qf7 16 [x,y,z]=true from by unfold Qf7;simp)]
theorem Quh {op:Int}{C:List Ar}(a:QeQ op C=false)(b:Qc9 op C=false)(c:Qf7 op C=false):Q6 op C=C:=by
 unfold Q6;rw[a,b,c,Le (by decide),Le (by decide),Le (by decide)]
theorem Qyo {ib ab:Int×Bool}{d:Ar}(h:Cn ib d)(aa:¬d.k=3):Cn ab d:=⟨h.chk,h.can,λq=>absurd q aa⟩
theorem QD0 {l:List Ar}(aa:l=[]->False)(ab:∀x,l=[x]->False)(ac:∀x y z q,l=x::y::z::q->False):∃x y,l=[x,y]:=
 match l,aa,ab,ac with
 | [],h,_,_=>(h rfl).elim
 | [x],_,h,_=>(h x rfl).elim
 | [x,y],_,_,_=>⟨x,y,rfl⟩
 | x::y::z::q,_,_,h=>(h x y z q rfl).elim
theorem Qwx {C:List Ar}{op:Int}(aj:∀d∈C,∃ib,Cn ib d)(ad:Q6 op C=C)(aa:JZ op C=true):Q6 op C.reverse=C∧(∀ib,∀d∈C.reverse,Cn ib d):=by
 obtain⟨x,y,rfl⟩:=QD0 (l:=C) (λh=>by rw[h]at aa;exact Bool.noConfusion aa) (λx h=>by rw[h]at aa;exact Bool.noConfusion aa) (λx y z l h=>by rw[h]at aa;exact Bool.noConfusion aa);unfold JZ at aa;simp only[Lm,L0,Lr,LC,Da]at aa;obtain⟨⟨rfl,⟨hx,ab⟩,ag⟩,ai⟩:=aa;have ac:∀p q:Ar,p.k=1->q.k=1->QeQ 11 [p,q]=false∧Qc9 11 [p,q]=false:=λp q an ao=>by
  constructor;·rfl
  unfold Qc9 QbP;simp[an,ao]
 constructor
 ·have ae:x.r.n<=y.r.n:=by
   unfold Q6 at ad;rw[(ac x y hx ab).1,(ac x y hx ab).2,Le (by decide),Le (by decide)]at ad
   by_cases ae:x.r.n<=y.r.n;·exact ae
   exfalso;rw[Lc (by unfold Qf7 JX;simp[hx,ab,ag,ae])]at ad;have e:y=x:=(Bf ad).1;rw[e]at ai;exact ai rfl
  show Q6 11 [y,x]=_;unfold Q6;rw[(ac y x ab hx).1,(ac y x ab hx).2,Le (by decide),Le (by decide),Lc (by unfold Qf7 JX;simp[hx,ab,ag.symm];omega)];rfl
 intro ib d am;have ah:d=y∨d=x:=by simpa using am
 have ap:d.k=1:=by rcases ah with rfl | rfl<;>assumption
 obtain⟨aq,ak⟩:=aj d (by rcases ah with rfl | rfl<;>simp);exact Qyo ak (by omega)
theorem QD1 {op:Int}{D:List Ar}(h:QZ op D=0)(ag:∀d∈D,Cn (Qy op D) d):
  QZ op (Q6 op D)=0∧(∀d∈Q6 op D,Cn (Qy op (Q6 op D)) d)∧Q6 op (Q6 op D)=Q6 op D∧
  (Q6 op D=D∨QeQ op D=true∨Qc9 op D=true∨(Q6 op D=D.reverse∧JZ op (Q6 op D)=true))∧
  (JZ op (Q6 op D)=true->Q6 op (Q6 op D).reverse=Q6 op D∧(∀ib,∀d∈(Q6 op D).reverse,Cn ib d)):=by
 obtain⟨k1,k2,k3,k4⟩:=Qug h;cases aa:QeQ op D with
 | true=>
  have an:=aa;unfold QeQ at aa;rw[Lm,L0]at aa;obtain⟨rfl,aa⟩:=aa;obtain⟨x,y,rfl⟩:=Qd5 aa;unfold QbP at aa;rw[Lm,L0,L0]at aa;have e:Q6 16 [x,y]=[x,x,y]:=by unfold Q6;rw[Lc an]
  have aj:Qy 16 [x,x,y]=Qy 16 [x,y]:=rfl;have ad:∀d∈[x,x,y],Cn (Qy 16 [x,x,y]) d:=λd ae=>by
   rw[aj];refine ag d ?_;simp only[LK,Ns,NN]at ae ⊢;rcases ae with h | h | h;·exact .inl h
   ·exact .inl h
   exact .inr h
  rw[e];refine⟨Quf k1 (by simp) ad ?_ ?_,ad,QI6 _ _ _,.inr (.inl rfl),λac=>by cases ac⟩;·simp only[W5,aa.1,aa.2];decide
  right;rw[aj];rcases k4 with k4 | k4;·exfalso;simp only[W5,aa.1,aa.2]at k4;exact absurd k4 (by decide)
  exact k4
 | false=>
  cases q:Qc9 op D with
  | true=>
   have ao:=q;unfold Qc9 at q;rw[Lm]at q;obtain⟨ar,q⟩:=q;obtain⟨x,y,rfl⟩:=Qd5 q;unfold QbP at q;rw[Lm,L0,L0]at q;have e:Q6 op [x,y]=[y,x]:=by unfold Q6;rw[aa,Le (by decide),Lc ao];rfl
   have ad:∀d∈[y,x],Cn (Qy op [y,x]) d:=λd ae=>by
    have ah:d=y∨d=x:=by simpa using ae
    refine Qyo (ag d (by rcases ah with rfl | rfl<;>simp)) ?_;rcases ah with rfl | rfl<;>omega
   rw[e];refine⟨Quf k1 (by simp) ad ?_ ?_,ad,Quh ?_ ?_ ?_,.inr (.inr (.inl rfl)),λac=>?_⟩;·simp only[W5,q.1,q.2];decide
   ·left;simp only[W5,q.1,q.2];decide
   ·unfold QeQ QbP;simp[q.1,q.2]
   ·unfold Qc9 QbP;simp[q.1,q.2]
   ·unfold Qf7 JX;simp[q.1,q.2]
   exfalso;unfold JZ at ac;simp[q.1,q.2]at ac
  | false=>
   cases ab:Qf7 op D with
   | true=>
    have ap:=ab;obtain⟨x,y,rfl⟩:=QD0 (l:=D) (λh=>by rw[h]at ab;exact Bool.noConfusion ab) (λx h=>by rw[h]at ab;exact Bool.noConfusion ab) (λx y z l h=>by rw[h]at ab;exact Bool.noConfusion ab);unfold Qf7 JX at ab;simp only[Lm,L0,Lr,NY]at ab;obtain⟨⟨rfl,⟨hx,ai⟩,ak⟩,aq⟩:=ab;have e:Q6 11 [x,y]=[y,x]:=by unfold Q6;rw[aa,q,Le (by decide),Le (by decide),Lc ap];rfl
    have ad:∀d∈[y,x],Cn (Qy 11 [y,x]) d:=λd ae=>by
     have ah:d=y∨d=x:=by simpa using ae
     refine Qyo (ag d (by rcases ah with rfl | rfl<;>simp)) ?_;rcases ah with rfl | rfl<;>omega
    have ac:JZ 11 [y,x]=true:=by
     unfold JZ;simp[hx,ai,ak];omega
    have am:Q6 11 [y,x]=[y,x]:=Quh (by rfl) (by unfold Qc9 QbP;simp[hx,ai]) (by unfold Qf7 JX;simp[hx,ai,ak];omega);rw[e];refine⟨Quf k1 (by simp) ad ?_ ?_,ad,am,.inr (.inr (.inr ⟨rfl,ac⟩)),λac=>Qwx (λd aa=>⟨_,ad d aa⟩) am ac⟩;·simp only[W5,hx,ai];decide
    left;simp only[W5,hx,ai];decide
   | false=>
    have e:=Quh aa q ab;rw[e];exact⟨h,ag,e,.inl rfl,λac=>Qwx (λd aa=>⟨_,ag d aa⟩) e ac⟩
theorem Qyp {x b:Int}{ab:Bool}(ac:b=8∨b=16∨b=32∨b=64):W4 x b ab=if x=K9 x b∨x=Ku x b then(if ab=true then Ku x b else K9 x b,0) else(0,5):=by
 unfold W4;rw[Le (by rcases ac with rfl | rfl | rfl | rfl<;>decide)]
 by_cases q:x=K9 x b;·rw[Le (by rw[<- q];simp),Lc (Or.inl q)];cases ab<;>rfl
 by_cases aa:x=Ku x b;·rw[Le (by rw[<- aa];simp),Lc (Or.inr aa)];cases ab<;>rfl
 rw[Lc (by simp[q,aa]),Le (by simp[q,aa])]
def Kb (b:Int)(k:Nat):Prop:=(k=1∧b=8)∨(k=2∧b=16)∨(k=4∧b=32)∨(k=8∧b=64)
theorem QGt {n:Int}{k:Nat}(q:k=1∨k=2∨k=4∨k=8)(aa:I64 n)(h:(-(2 ^ (8 * k - 1))<=n∧n<2 ^ (8 * k - 1))∨(0<=n∧n<2 ^ (8 * k))):(ZE n k).1=YY n k:=by
 have e1:(2:Int) ^ (min (64 - (8:Int)).toNat 64)=72057594037927936:=by decide
 have e2:(2:Int) ^ (min (64 - (16:Int)).toNat 64)=281474976710656:=by decide
 have e3:(2:Int) ^ (min (64 - (32:Int)).toNat 64)=4294967296:=by decide
 have e4:(2:Int) ^ (min (64 - (64:Int)).toNat 64)=1:=by decide
 unfold I64 at aa;have w:QiR n (8 * (k:Int))=true:=by
  unfold QiR Qaz QDs;rcases q with rfl | rfl | rfl | rfl;·rw[show(2:Int) ^ (8 * 1)=256 from rfl,show(2:Int) ^ (8 * 1 - 1)=128 from rfl]at h;rw[show(8 * ((1:Nat):Int))=8 from rfl,show WD 8=true by decide,Le (by decide),Le (by decide),e1,Np _ (by decide),Np _ (by decide),LJ,Nw,L0,L0,NU,NU,NC,NC];omega
  ·rw[show(2:Int) ^ (8 * 2)=65536 from rfl,show(2:Int) ^ (8 * 2 - 1)=32768 from rfl]at h;rw[show(8 * ((2:Nat):Int))=16 from rfl,show WD 16=true by decide,Le (by decide),Le (by decide),e2,Np _ (by decide),Np _ (by decide),LJ,Nw,L0,L0,NU,NU,NC,NC];omega
  ·rw[show(2:Int) ^ (8 * 4)=4294967296 from rfl,show(2:Int) ^ (8 * 4 - 1)=2147483648 from rfl]at h;rw[show(8 * ((4:Nat):Int))=32 from rfl,show WD 32=true by decide,Le (by decide),Le (by decide),e3,Np _ (by decide),Np _ (by decide),LJ,Nw,L0,L0,NU,NU,NC,NC];omega
  rw[show(8 * ((8:Nat):Int))=64 from rfl,show WD 64=true by decide,Le (by decide),Le (by decide),e4,Np _ (by decide),Np _ (by decide),LJ,Nw,L0,L0,NU,NU,NC,NC];omega
 unfold ZE;rw[Le (by rcases q with rfl | rfl | rfl | rfl<;>decide),w,Le (by decide),LG]
/-! Operands in their canon. -/
theorem Qwy (ib:Int×Bool)(a:Ar):(XI ib a).a=a:=by unfold XI;split<;>rfl
theorem Qwz {r:Rg}(h:Wv r=true):WY r=r.n % 8∧XS r=r.n / 8∧0<=r.n∧r.n<16:=by
 have:=Qwo h;unfold WY XS;rw[Lc h,Lc h];exact⟨rfl,rfl,this⟩
theorem Qe4 {s sl:Int}(h:QaC s sl=true):(sl=6∧28<=s∧s<=33)∨(sl=5∧20<=s∧s<=27)∨((sl=1∨sl=3∨sl=4∨sl=7)∧1<=s∧s<=6)∨(sl=2∧((1<=s∧s<=19)∨s=34)):=by
 unfold QaC at h;split at h;·simp at h;omega
 split at h;·simp at h;omega
 split at h;·simp at h;omega
 split at h;·simp at h;omega
 cases h
section
variable {f:Fm} {op:Int} {l:List Ar} (hf:FmS f) (hfit:Qe3 f op l=true) (hcn:∀a∈l,Cn (Qy op l) a) (hI:∀a∈l,I64 a.n)
include hf hfit hcn
theorem QI7 {k:Nat}{a:Ar}(aa:l[k]? = some a):QaC (f.shapes.getD k 0) (f.slots.getD k 0)=true∧Zq (f.shapes.getD k 0).toNat (XI (Qy op l) a)=true∧Cn (Qy op l) a∧(¬f.slots.getD k 0=6->Qh f.slots (f.slots.getD k 0)=k):=by
 obtain⟨_,ad,ae,ag,ab⟩:=Vp hfit;have ac:=(Lk.1 aa).1;have q:=ab k ac;have e:l.getD k WN=a:=by rw[LX,aa];rfl
 rw[e]at q;unfold QfR at q;rw[Lm]at q;exact⟨hf.goes k (by omega),q.2,hcn a (Ln aa),hf.once k (by have:=hf.len;omega)⟩
omit hf hfit hcn in
theorem QKw {ib:Int×Bool}{s:Int}{a:Ar}(aa:1<=s∧s<=6)(q:Zq s.toNat (XI ib a)=true):a.k=1:=by
 have e:=Qwy ib a;obtain⟨n,rfl⟩:∃n:Nat,s=n:=⟨s.toNat,by omega⟩;rw[LG]at q;have:n=1∨n=2∨n=3∨n=4∨n=5∨n=6:=by omega
 rcases this with rfl | rfl | rfl | rfl | rfl | rfl
 all_goals
  simp only[Zq,Ys,VQ,e,Nw,Lm,L0]at q;omega
omit hf hfit hcn in
theorem QLg {ib:Int×Bool}{s:Int}{a:Ar}(aa:(1<=s∧s<=19)∨s=34)(q:Zq s.toNat (XI ib a)=true):(a.k=1∧s<=14∧clF s≠0)∨(a.k=2∧a.m.sz=szF s∧0<=szF s):=by
 have e:=Qwy ib a;obtain⟨n,rfl⟩:∃n:Nat,s=n:=⟨s.toNat,by omega⟩;rw[LG]at q;have:n=1∨n=2∨n=3∨n=4∨n=5∨n=6∨n=7∨n=8∨n=9∨n=10∨n=11∨n=12∨n=13∨n=14∨n=15∨n=16∨n=17∨n=18∨n=19∨n=34:=by omega
 rcases this with rfl | rfl | rfl | rfl | rfl | rfl | rfl | rfl | rfl | rfl | rfl | rfl | rfl | rfl | rfl | rfl | rfl | rfl | rfl | rfl
 all_goals
  simp only[Zq,Ys,VQ,e,Nw,Lm,L0]at q;simp[clF,szF];omega
omit hf hfit hcn in
theorem QKx {ib:Int×Bool}{s:Int}{a:Ar}(aj:20<=s∧s<=27)(q:Zq s.toNat (XI ib a)=true)(ai:a.k=3->W4 a.n ib.1 ib.2=(a.n,0)):
  (a.k=3∧¬ (s==26||s==27)=true∧∃k:Nat,tl0 s=k∧(Kb ib.1 k∨((k=1∨k=4)∧-(2 ^ (8 * k - 1))<=a.n∧a.n<2 ^ (8 * k - 1)))) ∨
  (a.k=4∧(s==26||s==27)=true∧∃k:Nat,tl0 s=k∧(k=4∨(k=1∧-128<=a.n∧a.n<=127))):=by
 have e:=Qwy ib a;have ae:∀ {P:Int->Prop},P (XI ib a).bits->¬P 0->a.k=3∧(XI ib a).bits=ib.1∧(XI ib a).n=a.n:=λ{P} h h0=>by
  have ad:a.k=3:=by
   by_cases ad:a.k=3;·exact ad
   exfalso;have:(XI ib a).bits=0:=by unfold XI;rw[Le ad]
   rw[this]at h;exact h0 h
  refine⟨ad,?_,?_⟩;·unfold XI;rw[Lc ad]
  unfold XI;rw[Lc ad,ai ad]
 have ah:(2:Int) ^ (8 * 1 - 1)=128:=rfl;have ag:(2:Int) ^ (8 * 4 - 1)=2147483648:=rfl;obtain⟨n,rfl⟩:∃n:Nat,s=n:=⟨s.toNat,by omega⟩;rw[LG]at q;have:n=20∨n=21∨n=22∨n=23∨n=24∨n=25∨n=26∨n=27:=by omega
 rcases this with rfl | rfl | rfl | rfl | rfl | rfl | rfl | rfl
 all_goals simp only[Zq,e,Lm,L0,Lv]at q
 ·obtain⟨aa,ab,ac⟩:=ae (P:=λz=>z=8) q (by decide);exact .inl ⟨aa,by decide,1,rfl,.inl (.inl ⟨rfl,by rw[<- ab];exact q⟩)⟩
 ·obtain⟨aa,ab,ac⟩:=ae (P:=λz=>8<z) q.1.1 (by decide);rw[ac]at q;exact .inl ⟨aa,by decide,1,rfl,.inr ⟨.inl rfl,by rw[ah];omega,by rw[ah];omega⟩⟩
 ·obtain⟨aa,ab,ac⟩:=ae (P:=λz=>z=16) q (by decide);exact .inl ⟨aa,by decide,2,rfl,.inl (.inr (.inl ⟨rfl,by rw[<- ab];exact q⟩))⟩
 ·obtain⟨aa,ab,ac⟩:=ae (P:=λz=>z=32) q (by decide);exact .inl ⟨aa,by decide,4,rfl,.inl (.inr (.inr (.inl ⟨rfl,by rw[<- ab];exact q⟩)))⟩
 ·obtain⟨aa,ab,ac⟩:=ae (P:=λz=>z=64) q.1.1 (by decide);rw[ac]at q;exact .inl ⟨aa,by decide,4,rfl,.inr ⟨.inr rfl,by rw[ag];omega,by rw[ag];omega⟩⟩
 ·obtain⟨aa,ab,ac⟩:=ae (P:=λz=>z=64) q (by decide);exact .inl ⟨aa,by decide,8,rfl,.inl (.inr (.inr (.inr ⟨rfl,by rw[<- ab];exact q⟩)))⟩
 ·exact .inr ⟨q.1.1,by decide,1,rfl,.inr ⟨rfl,q.1.2,q.2⟩⟩
 exact .inr ⟨q,by decide,4,rfl,.inl rfl⟩
end
theorem QD3 {mid x b z:Int}{m:Mm}{bs:List Int}(h:Way mid m x b bs):Way mid {m with sz:=z} x b bs:=by
 cases h with
 | rip d sz=>exact .rip d z
 | abs d sz=>exact .abs d z
 | idx i sc d sz hi ab=>exact .idx i sc d z hi ab
 | both b i sc d sz md q hi ab aa=>exact .both b i sc d z md q hi ab aa
 | base1 b d sz md q ac aa=>exact .base1 b d z md q ac aa
 | base2 b d sz md q aa=>exact .base2 b d z md q aa
 | base3 b d sz q=>exact .base3 b d z q
section
variable {f:Fm} {op:Int} {l:List Ar} (hf:FmS f) (hfit:Qe3 f op l=true) (hcn:∀a∈l,Cn (Qy op l) a) (hI:∀a∈l,I64 a.n)
include hf hfit
include hcn hI
end
section
variable {f:Fm} {op:Int} {l:List Ar} (hf:FmS f) (ho:FOk f) (hfit:Qe3 f op l=true) (hcn:∀a∈l,Cn (Qy op l) a) (hI:∀a∈l,I64 a.n) (hvx:f.vex=true->∀s∈f.shapes,clF s≠1)
include hf ho hfit hcn hI hvx
end
def szS (s:Int):Int:=if s=1∨s=7∨s=28∨s=32 then 1 else if s=2∨s=8∨s=29 then 2 else if s=3∨s=9∨s=30 then 4 else if s=4∨s=10∨s=31 then 8 else 0
theorem Quk {s:Int}(h:szS s≠0):s=1∨s=2∨s=3∨s=4∨s=7∨s=8∨s=9∨s=10∨(28<=s∧s<=32):=by
 unfold szS at h
 repeat' split at h
 all_goals omega
def ibS (f:Fm):Int×Bool:=if((QmD f.op).1==0)=false then QmD f.op else(8 * szS (f.shapes.getD 0 0),(QmD f.op).2)
def imS (ib:Int×Bool)(s:Int):Bool:=if s=20 then ib.1==8 else if s=21 then decide (8<ib.1)&&ib.2 else if s=22 then ib.1==16 else if s=23 then ib.1==32 else if s=24∨s=25 then ib.1==64 else true
def fmI (f:Fm):Bool:=(!decide (0<=Qh f.slots 5)||imS (ibS f) (f.shapes.getD (Qh f.slots 5).toNat 0))&&!(f.op==16&&f.shapes.length==2&&!(f.slots.getD 1 0==2))&&!((f.op==10||f.op==11)&&f.shapes.length==2&&f.slots.getD 1 0==2)&&(!f.vex||f.shapes.all λs=>!(clF s==1))
theorem QzP {ib:Int×Bool}:∀ {D l:List Ar},Qh6 ib D l->∀ {k:Nat} {a:Ar},l[k]? = some a->∃d,D[k]? = some d∧Cn ib d∧Wi ib a=(d,0)
 | [],[],_,k,a,h=>by simp at h
 | d::D,a::l,h,0,x,hx=>by simp at hx;subst hx;exact⟨d,rfl,h.1.1,h.1.2.2.2⟩
 | d::D,a::l,h,k+1,x,hx=>by
  obtain⟨e,q,aa⟩:=QzP h.2 (show l[k]? = some x by simpa using hx);exact⟨e,by simpa using q,aa⟩
 | [],_::_,h,_,_,_=>h.elim
 | _::_,[],h,_,_,_=>h.elim
section
variable {ib:Int×Bool}
theorem Qe5 {a d:Ar}(h:Wi ib a=(d,0)):QJ a=0∧(if((WX a).k==3)=true then(({WX a with n:=(W4 (WX a).n ib.1 ib.2).1}:Ar),(W4 (WX a).n ib.1 ib.2).2) else(WX a,0))=(d,0):=by
 have q:QJ a=0:=(QDZ (ib:=ib) (a:=a) (by rw[h])).2.2.2;refine⟨q,?_⟩;rw[<- h];unfold Wi;simp only[QzL q];rw[Le (show ¬ ((0:Int)==0)=false by decide)]
theorem QD4 {r:Rg}{d:Ar}(h:Wi ib ⟨1,r,Wa,0⟩=(d,0)):d=⟨1,r,Wa,0⟩∧Wv r=true:=by
 obtain⟨q,aa⟩:=Qe5 h;exact⟨(congrArg Prod.fst aa).symm,(Vm q).1 rfl⟩
theorem QJf {m:Mm}{d:Ar}(h:Wi ib ⟨2,⟨0,0⟩,m,0⟩=(d,0)):d=⟨2,⟨0,0⟩,QH m,0⟩∧Qv m=0:=by
 obtain⟨q,aa⟩:=Qe5 h;exact⟨(congrArg Prod.fst aa).symm,(Vm q).2.1 rfl⟩
theorem QD5 {n:Int}{d:Ar}(h:Wi ib (nA 3 n)=(d,0)):d=nA 3 (W4 n ib.1 ib.2).1∧(W4 n ib.1 ib.2).2=0:=by
 obtain⟨aa,q⟩:=Qe5 h;exact⟨(congrArg Prod.fst q).symm,congrArg Prod.snd q⟩
theorem QJg {n:Int}{d:Ar}(h:Wi ib (nA 4 n)=(d,0)):d=nA 4 n:=by
 obtain⟨aa,q⟩:=Qe5 h;exact(congrArg Prod.fst q).symm
theorem QzQ (c:Rr)(s n:Int):QmH c s n=clF s∨(clF s=1∧QmH c s n=2):=by
 unfold QmH;cases h:(clF s==1)&&!c.rex&&!c.x.f.vex&&decide (4<=n)&&decide (n<=7) with
 | false=>exact .inl rfl
 | true=>
  simp only[Lm,L0]at h;exact .inr ⟨h.1.1.1.1,rfl⟩
theorem QGz {s:Int}{d:Ar}(ab:1<=s∧s<=14)(aa:d.k=1)(q:d.r.c=clF s∨(clF s=1∧d.r.c=2)):Zq s.toNat (XI ib d)=true:=by
 have e:=Qwy ib d;obtain⟨n,rfl⟩:∃n:Nat,s=n:=⟨s.toNat,by omega⟩;rw[LG];have:n=1∨n=2∨n=3∨n=4∨n=5∨n=6∨n=7∨n=8∨n=9∨n=10∨n=11∨n=12∨n=13∨n=14:=by omega
 rcases this with rfl | rfl | rfl | rfl | rfl | rfl | rfl | rfl | rfl | rfl | rfl | rfl | rfl | rfl
 all_goals
  simp[clF]at q;simp[Zq,Ys,VQ,e,aa];omega
theorem QGA {s:Int}{d:Ar}(ac:(1<=s∧s<=19)∨s=34)(aa:0<=szF s)(ab:d.k=2)(q:d.m.sz=szF s):Zq s.toNat (XI ib d)=true:=by
 have e:=Qwy ib d;obtain⟨n,rfl⟩:∃n:Nat,s=n:=⟨s.toNat,by omega⟩;rw[LG];have:n=1∨n=2∨n=3∨n=4∨n=5∨n=6∨n=7∨n=8∨n=9∨n=10∨n=11∨n=12∨n=13∨n=14∨n=15∨n=16∨n=17∨n=18∨n=19∨n=34:=by omega
 rcases this with rfl | rfl | rfl | rfl | rfl | rfl | rfl | rfl | rfl | rfl | rfl | rfl | rfl | rfl | rfl | rfl | rfl | rfl | rfl | rfl
 all_goals
  simp[szF]at q aa
  try simp[Zq,Ys,VQ,e,ab,q]
theorem QGB (s:Int):clF s≠2:=by
 unfold clF
 repeat' split
 all_goals decide
def QGC (f:Fm)(q:Bool)(d:Ar):Prop:=d.k=1->f.vex=false->(q=false->Qhn d.r=false)∧(q=true->QnN d.r=false)
theorem QKy {c:Rr}{s n:Int}:QGC c.x.f c.rex ⟨1,⟨QmH c s n,n⟩,Wa,0⟩:=by
 intro _ ad;unfold Qhn QnN QmH;rw[ad];have:=QGB s;constructor
 ·intro aa;rw[aa]
  by_cases q:clF s=1
  ·rw[q]
   by_cases ab:4<=n;·by_cases ac:n<=7<;>simp[ab,ac]
   simp[ab]
  rw[show(clF s==1)=false from LC.2 q];simp[q]
 intro aa;rw[aa];simp[this]
theorem QKz {c:Rr}{s sl n is4:Int}(ai:QaC s sl=true)(ac:szS s≠0)(aa:QJ (opA c s sl n is4)=0):YE (opA c s sl n is4)=szS s:=by
 have rg:∀N,1<=s->s<=14->QJ (rA c s N)=0->YE (rA c s N)=szS s:=λN ag ah aa=>by
  have ae:=(Vm aa).1 rfl;have ae:Wv ⟨QmH c s N,N⟩=true:=ae;have e:YE (rA c s N)=Qg7 ⟨QmH c s N,N⟩:=by
   unfold YE;rw[aa];rfl
  rw[e];unfold Qg7;rw[ae,Le (by decide)];have:=QzQ c s N;show(if QmH c s N=7 then _ else _)=_;generalize QmH c s N=q at *;rcases Quk ac with rfl | rfl | rfl | rfl | rfl | rfl | rfl | rfl | h
  all_goals first | omega | (rcases this with rfl | ⟨h,rfl⟩<;>first | rfl | exact absurd h (by decide))
 have ak:∀a:Ar,QJ a=0->a.k=2->YE a=a.m.sz:=λa ag ah=>by unfold YE;rw[ag,ah];rfl
 rcases Qe4 ai with⟨rfl,g1,g2⟩ | ⟨rfl,g1,g2⟩ | ⟨ad,g1,g2⟩ | ⟨rfl,g1⟩
 ·have:s=28∨s=29∨s=30∨s=31∨s=32∨s=33:=by omega
  rcases this with rfl | rfl | rfl | rfl | rfl | rfl
  all_goals first | rfl | exact absurd rfl ac
 ·have:=Quk ac;omega
 ·rcases ad with rfl | rfl | rfl | rfl<;>exact rg _ g1 (by omega) aa
 have e:opA c s 2 n is4=if decide (0<=c.seen.reg)=true then rA c s c.seen.reg else⟨2,⟨0,0⟩,{c.seen.m with sz:=szF s},0⟩:=rfl
 rw[e]at aa ⊢;have ad:1<=s∧s<=14:=by have:=Quk ac;omega
 split;·rename_i h;rw[Lc h]at aa;exact rg _ ad.1 ad.2 aa
 rename_i h;rw[Le h]at aa;have ab:=(Vm aa).2.1 rfl;rw[ak _ aa rfl];show szF s=szS s;have aj:Zz (szF s)=true:=by
  have ab:Qv {c.seen.m with sz:=szF s}=0:=ab;unfold Qv at ab;split at ab;·cases ab
  split at ab;·cases ab
  rename_i h;simpa using h
 rcases Quk ac with rfl | rfl | rfl | rfl | rfl | rfl | rfl | rfl | h
 all_goals first | rfl | omega | exact absurd aj (by decide)
end
theorem QzR {mid x b:Int}{m:Mm}{bs:List Int}(h:Way mid m x b bs):QH m=m:=by
 cases h with
 | rip d sz=>rfl
 | abs d sz=>rfl
 | idx i sc d sz hi ab=>unfold QH;rw[Lc (by simp;omega)]
 | both b i sc d sz md q hi ab aa=>
  unfold QH;split;·rfl
  rw[Le (by simp[isR]),Le (by simp;omega)]
 | base1 b d sz md q ac aa=>rfl
 | base2 b d sz md q aa=>rfl
 | base3 b d sz q=>rfl
theorem QGD {n m:Int}{ib:Int×Bool}{k:Nat}(ag:k=1∨k=2∨k=4∨k=8)(q:-(2 ^ (8 * k - 1))<=n∧n<2 ^ (8 * k - 1))(h:W4 n ib.1 ib.2=(m,0))(ab:Kb ib.1 k∨(m=n)):I64 m∧((-(2 ^ (8 * k - 1))<=m∧m<2 ^ (8 * k - 1))∨(0<=m∧m<2 ^ (8 * k)))∧∃c,m=n+c * 2 ^ (8 * k):=by
 have ac:(2:Int) ^ (8 * 1)=256∧(2:Int) ^ (8 * 1 - 1)=128:=⟨rfl,rfl⟩;have ad:(2:Int) ^ (8 * 2)=65536∧(2:Int) ^ (8 * 2 - 1)=32768:=⟨rfl,rfl⟩;have ae:(2:Int) ^ (8 * 4)=4294967296∧(2:Int) ^ (8 * 4 - 1)=2147483648:=⟨rfl,rfl⟩;have p8:(2:Int) ^ (8 * 8)=18446744073709551616∧(2:Int) ^ (8 * 8 - 1)=9223372036854775808:=⟨rfl,rfl⟩;rcases ab with ab | rfl
 ·rw[Qyp (by unfold Kb at ab;omega)]at h;have h:(if ib.2=true then Ku n ib.1 else K9 n ib.1)=m:=by
   split at h;·exact congrArg Prod.fst h
   cases congrArg Prod.snd h
  unfold I64;rcases ab with⟨rfl,aa⟩ | ⟨rfl,aa⟩ | ⟨rfl,aa⟩ | ⟨rfl,aa⟩
  ·rw[ac.2]at q;rw[ac.1,ac.2];rw[aa]at h;split at h;·simp only[Ku,N3]at h;exact⟨by omega,by omega,0,by omega⟩
   simp only[K9,N3]at h;exact⟨by omega,by omega,(if n<0 then 1 else 0),by split<;>omega⟩
  ·rw[ad.2]at q;rw[ad.1,ad.2];rw[aa]at h;split at h;·simp only[Ku,N3,show ¬ (16:Int)=8 by decide,LN]at h;exact⟨by omega,by omega,0,by omega⟩
   simp only[K9,N3,show ¬ (16:Int)=8 by decide,LN]at h;exact⟨by omega,by omega,(if n<0 then 1 else 0),by split<;>omega⟩
  ·rw[ae.2]at q;rw[ae.1,ae.2];rw[aa]at h;split at h;·simp only[Ku,N3,show ¬ (32:Int)=8 by decide,show ¬ (32:Int)=16 by decide,LN]at h;exact⟨by omega,by omega,0,by omega⟩
   simp only[K9,N3,show ¬ (32:Int)=8 by decide,show ¬ (32:Int)=16 by decide,LN]at h;exact⟨by omega,by omega,(if n<0 then 1 else 0),by split<;>omega⟩
  rw[p8.2]at q;rw[p8.1,p8.2];have h:n=m:=by
   rw[aa]at h;split at h;·simp only[Ku,show ¬ (64:Int)=8 by decide,show ¬ (64:Int)=16 by decide,show ¬ (64:Int)=32 by decide,LN]at h;exact h
   simp only[K9,show ¬ (64:Int)=8 by decide,show ¬ (64:Int)=16 by decide,show ¬ (64:Int)=32 by decide,LN]at h;exact h
  exact⟨by omega,by omega,0,by omega⟩
 refine⟨?_,.inl q,0,by omega⟩;unfold I64;rcases ag with rfl | rfl | rfl | rfl;·rw[ac.2]at q;omega
 ·rw[ad.2]at q;omega
 ·rw[ae.2]at q;omega
 rw[p8.2]at q;omega
theorem QD6 {t:List Int}(ad:Byt t)(q:t.length=1∨t.length=2∨t.length=4∨t.length=8){m:Int}{ib:Int×Bool}(h:(m=JY t)∨(W4 (JY t) ib.1 ib.2=(m,0)∧Kb ib.1 t.length)):(ZE m t.length).1=t:=by
 have e:=QoM ad (by omega) (by omega);obtain⟨aa,ab,_⟩:=QtV q (JY t);rw[e]at aa ab;have key:I64 m∧((-(2 ^ (8 * t.length - 1))<=m∧m<2 ^ (8 * t.length - 1))∨(0<=m∧m<2 ^ (8 * t.length)))∧∃c,m=JY t+c * 2 ^ (8 * t.length):=by
  rcases h with rfl | ⟨h,ac⟩
  ·refine⟨?_,.inl ⟨aa,ab⟩,0,by omega⟩;unfold I64;rcases q with q | q | q | q;·rw[q,show(2:Int) ^ (8 * 1 - 1)=128 from rfl]at aa ab;omega
   ·rw[q,show(2:Int) ^ (8 * 2 - 1)=32768 from rfl]at aa ab;omega
   ·rw[q,show(2:Int) ^ (8 * 4 - 1)=2147483648 from rfl]at aa ab;omega
   rw[q,show(2:Int) ^ (8 * 8 - 1)=9223372036854775808 from rfl]at aa ab;omega
  exact QGD q ⟨aa,ab⟩ h (.inl ac)
 obtain⟨g1,g2,c,g3⟩:=key;rw[QGt q g1 g2,QlA (by omega),g3,QoL,QtT,<- QlA (by omega)];exact e
section
variable {f:Fm} {r x b v low n is4:Int} {rx:Bool} {sn:Sn} {hd pl tb:List Int} {ib:Int×Bool}
structure OpC (f:Fm) (r x b v low n is4:Int) (rx:Bool) (sn:Sn) (ib:Int×Bool) (s sl:Int) (d:Ar):Prop where
 test:Zq s.toNat (XI ib d)=true
 k2:d.k=2->sl=2
 rg:QGC f rx d
 s1:sl=1->Wv d.r=true∧d.r.n=8 * r+sn.fld
 s3:sl=3->Wv d.r=true∧d.r.n=v
 s4:sl=4->Wv d.r=true∧d.r.n=8 * b+low
 s7:sl=7->Wv d.r=true∧d.r.n=is4
 s2:sl=2->(0<=sn.reg∧d.k=1∧d.r.n=sn.reg∧Wv d.r=true)∨(¬0<=sn.reg∧d=⟨2,⟨0,0⟩,{sn.m with sz:=szF s},0⟩∧Qv {sn.m with sz:=szF s}=0)
 s5:sl=5->∃k:Nat,tl0 s=k∧((d.k=3∧W4 n ib.1 ib.2=(d.n,0)∧(Kb ib.1 k∨d.n=n))∨(d.k=4∧d.n=n))
theorem QJh (an:Rdg f r x b v low rx sn hd pl){s sl:Int}(aD:QaC s sl=true)(ao:sl=2->sh2 f=s)(ad:sl=2->0<=Qh f.slots 2)(aa:sl=5->imS ib s=true)(ab:sl=5->∀k:Nat,tl0 s=k->-(2 ^ (8 * k - 1))<=n∧n<2 ^ (8 * k - 1))(av:sl=1->0<=sn.fld∧sn.fld<8){d:Ar}(au:Cn ib d)(h:Wi ib (opA (cR f r x b v low rx sn 0) s sl n is4)=(d,0)):OpC f r x b v low n is4 rx sn ib s sl d:=by
 have ay:(2:Int) ^ (8 * 1 - 1)=128:=rfl;have aL:(2:Int) ^ (8 * 4 - 1)=2147483648:=rfl;have reg:∀N,1<=s->s<=14->(sl=1->N=8 * r+sn.fld)->(sl=3->N=v)->(sl=4->N=8 * b+low)->(sl=7->N=is4)->(sl=2->0<=sn.reg∧N=sn.reg)->¬sl=5->Wi ib (rA (cR f r x b v low rx sn 0) s N)=(d,0)->OpC f r x b v low n is4 rx sn ib s sl d:=by
  intro N ac ad a1 a3 a4 a7 a2 a5 h;obtain⟨rfl,am⟩:=QD4 h;exact⟨QGz ⟨ac,ad⟩ rfl (QzQ _ _ _),λh=>(by cases h),QKy (c:=cR f r x b v low rx sn 0),λh=>⟨am,a1 h⟩,λh=>⟨am,a3 h⟩,λh=>⟨am,a4 h⟩,λh=>⟨am,a7 h⟩,λh=>.inl ⟨(a2 h).1,rfl,(a2 h).2,am⟩,λh=>absurd h a5⟩
 have aR:=an.r01;have aP:=an.b01;have aQ:=an.low;rcases Qe4 aD with⟨rfl,g1,g2⟩ | ⟨rfl,g1,g2⟩ | ⟨aG,g1,g2⟩ | ⟨rfl,g1⟩
 ·have e:opA (cR f r x b v low rx sn 0) s 6 n is4=QAR s:=rfl;rw[e]at h;have aj:∀ (c' ag:Int),Wi ib ⟨1,⟨c',ag⟩,Wa,0⟩=(d,0)->d=⟨1,⟨c',ag⟩,Wa,0⟩:=λ_ _ h=>(QD4 h).1;have mk:Zq s.toNat (XI ib d)=true->¬d.k=2->QGC f rx d->OpC f r x b v low n is4 rx sn ib s 6 d:=λac az ad=>
   ⟨ac,λh=>absurd h az,ad,λh=>(by cases h),λh=>(by cases h),λh=>(by cases h),λh=>(by cases h),λh=>(by cases h),λh=>(by cases h)⟩
  have rg:∀c' ag:Int,(ag=0∨ag=1)->¬c'=2->QGC f rx ⟨1,⟨c',ag⟩,Wa,0⟩:=λc' ag ac ad _ _=>by
   unfold Qhn QnN;constructor;·intro _;rw[Lj (show ¬ (4:Int)<=ag by omega)];simp
   intro _;rw[show(c'==2)=false from LC.2 ad];rfl
  have:s=28∨s=29∨s=30∨s=31∨s=32∨s=33:=by omega
  rcases this with rfl | rfl | rfl | rfl | rfl | rfl;·rw[aj 1 0 h]at *;exact mk rfl (show ¬ (1:Int)=2 by decide) (rg _ _ (by decide) (by decide))
  ·rw[aj 3 0 h]at *;exact mk rfl (show ¬ (1:Int)=2 by decide) (rg _ _ (by decide) (by decide))
  ·rw[aj 4 0 h]at *;exact mk rfl (show ¬ (1:Int)=2 by decide) (rg _ _ (by decide) (by decide))
  ·rw[aj 5 0 h]at *;exact mk rfl (show ¬ (1:Int)=2 by decide) (rg _ _ (by decide) (by decide))
  ·rw[aj 1 1 h]at *;exact mk rfl (show ¬ (1:Int)=2 by decide) (rg _ _ (by decide) (by decide))
  have h:Wi ib (nA 3 1)=(d,0):=h;obtain⟨e1,e2⟩:=QD5 h;have aB:ib.1=8∨ib.1=16∨ib.1=32∨ib.1=64:=by
   unfold W4 at e2;split at e2;·cases e2
   rename_i ac;simp at ac;omega
  have e3:(W4 1 ib.1 ib.2).1=1:=by
   rcases aB with h | h | h | h<;>rw[h]<;>cases ib.2<;>rfl
  rw[e3]at e1;refine mk ?_ (by rw[e1];show ¬ (3:Int)=2;decide) (λae=>by rw[e1]at ae;cases ae);have hi:=au.imm (by rw[e1];rfl);have e4:(XI ib d).bits=ib.1∧(XI ib d).n=d.n:=by unfold XI;rw[Lc (by rw[e1];rfl),hi];exact⟨rfl,rfl⟩
  show(decide (0<(XI ib d).bits)&&((XI ib d).n==1))=true;rw[e4.1,e4.2,e1,Lp (by omega)];rfl
 ·have e:opA (cR f r x b v low rx sn 0) s 5 n is4=if(s==26||s==27)=true then nA 4 n else nA 3 n:=rfl
  rw[e]at h;have aa:=aa rfl;have ab:=ab rfl;have mk:Zq s.toNat (XI ib d)=true->¬d.k=1∧¬d.k=2->(∃k:Nat,tl0 s=k∧((d.k=3∧W4 n ib.1 ib.2=(d.n,0)∧(Kb ib.1 k∨d.n=n))∨(d.k=4∧d.n=n)))->OpC f r x b v low n is4 rx sn ib s 5 d:=λac ad ap=>
   ⟨ac,λh=>absurd h ad.2,λh=>absurd h ad.1,λh=>(by cases h),λh=>(by cases h),λh=>(by cases h),λh=>(by cases h),λh=>(by cases h),λ_=>ap⟩
  by_cases ah:(s==26||s==27)=true
  ·rw[Lc ah]at h;have hd:=QJg h;have ah:s=26∨s=27:=by simpa using ah
   rcases ah with rfl | rfl;·have ab:=ab 1 rfl;rw[ay]at ab;refine mk ?_ (by rw[hd];show ¬ (4:Int)=1∧¬ (4:Int)=2;decide) ⟨1,rfl,.inr ⟨by rw[hd];rfl,by rw[hd];rfl⟩⟩;show(((XI ib d).a.k==4)&&decide (-128<=(XI ib d).a.n)&&decide ((XI ib d).a.n<=127))=true;rw[Qwy,hd];show(decide (-128<=n)&&decide (n<=127))=true;simp;omega
   refine mk ?_ (by rw[hd];show ¬ (4:Int)=1∧¬ (4:Int)=2;decide) ⟨4,rfl,.inr ⟨by rw[hd];rfl,by rw[hd];rfl⟩⟩;show((XI ib d).a.k==4)=true;rw[Qwy,hd];rfl
  rw[Le ah]at h;obtain⟨e1,e2⟩:=QD5 h;have ah:¬s=26∧¬s=27:=by simpa using ah
  have ae:d.k=3:=by rw[e1];rfl
  have q:W4 n ib.1 ib.2=(d.n,0):=by rw[e1];exact Prod.ext rfl e2
  have hi:=au.imm ae;have e4:(XI ib d).bits=ib.1∧(XI ib d).n=d.n:=by unfold XI;rw[Lc ae,hi];exact⟨rfl,rfl⟩
  have ai:∀k:Nat,tl0 s=k->(Kb ib.1 k∨d.n=n)->Zq s.toNat (XI ib d)=true->OpC f r x b v low n is4 rx sn ib s 5 d:=λk aE aF aI=>mk aI (by rw[ae];decide) ⟨k,aE,.inl ⟨ae,q,aF⟩⟩;unfold imS at aa;have:s=20∨s=21∨s=22∨s=23∨s=24∨s=25:=by omega
  rcases this with rfl | rfl | rfl | rfl | rfl | rfl
  all_goals simp at aa
  ·exact ai 1 rfl (.inl (.inl ⟨rfl,aa⟩)) (by show((XI ib d).bits==8)=true;rw[e4.1,aa];rfl)
  ·have ab:=ab 1 rfl;rw[ay]at ab;have ak:d.n=n:=by
    have aC:ib.1=8∨ib.1=16∨ib.1=32∨ib.1=64:=by
     unfold W4 at e2;split at e2;·cases e2
     rename_i ac;simp at ac;omega
    rw[Qyp aC]at q;have q:Ku n ib.1=d.n:=by
     split at q;·rw[Lc aa.2]at q;exact congrArg Prod.fst q
     cases congrArg Prod.snd q
    unfold Ku at q;split at q;·omega
    split at q;·omega
    split at q<;>omega
   exact ai 1 rfl (.inr ak) (by
    show(decide (8<(XI ib d).bits)&&decide (-128<=(XI ib d).n)&&decide ((XI ib d).n<=127))=true;rw[e4.1,e4.2,ak];simp;omega)
  ·exact ai 2 rfl (.inl (.inr (.inl ⟨rfl,aa⟩))) (by show((XI ib d).bits==16)=true;rw[e4.1,aa];rfl)
  ·exact ai 4 rfl (.inl (.inr (.inr (.inl ⟨rfl,aa⟩)))) (by show((XI ib d).bits==32)=true;rw[e4.1,aa];rfl)
  ·have ab:=ab 4 rfl;rw[aL]at ab;have ak:d.n=n:=by
    rw[aa,Qyp (by omega)]at q;split at q;·have q:=congrArg Prod.fst q;simp[Ku,K9]at q;exact q.symm
    cases congrArg Prod.snd q
   exact ai 4 rfl (.inr ak) (by
    show(((XI ib d).bits==64)&&decide (-2147483648<=(XI ib d).n)&&decide ((XI ib d).n<=2147483647))=true;rw[e4.1,e4.2,ak,aa];simp;omega)
  exact ai 8 rfl (.inl (.inr (.inr (.inr ⟨rfl,aa⟩)))) (by show((XI ib d).bits==64)=true;rw[e4.1,aa];rfl)
 ·rcases aG with rfl | rfl | rfl | rfl;·have av:=av rfl;have e:opA (cR f r x b v low rx sn 0) s 1 n is4=rA (cR f r x b v low rx sn 0) s (IntKind.i64.wrap (IntKind.i64.wrap (8 * r)+sn.fld)):=rfl;rw[e,w64 (n:=8 * r) (by unfold I64;omega),w64 (by unfold I64;omega)]at h;exact reg _ g1 (by omega) (λ_=>rfl) (λh=>(by cases h)) (λh=>(by cases h)) (λh=>(by cases h)) (λh=>(by cases h)) (by decide) h
  ·exact reg v g1 (by omega) (λh=>(by cases h)) (λ_=>rfl) (λh=>(by cases h)) (λh=>(by cases h)) (λh=>(by cases h)) (by decide) h
  ·have e:opA (cR f r x b v low rx sn 0) s 4 n is4=rA (cR f r x b v low rx sn 0) s (IntKind.i64.wrap (IntKind.i64.wrap (8 * b)+low)):=rfl;rw[e,w64 (n:=8 * b) (by unfold I64;omega),w64 (by unfold I64;omega)]at h;exact reg _ g1 (by omega) (λh=>(by cases h)) (λh=>(by cases h)) (λ_=>rfl) (λh=>(by cases h)) (λh=>(by cases h)) (by decide) h
  exact reg is4 g1 (by omega) (λh=>(by cases h)) (λh=>(by cases h)) (λh=>(by cases h)) (λ_=>rfl) (λh=>(by cases h)) (by decide) h
 have e:opA (cR f r x b v low rx sn 0) s 2 n is4=if decide (0<=sn.reg)=true then rA (cR f r x b v low rx sn 0) s sn.reg else⟨2,⟨0,0⟩,{sn.m with sz:=szF s},0⟩:=rfl
 rw[e]at h;have ao:=ao rfl;rcases an.pl with⟨ap,_⟩ | ⟨ap,aM,aN,aO,aA⟩;·have:=ad rfl;omega
 rcases aA with⟨lo,aw,aJ,aK,ax,aq,ar⟩ | ⟨aw,aJ,aK,ax,aq⟩
 ·rw[ao]at ar;rw[Lc (Lp (by omega))]at h;have aH:s<=14:=by
   rcases Int.lt_or_le 14 s with h | h
   ·exfalso;unfold clF at ar
    repeat' split at ar
    all_goals omega
   exact h
  exact reg sn.reg (by omega) aH (λh=>(by cases h)) (λh=>(by cases h)) (λh=>(by cases h)) (λh=>(by cases h)) (λ_=>⟨by omega,rfl⟩) (by decide) h
 rw[Le (by rw[aw];decide)]at h;rw[ao]at aq;obtain⟨e1,e2⟩:=QJf h;rw[QzR (QD3 ax)]at e1;refine⟨QGA g1 aq (by rw[e1]) (by rw[e1]),λ_=>rfl,λae=>(by rw[e1]at ae;cases ae),λh=>(by cases h),λh=>(by cases h),λh=>(by cases h),λh=>(by cases h),λ_=>.inr ⟨by omega,e1,e2⟩,λh=>(by cases h)⟩
end
theorem QJi {t:List Int}(ac:Byt t)(ab:t.length=1∨t.length=2∨t.length=4∨t.length=8):-(2 ^ (8 * t.length - 1))<=JY t∧JY t<2 ^ (8 * t.length - 1):=by
 have e:=QoM ac (by omega) (by omega);obtain⟨q,aa,_⟩:=QtV ab (JY t);rw[e]at q aa;exact⟨q,aa⟩
theorem QHk {s:Int}(h:20<=s∧s<=27):tl0 s=1∨tl0 s=2∨tl0 s=4∨tl0 s=8:=by
 have:s=20∨s=21∨s=22∨s=23∨s=24∨s=25∨s=26∨s=27:=by omega
 rcases this with rfl | rfl | rfl | rfl | rfl | rfl | rfl | rfl<;>decide
section
variable {f:Fm} {r x b v low n is4:Int} {rx:Bool} {sn:Sn} {hd pl tb:List Int} (hf:FmS f) (ho:FOk f) (hs:Qhw f=0) (hi:fmI f=true)
include hf hi
theorem QGE {c:Rr}(ak:c.x.f=f)(ab:0<=Qh f.slots 5)(aj:Ji f.op=true)(am:∀a∈opL c n is4,QJ a=0):imS (Qy f.op (opL c n is4)) (f.shapes.getD (Qh f.slots 5).toNat 0)=true:=by
 have ao:=QqD f.slots 5;have ap:=hf.len;obtain⟨k,ag⟩:∃k:Nat,Qh f.slots 5=k:=⟨(Qh f.slots 5).toNat,by omega⟩;have ad:=hf.goes k (by omega);have ae:=Qt8 ab;rw[ag,LG]at ae ⊢;rw[ae]at ad;have aq:20<=f.shapes.getD k 0∧f.shapes.getD k 0<=27:=by rcases Qe4 ad with h | h | h | h<;>omega
 unfold fmI at hi;rw[Lp ab,ag,LG]at hi;simp only[Lm,L8,Nt]at hi;have hi:=hi.1.1.1
 by_cases an:f.shapes.getD k 0=26∨f.shapes.getD k 0=27;·unfold imS;rw[Le (by omega),Le (by omega),Le (by omega),Le (by omega),Le (by omega)]
 by_cases q:((QmD f.op).1==0)=false
 ·have e:Qy f.op (opL c n is4)=QmD f.op:=by unfold Qy;rw[aj,Le (by decide),Lc q]
  unfold ibS at hi;rw[Lc q]at hi;rw[e];exact hi
 unfold ibS at hi;rw[Le q]at hi;have aa:szS (f.shapes.getD 0 0)≠0:=by
  intro aa;rw[aa]at hi;unfold imS at hi;have:f.shapes.getD k 0=20∨f.shapes.getD k 0=21∨f.shapes.getD k 0=22∨f.shapes.getD k 0=23∨f.shapes.getD k 0=24∨f.shapes.getD k 0=25:=by omega
  rcases this with h | h | h | h | h | h<;>rw[h]at hi<;>simp at hi
 have ah:0<f.shapes.length:=by omega
 have e0:(opL c n is4)[0]? = some (opA c (f.shapes.getD 0 0) (f.slots.getD 0 0) n is4):=by
  unfold opL;rw[LD,ak,DB ah];rfl
 generalize opL c n is4=L at *;cases L with
 | nil=>cases e0
 | cons a L=>
  have ac:a=opA c (f.shapes.getD 0 0) (f.slots.getD 0 0) n is4:=Ly e0;have ai:=QKz (c:=c) (n:=n) (is4:=is4) (hf.goes 0 ah) aa (by rw[<- ac];exact am a (Ny ..));rw[<- ac]at ai;have e:Qy f.op (a::L)=(8 * szS (f.shapes.getD 0 0),(QmD f.op).2):=by
   unfold Qy;rw[aj,Le (by decide),Le q];show(if(YE a==0)=true then _ else _)=_;rw[ai,Le (by simpa using aa)]
  rw[e];exact hi
include ho hs
theorem QJj (ai:Rdg f r x b v low rx sn hd pl)(bc:Tlg f n is4 tb){D:List Ar}(aB:Qh6 (Qy f.op (opL (cR f r x b v low rx sn 0) n is4)) D (opL (cR f r x b v low rx sn 0) n is4))(bg:∀a∈opL (cR f r x b v low rx sn 0) n is4,QJ a=0)(aL:QZ f.op D=0):
  ∃w∈Qhx f f.op D,w.b=hd++(f.code+low)::(pl++tb):=by
 have bI:=hf.len;have aN:Qy f.op D=Qy f.op (opL (cR f r x b v low rx sn 0) n is4):=aB.bits;have ba:D.length=f.shapes.length:=by rw[aB.len];simp[opL];rfl
 obtain⟨t1,t2,b7,aU,aV,bq,ar,bx⟩:=bc.it;have aO:0<=Qh f.slots 5->∀k:Nat,tl0 (f.shapes.getD (Qh f.slots 5).toNat 0)=k->(k=1∨k=2∨k=4∨k=8)->t1.length=k∧n=JY t1:=λak k ab h=>by
  have bD:=QqD f.slots 5;have e1:tl1 f=k:=by
   unfold tl1;rw[Lc (by simp;omega),ab]
  exact⟨by omega,by rw[bq,Lc (by omega)]⟩
 have bu:=(Qug aL).1;have aC:∀k,k<D.length->∃d,D[k]? = some d∧OpC f r x b v low n is4 rx sn (Qy f.op D) (f.shapes.getD k 0) (f.slots.getD k 0) d∧Cn (Qy f.op D) d∧(¬f.slots.getD k 0=6->Qh f.slots (f.slots.getD k 0)=k):=λk ab=>by
  have aY:(opL (cR f r x b v low rx sn 0) n is4)[k]? = some (opA (cR f r x b v low rx sn 0) (f.shapes.getD k 0) (f.slots.getD k 0) n is4):=by
   unfold opL;rw[LD];have aZ:(List.range (cR f r x b v low rx sn 0).x.f.shapes.length)[k]? = some k:=DB (show k<f.shapes.length by omega);rw[aZ];rfl
  obtain⟨d,aa,an,ac⟩:=QzP aB aY;have ap:=hf.once k (by omega);have ag:=hf.goes k (by omega);refine⟨d,aa,?_,by rw[aN];exact an,ap⟩;rw[aN];refine QJh ai ag (λh=>?_) (λh=>?_) (λh=>?_) (λh q bw=>?_) (λh=>?_) an ac;·have:=ap (by omega);rw[h]at this;unfold sh2;rw[this,LG]
  ·have:=ap (by omega);rw[h]at this;omega
  ·have:=ap (by omega);rw[h]at this;have aK:=QGE hf hi (c:=cR f r x b v low rx sn 0) rfl (n:=n) (is4:=is4) (by omega) bu bg;rw[this,LG]at aK;exact aK
  ·have:=ap (by omega);rw[h]at this ag;have ao:20<=f.shapes.getD k 0∧f.shapes.getD k 0<=27:=by rcases Qe4 ag with h | h | h | h<;>omega
   have aE:q=1∨q=2∨q=4∨q=8:=by
    have:=QHk ao;omega
   obtain⟨aG,av⟩:=aO (by omega) q (by rw[this,LG];exact bw) aE;rw[av,<- aG];exact QJi aU (by omega)
  have:=ap (by omega);rw[h]at this;rcases ai.pl with⟨ac,_⟩ | ⟨_,aj,_⟩;·have:=(hf.no ac).1;omega
  exact aj
 have am:∀s,0<=Qh f.slots s->s≠6->∃ (k:Nat) (d:Ar),Qh f.slots s=k∧f.slots.getD k 0=s∧D[(Qh f.slots s).toNat]? = some d∧OpC f r x b v low n is4 rx sn (Qy f.op D) (f.shapes.getD k 0) s d∧Cn (Qy f.op D) d∧QaC (f.shapes.getD k 0) s=true:=λs ah _=>by
  have aa:=QqD f.slots s;obtain⟨k,ab⟩:∃k:Nat,Qh f.slots s=k:=⟨(Qh f.slots s).toNat,by omega⟩;have ar:=Qt8 ah;rw[ab,LG]at ar ⊢;obtain⟨d,d1,d2,d3,_⟩:=aC k (by omega);rw[ar]at d2;have ag:=hf.goes k (by omega);rw[ar]at ag;exact⟨k,d,rfl,ar,d1,d2,d3,ag⟩
 have bi:Qe3 f f.op D=true:=by
  unfold Qe3;simp only[Lm,L0,Li,LU];refine⟨⟨⟨⟨trivial,ba.symm⟩,hs⟩,aL⟩,λi hi=>?_⟩;obtain⟨d,d1,d2,d3,_⟩:=aC i hi;have e:D.getD i WN=d:=by rw[LX,d1];rfl
  rw[e];unfold QfR;rw[Lm];refine⟨?_,d2.test⟩
  by_cases ac:d.k=3;·rw[d3.imm ac];simp
  simp[ac]
 have aQ:=ai.r01;have bd:=ai.b01;have aS:=ai.x01;have bn:=ai.low;have ae:=ai.al;unfold Xu at ae;have bm:QbU f D 1=r:=by
  unfold QbU
  by_cases aa:0<=Qh f.slots 1
  ·obtain⟨k,d,_,_,d1,d2,_⟩:=am 1 aa (by decide);obtain⟨e1,e2⟩:=d2.s1 rfl;have bH:0<=sn.fld∧sn.fld<8:=by
    rcases ai.pl with⟨ac,_⟩ | ⟨_,aj,_⟩;·have:=(hf.no ac).1;omega
    exact aj
   rw[Lc aa,d1];show XS d.r=r;rw[(Qwz e1).2.1];omega
  rw[Le aa];rcases aQ with h | h;·exact h.symm
  rw[Lc (by rw[h];simp;omega)]at ae;cases ae
 have b8:f.vex=true->QlG f D 3=v:=λ_=>by
  unfold QlG
  by_cases aa:0<=Qh f.slots 3;·obtain⟨k,d,_,_,d1,d2,_⟩:=am 3 aa (by decide);rw[Lc aa,d1];exact(d2.s3 rfl).2
  rw[Le aa]
  by_cases ay:v=0;·exact ay.symm
  exact absurd (ai.v3 ay) aa
 have br:f.vex=false->(rx=false->QcV D=false)∧(rx=true->QlF D=false):=λay=>by
  have ag:∀d∈D,d.k=1->(rx=false->Qhn d.r=false)∧(rx=true->QnN d.r=false):=λd hd ab=>by
   obtain⟨i,hi,e⟩:=List.mem_iff_getElem.1 hd;obtain⟨d',d1,d2,_⟩:=aC i hi;rw[La hi,e]at d1;cases d1;exact d2.rg ab ay
  constructor
  ·intro ao;refine BX.2 λd hd=>?_
   by_cases ab:d.k=1;·simp[ab,(ag d hd ab).1 ao]
   simp[ab]
  intro ao;refine BX.2 λd hd=>?_
  by_cases ab:d.k=1;·simp[ab,(ag d hd ab).2 ao]
  simp[ab]
 have bh:Kw f D=f.code+low:=by
  have bG:=hf.cd;unfold Kw
  by_cases aa:0<=Qh f.slots 4;·obtain⟨k,d,_,_,d1,d2,_⟩:=am 4 aa (by decide);obtain⟨e1,e2⟩:=d2.s4 rfl;have ax:=(hf.code aa).1;rw[Lc aa,d1];show IntKind.u8.wrap (IntKind.u8.wrap f.code+IntKind.u8.wrap (WY d.r))=_;rw[(Qwz e1).1,e2,FS,FS,FS];omega
  rw[Le aa,bn.1 (by omega),FS];omega
 have bz:Jp f f.op D=tb:=by
  have e2:(if 0<=Qh f.slots 7 then[isB (D[(Qh f.slots 7).toNat]?.getD WN).r.n] else[])=t2:=by
   rcases bx with⟨aq,ax⟩ | ⟨aq,ax,_⟩;·obtain⟨k,d,_,_,d1,d2,_⟩:=am 7 aq (by decide);obtain⟨e1,e2⟩:=d2.s7 rfl;rw[Lc aq,d1,ax];show[isB d.r.n]=_;unfold isB;rw[e2,w64 (by unfold I64;omega),FS];congr 1;omega
   rw[Le (by omega),ax]
  have e1:(if 0<=Qh f.slots 5 then(ZE (Qyj f f.op D) (tlN f)).1 else[])=t1:=by
   by_cases ak:0<=Qh f.slots 5
   ·obtain⟨k,d,ab,_,d1,d2,d3,ag⟩:=am 5 ak (by decide);obtain⟨q,aG,av⟩:=d2.s5 rfl;have ao:20<=f.shapes.getD k 0∧f.shapes.getD k 0<=27:=by rcases Qe4 ag with h | h | h | h<;>omega
    have aE:q=1∨q=2∨q=4∨q=8:=by
     have:=QHk ao;omega
    obtain⟨b9,bA⟩:=aO ak q (by rw[ab,LG];exact aG) aE;have e3:Qyj f f.op D=d.n:=by
     unfold Qyj;rw[d1];show(if d.k=3 then(W4 d.n (Qy f.op D).1 (Qy f.op D).2).1 else d.n)=_;split;·rename_i ac;rw[d3.imm ac]
     rfl
    have e4:tlN f=t1.length:=by
     have:tlN f=tl1 f:=by
      unfold tlN tlF
      by_cases ah:0<=Qh f.slots 7;·rw[Lc ah,Lp ah,Lq];omega
      rw[Le ah,Lj ah,Ls]
     rw[this,aV]
    rw[Lc ak,e3,e4];refine QD6 aU (by omega) (ib:=Qy f.op D) ?_;rw[<- bA,b9];rcases av with⟨_,av,aw | aw⟩ | ⟨_,aw⟩;·exact .inr ⟨av,aw⟩
    ·exact .inl aw
    exact .inl aw
   rw[Le ak];have:tl1 f=0:=by unfold tl1;rw[Le (by simp;omega)]
   rw[this]at aV;exact(N2.1 (by omega)).symm
  unfold Jp;rw[e1,e2,b7]
 have aA:∀ad:Ld,ad∈WT f D->ad.b=pl->ad.x=x->hB f D ad.h=b->∃w∈Qhx f f.op D,w.b=hd++(f.code+low)::(pl++tb):=by
  intro ad aa an ac aj;have bj:=QBq ho (l:=D) ⟨bm,aQ⟩ aS (h:=ad.h) ⟨aj,bd⟩ b8 ai.head br;refine⟨⟨hd++[Kw f D]++ad.b++Jp f f.op D,0,QnP D ad⟩,?_,?_⟩;·unfold Qhx;rw[Lc bi];refine NF.2 ⟨ad,aa,?_⟩;unfold Qel;exact N4.2 ⟨hd,by rw[ac];exact bj,rfl⟩
  show hd++[Kw f D]++ad.b++Jp f f.op D=_;rw[bh,bz,an];simp
 rcases ai.pl with⟨ac,aj,ak⟩ | ⟨an,aj,ak,bE,aq⟩
 ·refine aA ⟨[],0,0⟩ ?_ aj.symm ?_ ?_;·unfold WT;rw[Lc ac];exact Sa.2 rfl
  ·rcases aS with h | h;·exact h.symm
   exfalso;split at ae;·cases ae
   rw[Lc (by rw[h];simp[ac])]at ae;cases ae
  unfold hB
  by_cases ah:0<=Qh f.slots 4;·obtain⟨k,d,_,_,d1,d2,_⟩:=am 4 ah (by decide);obtain⟨e1,e2⟩:=d2.s4 rfl;rw[Lc ah];unfold QbU;rw[Lc ah,d1];show XS d.r=b;rw[(Qwz e1).2.1];omega
  rw[Le ah];split at ae;·cases ae
  split at ae;·cases ae
  simp at ae;show(0:Int)=b;omega
 have bF:Qh f.slots 4<0:=by
  rcases Int.lt_or_le (Qh f.slots 4) 0 with h | h;·exact h
  have:=(hf.code h).2.2.1;omega
 have aI:∀h,hB f D h=h:=λh=>by unfold hB;rw[Le (by omega)]
 obtain⟨k,d,ab,_,d1,d2,d3,ag⟩:=am 2 an (by decide);have bJ:sh2 f=f.shapes.getD k 0:=by unfold sh2;rw[ab,LG]
 have bp:QrR f D=sn.fld:=by
  unfold QrR
  by_cases aa:0<=Qh f.slots 1;·obtain⟨_,d',_,_,aW,aX,_⟩:=am 1 aa (by decide);obtain⟨e1,e2⟩:=aX.s1 rfl;rw[Lc aa,aW];show WY d'.r=_;rw[(Qwz e1).1];omega
  rw[Le aa];rcases hf.rm an with h | h;·exact absurd h aa
  exact(ak h).symm
 have aJ:Qec (QrR f D) d=if(d.k==1)=true then([⟨[Qn 3 sn.fld (WY d.r)],0,XS d.r⟩],0) else if(d.k==2)=true then(Y3 sn.fld (QH d.m),0) else([],2):=by
  unfold Qec;rw[bp,Le (by simp;omega),Le (by rw[d3.chk];decide)]
 have aP:∀ad:Ld,(Qec (QrR f D) d).2=0->ad∈(Qec (QrR f D) d).1->ad∈WT f D:=λad aa ac=>by
  unfold WT;rw[Le (by omega),d1,NB,aa,Lc (by rfl)];exact ac
 rcases aq with⟨lo,bB,aF,aT,az,bC,bK⟩ | ⟨bB,aF,aT,az,bC⟩
 ·rcases d2.s2 rfl with⟨e1,e2,e3,e4⟩ | ⟨e1,_⟩
  ·have aH:=Qwz e4;have au:Qec (QrR f D) d=([⟨[Qn 3 sn.fld (WY d.r)],0,XS d.r⟩],0):=by rw[aJ,e2];rfl
   refine aA ⟨[Qn 3 sn.fld (WY d.r)],0,XS d.r⟩ (aP _ (by rw[au]) (by rw[au];exact Sa.2 rfl)) ?_ aF.symm ?_;·rw[aT];show[Qn 3 sn.fld (WY d.r)]=_;rw[aH.1,e3,az,show(8 * b+lo) % 8=lo by omega]
   rw[aI];show XS d.r=b;rw[aH.2.1,e3,az];omega
  omega
 rcases d2.s2 rfl with⟨e1,_⟩ | ⟨e1,e2,e3⟩;·omega
 have au:Qec (QrR f D) d=(Y3 sn.fld (QH d.m),0):=by rw[aJ,e2];rfl
 have aD:d.m={sn.m with sz:=szF (f.shapes.getD k 0)}:=by rw[e2]
 have aR:Way sn.fld d.m x b pl:=by rw[aD];exact QD3 az
 have aM:=QzR aR;have bo:QDj d.m:=by
  have:=QIx e3;rw[<- aD,aM]at this;exact this
 refine aA ⟨pl,x,b⟩ (aP _ (by rw[au]) ?_) rfl rfl (aI b);rw[au];show(⟨pl,x,b⟩:Ld)∈Y3 sn.fld (QH d.m);rw[aM];exact(QDQ bo (by rw[aD];exact aF) sn.fld _).2 aR
end
theorem QD7 {ib:Int×Bool}(l:List Ar):Qb7 ib l l:=Qud rfl λk ab a aa q=>by rw[aa]at q;cases q;exact .inl rfl
theorem QD8 {op:Int}{C:List Ar}(h:QZ op C=0)(q:∀d∈C,Cn (Qy op C) d):QU op C=(op,Q6 op C,0):=(QGs h q (QD7 C)).2
theorem QBy {b:List Int}(h:WO b):Byt b:=λz q=>by have:=h z q;omega
structure LOk (L:List Fm):Prop where
 fit:∀f∈L,QrH f=true
 one:∀f∈L,∀g∈L,Qlx f g=true->f=g
 shp:∀f∈L,Qhw f=0
 im:∀f∈L,fmI f=true
 k15:∀f∈L,QFT f<=15
 n15:∀f∈L,fmN f<=15
theorem QGF {f:Fm}(h:fmI f=true):(f.op=16->f.shapes.length=2->f.slots.getD 1 0=2)∧(f.op=10∨f.op=11->f.shapes.length=2->¬f.slots.getD 1 0=2)∧(f.vex=true->∀s∈f.shapes,clF s≠1):=by
 unfold fmI at h;simp only[Lm,Lr,Nw,Li]at h;obtain⟨⟨⟨_,ab⟩,aa⟩,q⟩:=h;refine⟨λa b=>?_,λa b c=>?_,λad s ac=>?_⟩;·rw[a,b]at ab;simpa using ab
 ·rw[b,c]at aa;rcases a with a | a<;>rw[a]at aa<;>simp at aa
 rcases q with q | q;·rw[ad]at q;cases q
 have:=q s ac;simpa using this
section
variable {L:List Fm} (hL:LOk L)
include hL
theorem QsK {b:List Int}(au:WO b)(ah:b.length<=1000000)(h:(dcd L b).e=0):
  (1<=(dcd L b).n∧(dcd L b).n<=15∧(dcd L b).n<=b.length)∧QZ (dcd L b).op (dcd L b).l=0∧QU (dcd L b).op (dcd L b).l=((dcd L b).op,(dcd L b).l,0)∧
  ∃w∈Qhy (L.filter λf=>f.op==(dcd L b).op) (dcd L b).op (dcd L b).l,w.b=b.take (dcd L b).n.toNat:=by
 obtain⟨f,ad,aa,ab⟩:∃f∈L,(QD b f).e=0∧dcd L b=QD b f:=by
  rcases QjR hL.fit hL.one au ah with aa | ⟨_,⟨ab,_⟩ | ⟨ab,_⟩⟩;·exact aa
  ·rw[ab]at h;cases h
  rw[ab]at h;cases h
 have ai:=hL.shp f ad;have ak:=fmS ai;have aO:=Qyb ah aa;have aP:=(Qzt ah f aa).n.2;have ae:=hL.k15 f ad;rw[ab];refine⟨by omega,?_⟩;obtain⟨r,x,bb,v,low,an,ao,q,pl,n,is4,tb,R,g1,g2,g3,g4⟩:=QBs (QBy au) ah ak (QlJ ai) aa;rw[g4]at aa ⊢;have aC:(QU f.op (opL (cR f r x bb v low an ao 0) n is4)).2.2=0:=by
  unfold Qda at aa;split at aa;·cases aa
  rename_i h;simpa using h
 obtain⟨D,ay,az,ap,aq,aA⟩:=QKv aC;have e:Qda f.op ((q.length+1+pl.length+tb.length:Nat):Int) (opL (cR f r x bb v low an ao 0) n is4)=⟨f.op,Q6 f.op D,((q.length+1+pl.length+tb.length:Nat):Int),0⟩:=by
  unfold Qda;rw[aA,Le (show ¬ ((0:Int)==0)=false by decide)]
 rw[e];show QZ f.op (Q6 f.op D)=0∧QU f.op (Q6 f.op D)=(f.op,Q6 f.op D,0)∧∃w∈Qhy (L.filter λg=>g.op==f.op) f.op (Q6 f.op D),w.b=b.take ((q.length+1+pl.length+tb.length:Nat):Int).toNat;obtain⟨r1,r2,r3,r4,aR⟩:=QD1 ap aq;have aj:=QD8 r1 r2;rw[r3]at aj;refine⟨r1,aj,?_⟩;have aD:∀a∈opL (cR f r x bb v low an ao 0) n is4,QJ a=0:=QqO (QnQ ay).1;obtain⟨w,ax,aJ⟩:=QJj ak (QlJ ai) ai (hL.im f ad) g1 g2 az aD ap;obtain⟨aL,aM,aQ⟩:=QGF (hL.im f ad);have av:=(QGy ax).1;have aw:f.shapes.length=D.length:=(Vp av).2.1;have ar:∀y,D[1]? = some y->(f.slots.getD 1 0=2->y.k=1∨y.k=2)∧(¬f.slots.getD 1 0=2->¬y.k=2):=λy aK=>by
  obtain⟨am,ag,aN,_⟩:=QI7 ak av aq aK;constructor
  ·intro h;rw[h]at am;rcases Qe4 am with h' | h' | h' | ⟨_,h'⟩;·omega
   ·omega
   ·omega
   rcases QLg h' ag with h | h;·exact .inl h.1
   exact .inr h.1
  intro h ae;rcases Qe4 am with⟨_,aa,ab⟩ | ⟨_,aa,ab⟩ | ⟨_,aa,ab⟩ | ⟨h',_⟩
  ·have aB:=Qwy (Qy f.op D) y;generalize f.shapes.getD 1 0=s at *;obtain⟨m,rfl⟩:∃m:Nat,s=m:=⟨s.toNat,by omega⟩;rw[LG]at ag;have:m=28∨m=29∨m=30∨m=31∨m=32∨m=33:=by omega
   rcases this with rfl | rfl | rfl | rfl | rfl | rfl
   all_goals simp only[Zq,Ys,aB,ae,Lm,L0,Lv]at ag
   all_goals try omega
   have:(XI (Qy f.op D) y).bits=0:=by unfold XI;rw[Le (by omega)]
   omega
  ·rcases QKx ⟨aa,ab⟩ ag aN.imm with h | h;·omega
   omega
  ·have:=QKw ⟨aa,ab⟩ ag;omega
  exact h h'
 have aE:QeQ f.op D=false:=by
  cases q:QeQ f.op D with
  | false=>rfl
  | true=>
   exfalso;unfold QeQ at q;rw[Lm,L0]at q;obtain⟨x',y,rfl⟩:=Qd5 q.2;have ac:=q.2;unfold QbP at ac;rw[Lm,L0,L0]at ac;have:=(ar y rfl).1 (aL q.1 aw);omega
 have aH:Qc9 f.op D=false:=by
  cases q:Qc9 f.op D with
  | false=>rfl
  | true=>
   exfalso;unfold Qc9 at q;rw[Lm,Nw,L0,L0]at q;obtain⟨x',y,rfl⟩:=Qd5 q.2;have ac:=q.2;unfold QbP at ac;rw[Lm,L0,L0]at ac;exact(ar y rfl).2 (aM q.1 aw) ac.2
 have aG:D∈GT f.op (Q6 f.op D):=by
  unfold GT;rw[aj,Lc (by rfl)];rcases r4 with h | h | h | ⟨h,aI⟩;·refine List.mem_append_left _ (Sa.2 h.symm)
  ·rw[aE]at h;cases h
  ·rw[aH]at h;cases h
  refine List.mem_append_right _ ?_;show D∈if JZ f.op (Q6 f.op D)=true then[(Q6 f.op D).reverse] else[]
  rw[Lc aI,h,List.reverse_reverse];exact Sa.2 rfl
 obtain⟨k,ae⟩:=Bx.1 (Bo.2 ⟨ad,LO f.op⟩:f∈L.filter λg=>g.op==f.op);refine⟨QmV k w,?_,?_⟩;·unfold Qhy;refine NF.2 ⟨D,aG,NF.2 ⟨k,LU.2 (Lk.1 ae).1,?_⟩⟩;unfold frm;rw[ae];exact N4.2 ⟨w,ax,rfl⟩
 show w.b=_;rw[aJ,LG,g3,show q++(f.code+low)::(pl++(tb++R))=(q++(f.code+low)::(pl++tb))++R by simp];have aF:(q++(f.code+low)::(pl++tb)).length=q.length+1+pl.length+tb.length:=by simp;omega
 rw[<- aF,List.take_left]
end
