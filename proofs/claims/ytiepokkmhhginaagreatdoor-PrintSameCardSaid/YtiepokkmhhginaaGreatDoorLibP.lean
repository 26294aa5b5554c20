/- Texts of operands and instructions, read back: plain laws. -/
import Derived.Test.YtiepokkmhhginaaGreatDoorLibO
import Derived.Test.YtiepokkmhhginaaGreatDoorLibC
import Derived.Test.YtiepokkmhhginaaGreatDoorC7Free
set_option linter.unusedVariables false
set_option linter.unusedSimpArgs false
set_option maxRecDepth 100000
set_option maxHeartbeats 4000000
namespace Go.Proofs.YtiepokkmhhginaaGreatDoor.code
open Go.Ab
theorem Qch {p:UInt8->Bool}:∀ {u v s t:List UInt8},(∀c∈u,p c=true)->(∀c∈v,p c=true)->(∀c,s.head? = some c->p c=false)->(∀c,t.head? = some c->p c=false)->u++s=v++t->u=v∧s=t
 | [],[],s,t,_,_,_,_,h=>⟨rfl,h⟩
 | [],b::v,s,t,_,hv,hs,_,h=>by
  have h:s=b::(v++t):=h;have:=hs b (by rw[h];rfl);rw[hv b (Ny ..)]at this;cases this
 | a::u,[],s,t,hu,_,_,ht,h=>by
  have h:a::(u++s)=t:=h;have:=ht a (by rw[<- h];rfl);rw[hu a (Ny ..)]at this;cases this
 | a::u,b::v,s,t,hu,hv,hs,ht,h=>by
  have h1:=Bf (show a::(u++s)=b::(v++t) from h);obtain⟨h2,h3⟩:=Qch (λc hc=>hu c (NA _ hc)) (λc hc=>hv c (NA _ hc)) hs ht h1.2;exact⟨by rw[h1.1,h2],h3⟩
theorem acl {l a b:List UInt8} (h:l++a=l++b):a=b:=List.append_cancel_left h
def QyO (c:UInt8):Bool:=decide (97<=c.toNat)&&decide (c.toNat<=122)
def alB (c:UInt8):Bool:=QyO c||(decide (48<=c.toNat)&&decide (c.toNat<=57))
/-! ### Numbers -/
theorem QtO:∀d,d<16->∀e,e<16->Qoo d=Qoo e->d=e:=by decide
theorem Qw3:∀d,d<16->alB (Qoo d)=true:=by decide
theorem QEh:∀ (u:Nat),∀c∈dgs 16 u,alB c=true:=by
 intro u
 induction u using Nat.strongRecOn with
 | ind u ih=>
  by_cases h:u<16
  ·rw[Qgu h];intro c hc;rw[Sa.1 hc];exact Qw3 u h
  ·rw[QiO (by omega) (by decide)];intro c hc;rcases LI.1 hc with hc | hc
   ·exact ih (u / 16) (R1 (by omega) (by omega)) c hc
   ·rw[Sa.1 hc];exact Qw3 _ (Rm _ (by omega))
theorem QtP (u:Nat):1<=(dgs 16 u).length:=Rj.2 (QD8 16 u)
theorem Qw4:∀ (u v:Nat),dgs 16 u=dgs 16 v->u=v:=by
 intro u
 induction u using Nat.strongRecOn with
 | ind u ih=>
  intro v h
  by_cases h1:u<16
  ·by_cases h2:v<16
   ·rw[Qgu h1,Qgu h2]at h;exact QtO u h1 v h2 (Bf h).1
   ·rw[Qgu h1,QiO (by omega) (by decide)]at h;have hl:=congrArg List.length h;have h3:=QtP (v / 16);simp only[Lh,Lo,L9]at hl;omega
  ·by_cases h2:v<16
   ·rw[Qgu h2,QiO (by omega) (by decide)]at h;have hl:=congrArg List.length h;have h3:=QtP (u / 16);simp only[Lh,Lo,L9]at hl;omega
   ·rw[QiO (by omega) (by decide),QiO (b:=16) (u:=v) (by omega) (by decide)]at h;obtain⟨e1,e2⟩:=List.append_inj' h rfl;have e3:=ih (u / 16) (R1 (by omega) (by omega)) (v / 16) e1;have e4:=QtO _ (Rm u (by omega)) _ (Rm v (by omega)) (Bf e2).1;omega
theorem Qnv (n:Int):Kg n=(if n<0 then[45] else[])++([48,120]++dgs 16 n.natAbs):=by
 unfold Kg Qtx;rw[LQ]
theorem QgB {a b:Int} (h:Kg a=Kg b):a=b:=by
 rw[Qnv,Qnv]at h
 by_cases ha:a<0<;>by_cases hb:b<0
 ·rw[Lc ha,Lc hb]at h;have:=Qw4 _ _ (List.append_cancel_left (List.append_cancel_left h));omega
 ·rw[Lc ha,Le hb]at h;have:=(Bf (show(45:UInt8)::([48,120]++dgs 16 a.natAbs)=48::(120::dgs 16 b.natAbs) from h)).1;exact absurd this (by decide)
 ·rw[Le ha,Lc hb]at h;have:=(Bf (show(48:UInt8)::(120::dgs 16 a.natAbs)=45::([48,120]++dgs 16 b.natAbs) from h)).1;exact absurd this (by decide)
 ·rw[Le ha,Le hb]at h;have:=Qw4 _ _ (List.append_cancel_left (List.append_cancel_left h));omega
theorem QCm (n:Int):∀c∈Kg n,c=45∨alB c=true:=by
 intro c hc;rw[Qnv]at hc;rcases LI.1 hc with hc | hc
 ·split at hc
  ·exact .inl (Sa.1 hc)
  ·cases hc
 ·rcases LI.1 hc with hc | hc
  ·right;simp only[LK,Ns,NN]at hc;rcases hc with rfl | rfl<;>decide
  ·exact .inr (QEh _ c hc)
theorem QCn (n:Int):∃c t,Kg n=c::t∧(c=48∨c=45):=by
 rw[Qnv]
 by_cases h:n<0
 ·rw[Lc h];exact⟨45,_,rfl,.inr rfl⟩
 ·rw[Le h];exact⟨48,_,rfl,.inl rfl⟩
/-! ### Names -/
def Qlx:List (List UInt8)->Bool
 | []=>true
 | w::l=>!(l.any λx=>x==w)&&Qlx l
theorem Qly:∀ {l:List (List UInt8)},Qlx l=true->∀ (i j:Nat) w,i<j->l[i]? = some w->l[j]? = some w->False
 | [],_,i,j,w,_,h,_=>by simp at h
 | x::l,hn,i,j,w,hij,hi,hj=>by
  simp only[Qlx,Lm,Lr]at hn;cases j with
  | zero=>omega
  | succ j=>
   simp only[Bg]at hj;cases i with
   | zero=>
    simp only[Bp,Lt]at hi;subst hi;have h1:=hn.1;rw[BX]at h1;exact h1 x (Ln hj) (LO x)
   | succ i=>exact Qly hn.2 i j w (by omega) (by simpa using hi) hj
theorem QoE {l:List (List UInt8)} (hn:Qlx l=true) {i j:Nat} {w:List UInt8} (hi:l[i]? = some w) (hj:l[j]? = some w):i=j:=by
 rcases Dj i j with h | h | h
 ·exact(Qly hn i j w h hi hj).elim
 ·exact h
 ·exact(Qly hn j i w h hj hi).elim
theorem QAo:Qlx nmL=true:=by decide +kernel
theorem QAp:(nmL.all λw=>w.all λc=>!(c==32))=true:=by decide +kernel
theorem QrU {o:Int} (h:Xh o=true):nmL[(o - 1).toNat]? = some (nmF o):=by
 have h':=h;unfold Xh at h';simp only[Lm,Lv]at h';have hl:=QrR;unfold nmF;rw[h,Lc rfl,LX,La (by omega)];rfl
theorem QCo {o p:Int} (ho:Xh o=true) (hp:Xh p=true) (h:nmF o=nmF p):o=p:=by
 have h1:=QrU ho;have h2:=QrU hp;rw[<- h]at h2;have:=QoE QAo h1 h2;unfold Xh at ho hp;simp only[Lm,Lv]at ho hp;omega
theorem QtQ {o:Int} (h:Xh o=true):∀c∈nmF o,(!(c==32))=true:=λc hc=>Li.1 (Li.1 QAp _ (Ln (QrU h))) c hc
/-! ### Registers -/
def QeY:List (List UInt8):=QqO.map λp=>Wo ⟨p.1,p.2⟩
theorem QAq:Qlx QeY=true:=by decide +kernel
theorem QAr:(QeY.all λw=>w.all alB&&(match w with | c::_=>QyO c | []=>false))=true:=by decide +kernel
theorem QiV {r s:Rg} (hr:Q9 r=true) (hs:Q9 s=true) (h:Wo r=Wo s):r=s:=by
 obtain⟨p,hp,rfl⟩:=Qos hr;obtain⟨q,hq,rfl⟩:=Qos hs;obtain⟨i,hi⟩:=Bx.1 hp;obtain⟨j,hj⟩:=Bx.1 hq;have h1:QeY[i]? = some (Wo ⟨p.1,p.2⟩):=by unfold QeY;rw[LD,hi];rfl
 have h2:QeY[j]? = some (Wo ⟨p.1,p.2⟩):=by unfold QeY;rw[LD,hj,h];rfl
 obtain rfl:=QoE QAq h1 h2;rw[hi]at hj;cases hj;rfl
theorem YE {r:Rg} (hr:Q9 r=true):(∀c∈Wo r,alB c=true)∧∃c t,Wo r=c::t∧QyO c=true:=by
 obtain⟨p,hp,rfl⟩:=Qos hr;have hm:Wo ⟨p.1,p.2⟩∈QeY:=N4.2 ⟨p,hp,rfl⟩;have:=Li.1 QAr _ hm;simp only[Lm,Li]at this;refine⟨this.1,?_⟩;have h2:=this.2;cases hw:Wo ⟨p.1,p.2⟩ with
 | nil=>rw[hw]at h2;cases h2
 | cons c t=>rw[hw]at h2;exact⟨c,t,rfl,h2⟩
theorem QoF {n:Int} (h:Yj n=true):n=0∨n=1∨n=2∨n=4∨n=8∨n=16∨n=32:=by
 unfold Yj at h;simp only[Nw,L0]at h;omega
theorem QyP {a b:Int} (ha:Yj a=true) (hb:Yj b=true) (h:Qcd a=Qcd b):a=b:=by
 rcases QoF ha with rfl | rfl | rfl | rfl | rfl | rfl | rfl<;>rcases QoF hb with rfl | rfl | rfl | rfl | rfl | rfl | rfl<;>first
  | rfl
  | exact absurd h (by decide)
theorem QtR (n:Int):∀c∈Qcd n,c=32∨QyO c=true:=by
 unfold Qcd
 repeat' split
 all_goals decide
theorem QEi {c:UInt8} (h:QyO c=true):alB c=true:=by unfold alB;rw[h];rfl
theorem QEj {c:UInt8} (h:QyO c=true):c≠48∧c≠45:=by
 refine⟨λe=>?_,λe=>?_⟩<;>rw[e]at h<;>exact absurd h (by decide)
theorem QAs:∀a,a<10->∀b,b<10->QdJ a=QdJ b->a=b:=by decide
theorem QCp:∀a,a<10->∀c∈QdJ a,alB c=true:=by decide
theorem QCq {m:Mm}:∀c,(Qae false m).head? = some c->c=32:=by
 intro c h;unfold Qae at h;simp only[Ls]at h;cases h1:decide (0<m.d) with
 | true=>rw[h1]at h;simpa using h.symm
 | false=>
  rw[h1]at h;cases h2:decide (m.d<0) with
  | true=>rw[h2]at h;simpa using h.symm
  | false=>rw[h2]at h;cases h
theorem QtS {m k:Mm} (h:Qae false m=Qae false k):m.d=k.d:=by
 unfold Qae at h;simp only[Ls]at h
 by_cases a1:0<m.d<;>by_cases b1:0<k.d
 ·rw[Lp a1,Lp b1]at h;exact QgB (acl (l:=[32,43,32]) h)
 ·rw[Lp a1,Lj b1]at h
  by_cases b2:k.d<0
  ·rw[Lp b2]at h;exact absurd (Bf (Bf h).2).1 (by decide)
  ·rw[Lj b2]at h;cases h
 ·rw[Lj a1,Lp b1]at h
  by_cases a2:m.d<0
  ·rw[Lp a2]at h;exact absurd (Bf (Bf h).2).1 (by decide)
  ·rw[Lj a2]at h;cases h
 ·rw[Lj a1,Lj b1]at h
  by_cases a2:m.d<0<;>by_cases b2:k.d<0
  ·rw[Lp a2,Lp b2]at h;have:=QgB (acl (l:=[32,45,32]) h);omega
  ·rw[Lp a2,Lj b2]at h;cases h
  ·rw[Lj a2,Lp b2]at h;cases h
  ·omega
def QdL (m:Mm):List UInt8:=Qot false m++Qae false m
theorem QtT (m:Mm):∀c,(QdL m).head? = some c->c=32:=by
 intro c h;unfold QdL Qot at h;cases hi:isR m.i 0 0 with
 | true=>rw[hi]at h;exact QCq c h
 | false=>rw[hi]at h;simpa using h.symm
theorem QrV (m:Mm):∀c,(([42]:List UInt8)++QdJ m.sc.toNat++Qae false m).head? = some c->alB c=false:=by
 intro c h;have:c=42:=by simpa using h.symm
 rw[this];decide
theorem QtU {m k:Mm} (hm:Qj3 m) (hk:Qj3 k) (im:isR m.i 0 0=false) (ik:isR k.i 0 0=false) (h:Wo m.i++(([42]:List UInt8)++QdJ m.sc.toNat++Qae false m)=Wo k.i++(([42]:List UInt8)++QdJ k.sc.toNat++Qae false k)):m.i=k.i∧m.sc=k.sc∧m.d=k.d:=by
 obtain⟨v1,s1,s2⟩:=hm.ok.i im;obtain⟨v2,t1,t2⟩:=hk.ok.i ik;obtain⟨e1,e2⟩:=Qch (p:=alB) (YE v1).1 (YE v2).1 (QrV m) (QrV k) h;have e3:QdJ m.sc.toNat++Qae false m=QdJ k.sc.toNat++Qae false k:=(Bf e2).2;obtain⟨e4,e5⟩:=List.append_inj e3 rfl;have e6:=QAs _ (show m.sc.toNat<10 by omega) _ (show k.sc.toNat<10 by omega) e4;exact⟨QiV v1 v2 e1,by omega,QtS e5⟩
theorem QoG {r:Rg} {n:Int} {t:List UInt8} (hr:Q9 r=true) (h:Wo r++t=Kg n):False:=by
 obtain⟨c,u,e1,e2⟩:=(YE hr).2;obtain⟨d,v,e3,e4⟩:=QCn n;rw[e1,e3]at h;have:=(Bf h).1;have:=QEj e2;rcases e4 with rfl | rfl<;>simp_all
theorem QyQ {m k:Mm} (hm:Qj3 m) (hk:Qj3 k) (h:QdL m=QdL k):m.i=k.i∧m.sc=k.sc∧m.d=k.d:=by
 have one:∀ {m k:Mm},Qj3 m->isR m.i 0 0=false->isR k.i 0 0=true->QdL m=QdL k->False:=λ{m k} hm im ik h=>by
  unfold QdL Qot at h;rw[im,ik]at h;simp only[Lq,Ls,LH,LQ]at h;obtain⟨v1,_⟩:=hm.ok.i im;unfold Qae at h;simp only[Ls]at h;cases h1:decide (0<k.d) with
  | true=>
   rw[h1]at h;exact QoG v1 (acl (l:=[32,43,32]) h)
  | false=>
   rw[h1]at h;cases h2:decide (k.d<0) with
   | true=>rw[h2]at h;exact absurd (Bf (Bf h).2).1 (by decide)
   | false=>rw[h2]at h;cases h
 cases im:isR m.i 0 0 with
 | true=>
  cases ik:isR k.i 0 0 with
  | true=>
   unfold QdL Qot at h;rw[im,ik]at h;have:=QtS h;exact⟨by rw[Qcf.1 im,Qcf.1 ik],by rw[hm.z im,hk.z ik],this⟩
  | false=>exact(one hk ik im h.symm).elim
 | false=>
  cases ik:isR k.i 0 0 with
  | true=>exact(one hm im ik h).elim
  | false=>
   unfold QdL Qot at h;rw[im,ik]at h;simp only[Ls]at h;refine QtU hm hk im ik ?_;have:=acl (l:=[32,43,32]) (show([32,43,32]:List UInt8)++(Wo m.i++(([42]:List UInt8)++QdJ m.sc.toNat++Qae false m))=[32,43,32]++(Wo k.i++(([42]:List UInt8)++QdJ k.sc.toNat++Qae false k)) by simpa only[LQ] using h);exact this
def QpR (m:Mm):List UInt8:=bif isR m.b 0 0 then(bif isR m.i 0 0 then Kg m.d else Wo m.i++(([42]:List UInt8)++QdJ m.sc.toNat++Qae false m)) else Wo m.b++QdL m
theorem Qht (m:Mm):JQ m=(Qcd m.sz++(91::QpR m))++[93]:=by
 unfold JQ QpR Qw1 QdL Qot;cases hb:isR m.b 0 0<;>cases hi:isR m.i 0 0<;>simp[Qae]
theorem QAt {m k:Mm} (hm:Qj3 m) (hk:Qj3 k) (h:QpR m=QpR k):m.b=k.b∧m.i=k.i∧m.sc=k.sc∧m.d=k.d:=by
 have rest_al:∀ (m:Mm) c,(QdL m).head? = some c->alB c=false:=λm c hc=>by rw[QtT m c hc];decide
 have two:∀ {m k:Mm},Qj3 m->Qj3 k->isR m.b 0 0=false->isR k.b 0 0=true->QpR m=QpR k->False:=λ{m k} hm hk bm bk h=>by
  unfold QpR at h;rw[bm,bk]at h;simp only[Lq,Ls]at h;have vb:=hm.ok.b bm;cases ik:isR k.i 0 0 with
  | true=>rw[ik]at h;exact QoG vb h
  | false=>
   rw[ik]at h;obtain⟨vi,_⟩:=hk.ok.i ik;obtain⟨_,e2⟩:=Qch (p:=alB) (YE vb).1 (YE vi).1 (rest_al m) (QrV k) h;have:=QtT m 42 (by rw[e2];rfl);exact absurd this (by decide)
 cases bm:isR m.b 0 0 with
 | false=>
  cases bk:isR k.b 0 0 with
  | true=>exact(two hm hk bm bk h).elim
  | false=>
   unfold QpR at h;rw[bm,bk]at h;obtain⟨e1,e2⟩:=Qch (p:=alB) (YE (hm.ok.b bm)).1 (YE (hk.ok.b bk)).1 (rest_al m) (rest_al k) h;exact⟨QiV (hm.ok.b bm) (hk.ok.b bk) e1,QyQ hm hk e2⟩
 | true=>
  cases bk:isR k.b 0 0 with
  | false=>exact(two hk hm bk bm h.symm).elim
  | true=>
   unfold QpR at h;rw[bm,bk]at h;simp only[Lq]at h;refine⟨by rw[Qcf.1 bm,Qcf.1 bk],?_⟩;cases im:isR m.i 0 0<;>cases ik:isR k.i 0 0<;>rw[im,ik]at h<;>simp only[Lq,Ls]at h
   ·exact QtU hm hk im ik h
   ·exact(QoG (hm.ok.i im).1 h).elim
   ·exact(QoG (hk.ok.i ik).1 h.symm).elim
   ·exact⟨by rw[Qcf.1 im,Qcf.1 ik],by rw[hm.z im,hk.z ik],QgB h⟩
theorem QvU {m k:Mm} (hm:Qj3 m) (hk:Qj3 k) (h:JQ m=JQ k):m=k:=by
 rw[Qht,Qht]at h;have h1:=List.append_cancel_right h;have nb:∀ (n:Int),∀c∈Qcd n,(!(c==(91:UInt8)))=true:=λn c hc=>by
  rcases QtR n c hc with rfl | h
  ·decide
  ·cases e:c==(91:UInt8) with
   | false=>rfl
   | true=>rw[eq_of_beq e]at h;exact absurd h (by decide)
 have hd:∀ (l:List UInt8) c,((91:UInt8)::l).head? = some c->(!(c==(91:UInt8)))=false:=λl c hc=>by
  have:c=91:=by simpa using hc.symm
  rw[this];rfl
 obtain⟨e1,e2⟩:=Qch (p:=λc=>!(c==(91:UInt8))) (nb _) (nb _) (hd _) (hd _) h1;obtain⟨g1,g2,g3,g4⟩:=QAt hm hk (Bf e2).2;have g5:=QyP (Qbt hm.chk).2.1 (Qbt hk.chk).2.1 e1;obtain⟨b,i,sc,d,sz⟩:=m;obtain⟨b',i',sc',d',sz'⟩:=k;simp only at g1 g2 g3 g4 g5;rw[g1,g2,g3,g4,g5]
/-! ### Operands -/
theorem QmG {c:UInt8} (h:alB c=true):c≠44∧c≠91∧c≠32∧c≠45:=by
 refine⟨λe=>?_,λe=>?_,λe=>?_,λe=>?_⟩<;>rw[e]at h<;>exact absurd h (by decide)
theorem Qhu (n:Int):∀c∈Kg n,c≠44∧c≠91:=λc hc=>by
 rcases QCm n c hc with rfl | h
 ·decide
 ·exact⟨(QmG h).1,(QmG h).2.1⟩
theorem Qw5 {l:List UInt8} (hl:(l.all λc=>!(c==(44:UInt8)))=true):∀c∈l,c≠44:=λc hc e=>by
 have:=Li.1 hl c hc;rw[e]at this;cases this
theorem QyR {m:Mm} (hm:Qj3 m):∀c∈JQ m,c≠44:=by
 intro c hc;have he:∀c∈Qae false m,c≠44:=λc hc=>by
  unfold Qae at hc;simp only[Ls]at hc;cases h1:decide (0<m.d) with
  | true=>
   rw[h1]at hc;rcases LI.1 hc with h | h
   ·exact Qw5 (by decide) c h
   ·exact(Qhu _ c h).1
  | false=>
   rw[h1]at hc;cases h2:decide (m.d<0) with
   | true=>
    rw[h2]at hc;rcases LI.1 hc with h | h
    ·exact Qw5 (by decide) c h
    ·exact(Qhu _ c h).1
   | false=>rw[h2]at hc;cases hc
 have hst:isR m.i 0 0=false->∀c∈Wo m.i++(([42]:List UInt8)++QdJ m.sc.toNat++Qae false m),c≠44:=λhi c hc=>by
  obtain⟨v,s1,s2⟩:=hm.ok.i hi;rcases LI.1 hc with h | h
  ·exact(QmG ((YE v).1 c h)).1
  ·rcases LI.1 h with h | h
   ·rcases LI.1 h with h | h
    ·exact Qw5 (by decide) c h
    ·exact(QmG (QCp _ (by omega) c h)).1
   ·exact he c h
 rw[Qht]at hc;rcases LI.1 hc with h | h
 ·rcases LI.1 h with h | h
  ·rcases QtR _ c h with rfl | h
   ·decide
   ·exact(QmG (QEi h)).1
  ·rcases LK.1 h with rfl | h
   ·decide
   ·unfold QpR at h;cases hb:isR m.b 0 0 with
    | true=>
     rw[hb]at h;cases hi:isR m.i 0 0 with
     | true=>rw[hi]at h;exact(Qhu _ c h).1
     | false=>rw[hi]at h;exact hst hi c h
    | false=>
     rw[hb]at h;rcases LI.1 h with h | h
     ·exact(QmG ((YE (hm.ok.b hb)).1 c h)).1
     ·unfold QdL Qot at h;rcases LI.1 h with h | h
      ·cases hi:isR m.i 0 0 with
       | true=>rw[hi]at h;cases h
       | false=>
        rw[hi]at h;simp only[Ls]at h;rcases LI.1 h with h | h
        ·exact Qw5 (by decide) c h
        ·refine hst hi c ?_;rcases LI.1 h with h | h
         ·exact List.mem_append_left _ h
         ·exact List.mem_append_right _ (List.mem_append_left _ h)
      ·exact he c h
 ·rw[Sa.1 h];decide
structure CF (a:Ar):Prop where
 r:a.k=1->a.m=QdK∧a.n=0
 m:a.k=2->a.r=⟨0,0⟩∧a.n=0
 n:a.k=3∨a.k=4->a.r=⟨0,0⟩∧a.m=QdK
theorem QvV {next:Int} {a:Ar} (ha:AOk a):(a.k=1∧VH next a=Wo a.r)∨(a.k=2∧VH next a=JQ a.m)∨(a.k=3∧VH next a=Kg a.n)∨(a.k=4∧VH next a=Kg (IntKind.i64.wrap (a.n+next))):=by
 unfold VH;rcases ha.k with h | h | h | h
 ·exact .inl ⟨h,by rw[h];rfl⟩
 ·exact .inr (.inl ⟨h,by rw[h];rfl⟩)
 ·exact .inr (.inr (.inl ⟨h,by rw[h];rfl⟩))
 ·exact .inr (.inr (.inr ⟨h,by rw[h];rfl⟩))
theorem QCr {next:Int} {a:Ar} (ha:AOk a):∀c∈VH next a,c≠44:=by
 intro c hc;rcases QvV (next:=next) ha with⟨h,e⟩ | ⟨h,e⟩ | ⟨h,e⟩ | ⟨h,e⟩<;>rw[e]at hc
 ·exact(QmG ((YE (ha.r h)).1 c hc)).1
 ·exact QyR (ha.m h) c hc
 ·exact(Qhu _ c hc).1
 ·exact(Qhu _ c hc).1
theorem QqW (m:Mm):(91:UInt8)∈JQ m:=by
 rw[Qht];simp
theorem Qw6 {a b:Ar} (hk:a.k=b.k) (hr:a.r=b.r) (hm:a.m=b.m) (hn:a.n=b.n):a=b:=by
 obtain⟨k,r,m,n⟩:=a;obtain⟨k',r',m',n'⟩:=b;simp only at hk hr hm hn;rw[hk,hr,hm,hn]
theorem QAu {next:Int} {a b:Ar} (ha:AOk a) (hb:AOk b) (ca:CF a) (cb:CF b) (h34:¬ (a.k=3∧b.k=4)) (h43:¬ (a.k=4∧b.k=3)) (h:VH next a=VH next b):a=b:=by
 have reg_place:∀ {r:Rg} {m:Mm},Q9 r=true->Wo r=JQ m->False:=λ{r m} hr e=>(QmG ((YE hr).1 91 (by rw[e];exact QqW m))).2.1 rfl;have hex_place:∀ {n:Int} {m:Mm},Kg n=JQ m->False:=λ{n m} e=>(Qhu n 91 (by rw[e];exact QqW m)).2 rfl;have reg_hex:∀ {r:Rg} {n:Int},Q9 r=true->Wo r=Kg n->False:=λ{r n} hr e=>QoG (t:=[]) hr (by rw[Na];exact e);rcases QvV (next:=next) ha with⟨k1,e1⟩ | ⟨k1,e1⟩ | ⟨k1,e1⟩ | ⟨k1,e1⟩<;>rcases QvV (next:=next) hb with⟨k2,e2⟩ | ⟨k2,e2⟩ | ⟨k2,e2⟩ | ⟨k2,e2⟩<;>rw[e1,e2]at h
 ·exact Qw6 (by rw[k1,k2]) (QiV (ha.r k1) (hb.r k2) h) (by rw[(ca.r k1).1,(cb.r k2).1]) (by rw[(ca.r k1).2,(cb.r k2).2])
 ·exact(reg_place (ha.r k1) h).elim
 ·exact(reg_hex (ha.r k1) h).elim
 ·exact(reg_hex (ha.r k1) h).elim
 ·exact(reg_place (hb.r k2) h.symm).elim
 ·exact Qw6 (by rw[k1,k2]) (by rw[(ca.m k1).1,(cb.m k2).1]) (QvU (ha.m k1) (hb.m k2) h) (by rw[(ca.m k1).2,(cb.m k2).2])
 ·exact(hex_place h.symm).elim
 ·exact(hex_place h.symm).elim
 ·exact(reg_hex (hb.r k2) h.symm).elim
 ·exact(hex_place h).elim
 ·exact Qw6 (by rw[k1,k2]) (by rw[(ca.n (.inl k1)).1,(cb.n (.inl k2)).1]) (by rw[(ca.n (.inl k1)).2,(cb.n (.inl k2)).2]) (QgB h)
 ·exact absurd ⟨k1,k2⟩ h34
 ·exact(reg_hex (hb.r k2) h.symm).elim
 ·exact(hex_place h).elim
 ·exact absurd ⟨k1,k2⟩ h43
 ·have h1:=QgB h;have n1:=ha.n;have n2:=hb.n;rw[NU,NU]at h1;exact Qw6 (by rw[k1,k2]) (by rw[(ca.n (.inr k1)).1,(cb.n (.inr k2)).1]) (by rw[(ca.n (.inr k1)).2,(cb.n (.inr k2)).2]) (by unfold I64 at n1 n2;omega)
def jn:Nat->List (List UInt8)->List UInt8
 | _,[]=>[]
 | i,x::xs=>QeX i++(x++jn (i+1) xs)
theorem Qph (next:Int) (l:List Ar):Qat next l=jn 0 (l.map (VH next)):=by
 have h:∀ (l:List Ar) (i:Nat),((l.zipIdx i).map λp=>QeX p.2++VH next p.1).flatten=jn i (l.map (VH next)):=by
  intro l
  induction l with
  | nil=>intro i;rfl
  | cons a l ih=>
   intro i;rw[List.zipIdx_cons,NZ,List.flatten_cons,ih (i+1),NZ,LQ];rfl
 exact h l 0
theorem Qxq (i:Nat) (xs:List (List UInt8)):∀c,(jn (i+1) xs).head? = some c->(!(c==(44:UInt8)))=false:=by
 intro c h;cases xs with
 | nil=>cases h
 | cons x xs=>
  have:c=44:=by simpa[jn,QeX] using h.symm
  rw[this];rfl
theorem Qxr:∀ (i:Nat) (xs ys:List (List UInt8)),(∀x∈xs,∀c∈x,c≠44)->(∀y∈ys,∀c∈y,c≠44)->jn (i+1) xs=jn (i+1) ys->xs=ys
 | i,[],[],_,_,_=>rfl
 | i,[],y::ys,_,_,h=>by simp[jn,QeX]at h
 | i,x::xs,[],_,_,h=>by simp[jn,QeX]at h
 | i,x::xs,y::ys,hx,hy,h=>by
  have h1:x++jn (i+2) xs=y++jn (i+2) ys:=acl (l:=QeX (i+1)) h;have nc:∀ {z:List UInt8},(∀c∈z,c≠44)->∀c∈z,(!(c==(44:UInt8)))=true:=λhz c hc=>by
   cases e:c==(44:UInt8) with
   | false=>rfl
   | true=>exact absurd (eq_of_beq e) (hz c hc)
  obtain⟨e1,e2⟩:=Qch (p:=λc=>!(c==(44:UInt8))) (nc (hx x (Ny ..))) (nc (hy y (Ny ..))) (Qxq _ _) (Qxq _ _) h1;rw[e1,Qxr (i+1) xs ys (λz hz=>hx z (NA _ hz)) (λz hz=>hy z (NA _ hz)) e2]
theorem QEK {xs ys:List (List UInt8)} (hx:∀x∈xs,∀c∈x,c≠44) (hy:∀y∈ys,∀c∈y,c≠44) (h:jn 0 xs=jn 0 ys):xs=ys:=by
 cases xs with
 | nil=>
  cases ys with
  | nil=>rfl
  | cons y ys=>simp[jn,QeX]at h
 | cons x xs=>
  cases ys with
  | nil=>simp[jn,QeX]at h
  | cons y ys=>
   have h1:x++jn 1 xs=y++jn 1 ys:=acl (l:=QeX 0) h;have nc:∀ {z:List UInt8},(∀c∈z,c≠44)->∀c∈z,(!(c==(44:UInt8)))=true:=λhz c hc=>by
    cases e:c==(44:UInt8) with
    | false=>rfl
    | true=>exact absurd (eq_of_beq e) (hz c hc)
   obtain⟨e1,e2⟩:=Qch (p:=λc=>!(c==(44:UInt8))) (nc (hx x (Ny ..))) (nc (hy y (Ny ..))) (Qxq _ _) (Qxq _ _) h1;rw[e1,Qxr 0 xs ys (λz hz=>hx z (NA _ hz)) (λz hz=>hy z (NA _ hz)) e2]
theorem Quq {next:Int}:∀ {xs ys:List Ar},(∀a∈xs,AOk a∧CF a)->(∀b∈ys,AOk b∧CF b)->(∀a∈xs,∀b∈ys,¬ (a.k=3∧b.k=4)∧¬ (a.k=4∧b.k=3))->xs.map (VH next)=ys.map (VH next)->xs=ys
 | [],[],_,_,_,_=>rfl
 | [],b::ys,_,_,_,h=>by cases h
 | a::xs,[],_,_,_,h=>by cases h
 | a::xs,b::ys,hx,hy,hk,h=>by
  obtain⟨e1,e2⟩:=Bf (show VH next a::xs.map (VH next)=VH next b::ys.map (VH next) from h);obtain⟨o1,c1⟩:=hx a (Ny ..);obtain⟨o2,c2⟩:=hy b (Ny ..);obtain⟨k1,k2⟩:=hk a (Ny ..) b (Ny ..);rw[QAu o1 o2 c1 c2 k1 k2 e1,Quq (λx h=>hx x (NA _ h)) (λx h=>hy x (NA _ h)) (λa ha b hb=>hk a (NA _ ha) b (NA _ hb)) e2]
theorem Qur (next:Int) (l:List Ar):∀c,(Qat next l).head? = some c->(!(c==(32:UInt8)))=false:=by
 intro c h;rw[Qph]at h;cases l with
 | nil=>cases h
 | cons x xs=>
  have:c=32:=by simpa[jn,QeX] using h.symm
  rw[this];rfl
/-! ### Canons -/
theorem Qq7 {a:Ar} (hk:a.k=1∨a.k=2∨a.k=3∨a.k=4):CF (Zj a)∧(Zj a).k=a.k:=by
 unfold Zj;rcases hk with h | h | h | h<;>simp only[h]<;>refine⟨⟨?_,?_,?_⟩,?_⟩<;>simp
theorem Qy5 {ib:Int×Bool} {a:Ar} (h:(Yk ib a).2=0):CF (Yk ib a).1:=by
 unfold Yk at h ⊢;simp only at h ⊢;cases h1:(Wc a).2==0 with
 | false=>
  rw[h1]at h;simp only[N3]at h;rw[h]at h1;cases h1
 | true=>
  have hc:Wv a=0:=by
   unfold Wc at h1;split at h1
   ·rename_i hh;exact eq_of_beq hh
   ·rename_i hh;simp at h1 hh;exact absurd h1 hh
  have e:(Wc a).1=Zj a:=by unfold Wc;rw[hc];rfl
  obtain⟨cf,ck⟩:=Qq7 (QiS hc).2.2;rw[h1]at h;simp only[Fe,LN,e]at h ⊢;split
  ·rename_i hk;have hk:(Zj a).k=3:=eq_of_beq hk;refine⟨λh=>?_,λh=>?_,λ_=>cf.n (.inl hk)⟩
   ·simp only at h;omega
   ·simp only at h;omega
  ·exact cf
theorem Qpi {ib:Int×Bool}:∀ {l:List Ar},(QX ib l).2=0->∀a∈(QX ib l).1,CF a
 | [],_,a,ha=>by cases ha
 | x::l,h,a,ha=>by
  unfold QX at h ha;split at h
  ·rename_i hx;rw[Lc hx]at ha;rcases LK.1 ha with rfl | ha
   ·exact Qy5 (eq_of_beq hx)
   ·exact Qpi h a ha
  ·rename_i hx;exact absurd (by rw[h];rfl) hx
theorem Qxs {op:Int} {l:List Ar} (h:(Qt op l).2.2=0):∀a∈(Qt op l).2.1,CF a:=by
 unfold Qt at h ⊢;split at h
 ·rename_i h1;simp only at h;rw[h]at h1;cases h1
 ·rename_i h1;split at h
  ·rename_i h2;simp only at h;rw[h]at h2;cases h2
  ·rename_i h2;rw[Le h1,Le h2];intro a ha;exact Qpi (by simpa using h2) a (QqT ha)
/-! ### What an encoding says of the operands' kinds -/
def Qus (s:Int):Bool:=decide (20<=s.toNat)&&decide (s.toNat<=25)||Nat.beq s.toNat 33
def Qv9 (s:Int):Bool:=Nat.beq s.toNat 26||Nat.beq s.toNat 27
theorem QAT {s:Nat} {g:Gv} (hk:g.a.k=3) (h:Qee s g=true):(20<=s∧s<=25)∨s=33:=by
 unfold Qee at h;split at h
 all_goals first
  | omega
  | (exfalso;simp[WE,XD,hk]at h)
theorem QAU {s:Nat} {g:Gv} (hk:g.a.k=4) (hb:g.bits=0) (h:Qee s g=true):s=26∨s=27:=by
 unfold Qee at h;split at h
 all_goals first
  | omega
  | (exfalso;simp[WE,XD,hk,hb]at h)
theorem QAV {f:Fm} {op:Int} {m:List Ar} (h:QkV f op m=true) {a:Ar} (ha:a∈m):(a.k=3->∃s∈f.shapes,Qus s=true)∧(a.k=4->∃s∈f.shapes,Qv9 s=true):=by
 unfold QkV at h;simp only[Lm,L0,Li,LU]at h;obtain⟨⟨⟨⟨h1,h2⟩,h3⟩,h4⟩,h5⟩:=h;obtain⟨i,hi⟩:=Bx.1 ha;have hil:=(Lk.1 hi).1;have h6:=h5 i hil;have e1:m.getD i WM=a:=by rw[LX,hi];rfl
 have hs:f.shapes[i]? = some (f.shapes.getD i 0):=by rw[LX,La (by omega)];rfl
 have hm:=Ln hs;rw[e1]at h6;unfold Qg8 at h6;simp only[Lm]at h6;generalize f.shapes.getD i 0=s at *;refine⟨λhk=>⟨s,hm,?_⟩,λhk=>⟨s,hm,?_⟩⟩
 ·have:=QAT (s:=s.toNat) (g:=Qpa (WC op m) a) (by unfold Qpa;rw[Lc hk];exact hk) h6.2;unfold Qus;simp only[Nw,Lm,Lv,Sd];exact this
 ·have e:Qpa (WC op m) a=⟨a,0,0⟩:=by unfold Qpa;rw[Le (by omega)]
  rw[e]at h6;have:=QAU (s:=s.toNat) (g:=⟨a,0,0⟩) hk rfl h6.2;unfold Qv9;simp only[Nw,Sd];exact this
theorem Qut {L:List Fm} {op:Int} {l:List Ar} (h:(Qqi L op l).2=0):∃f∈L,∀a∈(Qt op l).2.1,(a.k=3->∃s∈f.shapes,Qus s=true)∧(a.k=4->∃s∈f.shapes,Qv9 s=true):=by
 unfold Qqi at h;split at h
 ·rename_i h1;simp only at h;rw[h]at h1;cases h1
 ·split at h
  ·cases h
  ·rename_i h2;have hne:Qun L op l≠[]:=λe=>h2 (by rw[e];rfl);obtain⟨w,hw⟩:=List.exists_mem_of_ne_nil _ hne;unfold Qun at hw;rw[NF]at hw;obtain⟨m,hm,hw⟩:=hw;rw[NF]at hw;obtain⟨k,_,hw⟩:=hw;unfold frm at hw;split at hw
   ·rename_i f hf;obtain⟨w',hw',_⟩:=N4.1 hw;unfold Qpd at hw';split at hw'
    ·rename_i hfit;refine⟨f,Ln hf,λa ha=>QAV hfit ?_⟩;unfold Qdg at hm;split at hm
     ·rcases LI.1 hm with hm | hm
      ·rw[Sa.1 hm];exact ha
      ·split at hm
       ·rw[Sa.1 hm];exact List.mem_reverse.2 ha
       ·cases hm
     ·cases hm
    ·cases hw'
   ·cases hw
theorem Qxt {op next:Int} {l:List Ar} (h:(GA op l 0 next).2=0):(Qt op l).2.2=0∧(GA op l 0 next).1=nmF (Qt op l).1++Qat next (Qt op l).2.1:=by
 unfold GA at h ⊢;split at h
 ·rename_i h1;refine⟨eq_of_beq h1,?_⟩;rw[Lc h1,Lc (by decide)];simp[QqV]
 ·rename_i h1;exact absurd (by rw[h];rfl) h1
theorem Qy6 {L:Int->List Fm} (hL:∀op,∀f∈L op,∀g∈L op,∀s∈f.shapes,∀t∈g.shapes,Qus s=true->Qv9 t=true->False) {o p next:Int} {xs ys:List Ar} (hx:∀a∈xs,I64 a.n) (hy:∀a∈ys,I64 a.n)
  (tx:(GA o xs 0 next).2=0) (ty:(GA p ys 0 next).2=0) (ex:(Qqi (L o) o xs).2=0) (ey:(Qqi (L p) p ys).2=0) (h:(GA o xs 0 next).1=(GA p ys 0 next).1):Qpg o p xs ys=true:=by
 obtain⟨c1,e1⟩:=Qxt tx;obtain⟨c2,e2⟩:=Qxt ty;obtain⟨o1,v1,_,a1⟩:=QoB hx c1;obtain⟨o2,v2,_,a2⟩:=QoB hy c2;rw[e1,e2,o1,o2]at h;obtain⟨g1,g2⟩:=Qch (p:=λc=>!(c==(32:UInt8))) (QtQ v1) (QtQ v2) (Qur _ _) (Qur _ _) h;obtain rfl:=QCo v1 v2 g1;rw[Qph,Qph]at g2;have cm:∀ {l:List Ar},(∀a∈l,AOk a)->∀x∈l.map (VH next),∀c∈x,c≠44:=λha x hx=>by
  obtain⟨a,hm,rfl⟩:=N4.1 hx;exact QCr (ha a hm)
 have g3:=QEK (cm a1) (cm a2) g2;obtain⟨f,hf,kf⟩:=Qut ex;obtain⟨g,hg,kg⟩:=Qut ey;have g4:=Quq (λa ha=>⟨a1 a ha,Qxs c1 a ha⟩) (λa ha=>⟨a2 a ha,Qxs c2 a ha⟩) (λa ha b hb=>⟨fun⟨k1,k2⟩=>by
  obtain⟨s,hs,hi⟩:=(kf a ha).1 k1;obtain⟨t,ht,hr⟩:=(kg b hb).2 k2;exact hL _ f hf g hg s hs t ht hi hr,fun⟨k1,k2⟩=>by
  obtain⟨s,hs,hi⟩:=(kg b hb).1 k2;obtain⟨t,ht,hr⟩:=(kf a ha).2 k1;exact hL _ g hg f hf s hs t ht hi hr⟩) g3
 unfold Qpg;rw[c1,c2,g4,o1,o2];simp
theorem Qy7 {o p next:Int} {xs ys:List Ar} (h:Qpg o p xs ys=true):GA o xs 0 next=GA p ys 0 next:=by
 unfold Qpg at h;simp only[Lm,L0,Lv]at h;obtain⟨⟨⟨h1,h2⟩,h3⟩,h4⟩:=h;unfold GA;rw[h1,h2,h3,h4]
theorem Quu {o next:Int} {xs:List Ar} (hx:∀a∈xs,I64 a.n):((GA o xs 0 next).2==0)=((Qt o xs).2.2==0):=by
 unfold GA;split
 ·rename_i h;rw[h,Lc (by decide)];rfl
 ·rename_i h;cases e:(Qt o xs).2.2==0 with
  | true=>exact absurd e h
  | false=>rfl
/-! ### Whether there is a canon hangs on the check alone -/
theorem Qxu {k:Int} {l:List Ar} {a:Ar} (ha:a∈l) (hk:a.k=k):1<=Yp k l:=by
 induction l with
 | nil=>cases ha
 | cons b l ih=>
  have h0:=(QeV k l).1;have e:Yp k (b::l)=(if(b.k==k)=true then 1 else 0)+Yp k l:=rfl;rcases LK.1 ha with h | h
  ·rw[e,<- h,Lc (L0.2 hk)];omega
  ·have:=ih h;rw[e];split<;>omega
theorem QAW {l:List Ar} (h:Yp 3 l=0) (n:Int):Qdb n l=n:=by
 induction l generalizing n with
 | nil=>rfl
 | cons b l ih=>
  have h0:=(QeV 3 l).1;have e:Yp 3 (b::l)=(if(b.k==3)=true then 1 else 0)+Yp 3 l:=rfl;have e2:Qdb n (b::l)=Qdb (if(b.k==3)=true then b.n else n) l:=rfl;rw[e]at h;rw[e2]
  by_cases hb:(b.k==3)=true
  ·rw[Lc hb]at h;omega
  ·rw[Le hb]at h ⊢;exact ih (by omega) n
theorem QCQ {l:List Ar} {a:Ar} (h:Yp 3 l<=1) (ha:a∈l) (hk:a.k=3) (n:Int):Qdb n l=a.n:=by
 induction l generalizing n with
 | nil=>cases ha
 | cons b l ih=>
  have h0:=(QeV 3 l).1;have e:Yp 3 (b::l)=(if(b.k==3)=true then 1 else 0)+Yp 3 l:=rfl;have e2:Qdb n (b::l)=Qdb (if(b.k==3)=true then b.n else n) l:=rfl;rw[e]at h;rw[e2];rcases LK.1 ha with hh | hh
  ·subst hh;rw[Lc (L0.2 hk)]at h ⊢;exact QAW (by omega) _
  ·have:=Qxu hh hk
   by_cases hb:(b.k==3)=true
   ·rw[Lc hb]at h;omega
   ·rw[Le hb]at h ⊢;exact ih (by omega) hh n
theorem Qxv {ib:Int×Bool}:∀ {l:List Ar},QiR l=0->(∀a∈l,a.k=3->(Jt a.n ib.1 ib.2).2=0)->(QX ib l).2=0
 | [],_,_=>rfl
 | a::l,h,hi=>by
  unfold QiR at h;split at h
  ·rename_i ha;have h1:(Yk ib a).2=0:=by
    unfold Yk Wc;rw[Lc ha];simp only[LO,Fe,LN];obtain⟨_,ck⟩:=Qq7 (QiS (eq_of_beq ha)).2.2;split
    ·rename_i hk;have hk:(Zj a).k=3:=eq_of_beq hk;have hk3:a.k=3:=by rw[<- ck];exact hk
     have hn:(Zj a).n=a.n:=by unfold Zj;rw[hk3];rfl
     show(Jt (Zj a).n ib.1 ib.2).2=0;rw[hn];exact hi a (Ny ..) hk3
    ·rfl
   unfold QX;rw[h1];exact Qxv h λb hb=>hi b (NA _ hb)
  ·rename_i ha;exact absurd (by rw[h];rfl) ha
theorem Qxw (op:Int) (l:List Ar):((Qt op l).2.2==0)=(Wa op l==0):=by
 unfold Qt;cases hc:Wa op l==0 with
 | false=>simp only[N3];exact hc
 | true=>
  simp only[Fe,LN];have h:=eq_of_beq hc;unfold Wa at h;split at h
  ·cases h
  ·split at h
   ·cases h
   ·split at h
    ·rename_i h3;rw[h]at h3;cases h3
    ·rename_i h3;have he:QiR l=0:=by simpa using h3
     split at h
     ·cases h
     ·rename_i h4;simp only[Nw,Lv,not_or,Int.not_lt]at h4;have hz:(QX (WC op l) l).2=0:=Qxv he λa ha hk=>by
       have hp:=Qxu ha hk;rw[Le (by simp;omega)]at h;split at h
       ·cases h
       ·rw[QCQ h4.2 ha hk 0]at h;exact h
      rw[hz];rfl
abbrev KS (H:Qa):Env->Qa->Prop:=Rt prog QbX H λu H'=>u=.bool true∧Ext H H'
section
variable {T:Qa->Prop} {L:Int->List Fm} (hT:QyE T) (hO:∀op H,T H->Qg prog JJ [.int .i64 op] H λu H'=>QyX H H' u (L op)) (hA:∀H,T H->Qg prog XB [] H λu H'=>u=.bool true∧Ext H H')
 (hL:∀op,∀f∈L op,∀g∈L op,∀s∈f.shapes,∀t∈g.shapes,Qus s=true->Qv9 t=true->False)
include hT hO hA hL
theorem Quv {o p next:Int} {va vb:Value} {xs ys:List Ar} (H:Qa) (hTH:T H) (ha:Q0 H va xs) (hb:Q0 H vb ys) (hIx:∀a∈xs,I64 a.n) (hIy:∀a∈ys,I64 a.n)
  (hva:∀n,H.next<=n->Qm n 6 (.agg #[.int .i64 o,va])=true) (hvb:∀n,H.next<=n->Qm n 6 (.agg #[.int .i64 p,vb])=true):
  Qg prog XJ [.agg #[.int .i64 o,va],.agg #[.int .i64 p,vb],.int .i64 next] H λu H'=>u=.bool true∧Ext H H':=by
 refine QbS λhw=>?_;obtain⟨a0,ca,rfl⟩:=Q7 ha;obtain⟨b0,cb,rfl⟩:=Q7 hb;simp only[ZP,Qb,simprocAttr];generalize hH1:Qa.push (Qa.push H _) _=H1;have hx1:Ext H H1:=by rw[<- hH1];exact((Ext.refl H).push _).push _
 have hw1:H1.Wf:=by rw[<- hH1];exact(hw.push _).push _
 have g0:H1.get H.next=some (.cells [.int .i64 o,.slice a0 xs.length ca] Qc false):=by rw[<- hH1,Qd,Le (by simp only[Qe];omega),Qd,Lc rfl]
 have g1:H1.get (H.next+1)=some (.cells [.int .i64 p,.slice b0 ys.length cb] Qc false):=by rw[<- hH1,Qd,Lc (by simp only[Qe])]
 clear hH1;refine(hA H1 (hT.q.ext _ _ hw hTH hx1)).thenW ?_;rintro _ H2 hn2 hw2 ⟨rfl,hx12⟩;have hx2:=hx1.trans hx12;have k0:=(hx12.get _ (hw1.lt g0)).trans g0;have k1:=(hx12.get _ (hw1.lt g1)).trans g1;have hT2:=hT.q.ext _ _ hw hTH hx2;have l0:=hw2.lt k0;have l1:=hw2.lt k1;have ha2:=ha.ext hw hx2;have hb2:=hb.ext hw hx2;simp only[Qb,simprocAttr,k0,k1,QU]
 by_cases hlx:(xs.length:Int)>9
 ·have z:decide ((xs.length:Int)>9)=true:=Lp hlx;simp only[Qb,simprocAttr,z,QT];exact .mk hx2.next ⟨rfl,hx2⟩
 have z0:decide ((xs.length:Int)>9)=false:=Lj hlx;simp only[Qb,simprocAttr,z0,k1,QU]
 by_cases hly:(ys.length:Int)>9
 ·have z:decide ((ys.length:Int)>9)=true:=Lp hly;simp only[Qb,simprocAttr,z,QT];exact .mk hx2.next ⟨rfl,hx2⟩
 have z1:decide ((ys.length:Int)>9)=false:=Lj hly;simp only[Qb,simprocAttr,z1,Y9,k0];have lx:xs.length<=1000:=by omega
 have ly:ys.length<=1000:=by omega
 refine(Qj4 hT (H:=H2) o _ xs ha2 lx hIx 0 next hT2).thenW ?_;rintro _ H3 hn3 hw3 ⟨rfl,hx23⟩;have hx3:=hx2.trans hx23;have j0:=(hx23.get _ l0).trans k0;have j1:=(hx23.get _ l1).trans k1;have hT3:=hT.q.ext _ _ hw hTH hx3;simp only[Qb,simprocAttr,j1];refine(Qj4 hT (H:=H3) p _ ys (hb.ext hw hx3) ly hIy 0 next hT3).thenW ?_;rintro _ H4 hn4 hw4 ⟨rfl,hx34⟩;have hx4:=hx3.trans hx34;have hx24:=hx23.trans hx34;have i0:=(hx24.get _ l0).trans k0;have i1:=(hx24.get _ l1).trans k1;have hT4:=hT.q.ext _ _ hw hTH hx4;have ha4:=ha.ext hw hx4;have hb4:=hb.ext hw hx4;have tcx:=(Quu (o:=o) (next:=next) hIx).trans (Qxw o xs)
 have tcy:=(Quu (o:=p) (next:=next) hIy).trans (Qxw p ys)
 have hinj:=@Qy6 L hL o p next xs ys hIx hIy;have hsam:=@Qy7 o p next xs ys;generalize GA o xs 0 next=tx at *;generalize GA p ys 0 next=ty at *;obtain⟨sx,ex⟩:=tx;obtain⟨sy,ey⟩:=ty;simp only at tcx tcy hinj hsam;simp only[Qb,simprocAttr];have fin3:∀A:Env,A 3=.pointer (some ⟨H.next,0,none⟩)->A 4=.pointer (some ⟨H.next+1,0,none⟩)->A 7=.bool true->A 9=.int .i64 ex->A 11=.int .i64 ey->Qs prog Xj ⟨KS H,YO⟩ (KS H) A H4:=by
  intro A r3 r4 r7 r9 r11;simp only[Xj,Qb,simprocAttr,r3,r7,r9,i0];refine(KI o _ xs H4 ha4 lx hIx).thenW ?_;rintro _ H5 hn5 hw5 ⟨rfl,k5,rfl⟩;have hx45:Ext H4 (H4.up k5):=(Ext.refl H4).up hn5;have b1:((ex==0)==(Wa o xs==0))=true:=by rw[tcx];exact LO _
  have i1':=(hx45.get _ (hw4.lt i1)).trans i1;generalize H4.up k5=H5 at *;simp only[Qb,simprocAttr,b1,r4,r11,i1'];refine(KI p _ ys H5 (hb4.ext hw4 hx45) ly hIy).thenW ?_;rintro _ H6 hn6 hw6 ⟨rfl,k6,rfl⟩;have b2:((ey==0)==(Wa p ys==0))=true:=by rw[tcy];exact LO _
  have hx6:=hx4.trans (hx45.trans ((Ext.refl H5).up (show _<=k6 from hn6)));simp only[Qb,simprocAttr,b2,QT];exact .mk hx6.next ⟨rfl,hx6⟩
 cases e1:ex==0 with
 | false=>
  simp only[Qb,simprocAttr];refine fin3 _ ?_ ?_ ?_ ?_ ?_
  all_goals simp only[Ql,simprocAttr]
 | true=>
  simp only[Qb,simprocAttr];cases e2:ey==0 with
  | false=>
   simp only[Qb,simprocAttr];refine fin3 _ ?_ ?_ ?_ ?_ ?_
   all_goals simp only[Ql,simprocAttr]
  | true=>
   simp only[Qb,simprocAttr,Y8,i0,i1];refine(Qup H4 ha4 hb4 lx ly hIx hIy).thenW ?_;rintro _ H5 hn5 hw5 ⟨rfl,hx45⟩;have hx5:=hx4.trans hx45;have f0:=(hx45.get _ (hw4.lt i0)).trans i0;have f1:=(hx45.get _ (hw4.lt i1)).trans i1;cases hs:Qpg o p xs ys with
   | true=>
    have he:=(Prod.mk.inj (hsam hs)).1;have b1:(bl (mkS sx)==bl (mkS sy))=true:=by rw[he];exact LO _
    simp only[Qb,simprocAttr,b1,QT];exact .mk hx5.next ⟨rfl,hx5⟩
   | false=>
    simp only[Qb,simprocAttr,Y7,f0];refine(QkY hT.q.ext hO H5 (hT.q.ext _ _ hw hTH hx5) (ha.ext hw hx5) (λn hn=>hva n (N8 hx5.next hn)) lx hIx).thenW ?_;rintro _ H6 hn6 hw6 ⟨v6,rfl,_,hx56⟩;have hx6:=hx5.trans hx56;have g1':=(hx56.get _ (hw5.lt f1)).trans f1;simp only[Qb,simprocAttr,g1'];refine(QkY hT.q.ext hO H6 (hT.q.ext _ _ hw hTH hx6) (hb.ext hw hx6) (λn hn=>hvb n (N8 hx6.next hn)) ly hIy).thenW ?_;rintro _ H7 hn7 hw7 ⟨v7,rfl,_,hx67⟩;have hx7:=hx6.trans hx67;simp only[Qb,simprocAttr];cases a1:(Qqi (L o) o xs).2==0 with
    | false=>
     simp only[Qb,simprocAttr,QT];exact .mk hx7.next ⟨rfl,hx7⟩
    | true=>
     simp only[Qb,simprocAttr];cases a2:(Qqi (L p) p ys).2==0 with
     | false=>
      simp only[Qb,simprocAttr,QT];exact .mk hx7.next ⟨rfl,hx7⟩
     | true=>
      have b1:(bl (mkS sx)==bl (mkS sy))=false:=by
       cases e:bl (mkS sx)==bl (mkS sy) with
       | false=>rfl
       | true=>
        have e:=eq_of_beq e;rw[VN,VN]at e;rw[hinj (eq_of_beq e1) (eq_of_beq e2) (eq_of_beq a1) (eq_of_beq a2) e]at hs;cases hs
      simp only[Qb,simprocAttr,b1,LM,QT];exact .mk hx7.next ⟨rfl,hx7⟩
end
end Go.Proofs.YtiepokkmhhginaaGreatDoor.code
