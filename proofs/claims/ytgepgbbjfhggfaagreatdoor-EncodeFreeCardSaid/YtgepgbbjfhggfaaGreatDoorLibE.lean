/- encode.copied: an instruction with operands of its own. -/
import Derived.Test.YtgepgbbjfhggfaaGreatDoorLibC
import Derived.Test.YtgepgbbjfhggfaaGreatDoorC7Free
import Derived.Test.YtgepgbbjfhggfaaGreatDoorAbD
import Derived.Test.YtgepgbbjfhggfaaGreatDoorLibI
import Derived.Test.YtgepgbbjfhggfaaGreatDoorC6One
set_option linter.unusedVariables false
set_option linter.unusedSimpArgs false
set_option maxRecDepth 100000
set_option maxHeartbeats 4000000
noncomputable section
namespace Go.Proofs.YtgepgbbjfhggfaaGreatDoor.code
open Go.Ab
theorem QyW {P:Program} {A:Env} {H H':Qa} {k:Value->Qa->Prop} {t t2:TypeId} {size:Nat} {x y:Operand} {v:Value} (ht:QpP P t size=true) (hc:Qlo size (ev A x) (ev A y) H=some (v,H')):
  pr P (.gen (.call ⟨.builtin .copy,#[x,y],#[t,t2]⟩)) false A H k=k v H':=by
 unfold QpP at ht;split at ht
 ·rename_i e h1;split at ht
  ·rename_i inf h2;have e0:inf.size=size:=Nat.eq_of_beq_eq_true ht;subst e0;exact Quw (by
    simp only[rop,aop,Qcv,h1,h2,hc];rfl)
  ·cases ht
 ·cases ht
theorem Qu3 (z:Array Value) (m:Nat):(Xi z m).length=m:=by simp[Xi]
theorem Qe9 {op:Int} {va:Value} {l:List Ar} (H:Qa) (ha:QS H va l) (hl:l.length<=1000):Qf prog Zg [.agg #[.int .i64 op,va]] H λu H'=>∃b,u=.agg #[.int .i64 op,.slice (some ⟨b,0,none⟩) l.length l.length]∧H.next<=b∧b<H'.next∧(0<l.length->H'.get b=some (.cells (Qg l) Qd false))∧Ext H H':=by
 refine Qk8 λhw=>?_;obtain⟨a0,cap,rfl,h1⟩:=ha;have hst:QpP prog QCJ 11=true:=by kernel_rfl
 simp only[QdK,Qbt,simprocAttr];generalize hH1:Qa.push H _=H1;have g1:H1.get H.next=some (.cells [.int .i64 op,.slice a0 l.length cap] Qb false):=by rw[<- hH1,Qa.get_push,if_pos rfl];rfl
 have hx1:Ext H H1:=by rw[<- hH1];exact(Ext.refl H).push _
 have hw1:H1.Wf:=by rw[<- hH1];exact hw.push _
 have hn1:H1.next=H.next+1:=by rw[<- hH1];rfl
 clear hH1;simp only[Qc,simprocAttr,hn1];generalize hH2:Qa.push H1 _=H2;have hx2:Ext H H2:=by rw[<- hH2];exact(hx1.push _)
 have hw2:H2.Wf:=by rw[<- hH2];exact(hw1.push _)
 have g2:H2.get H.next=some (.cells [.int .i64 op,.slice a0 l.length cap] Qb false):=by rw[<- hH2,Qa.get_push,if_neg (by omega)];exact g1
 have g2b:H2.get (H.next+1)=some (.cells [.int .i64 0,.slice none 0 0] Qb false):=by rw[<- hH2,Qa.get_push,if_pos (by omega)]
 have hn2:H2.next=H.next+2:=by rw[<- hH2,Qa.next_push,hn1]
 clear hH2;have nz:¬H.next=H2.next:=by omega
 have nz2:¬H.next+1=H2.next:=by omega
 simp only[Qc,simprocAttr,nz,nz2,if_false,g1,g2,Qm,QpA];refine⟨⟨by omega,by omega,by omega,by omega⟩,?_⟩;have en:(l.length:Int).toNat=l.length:=by omega
 rw[en];generalize hz:Xi _ _=zs;have hzl:zs.length=l.length * 11:=by rw[<- hz,Qu3]
 clear hz;have hx23:=(Ext.refl H2).push (.cells zs Qd false);have hw3:=hw2.push (.cells zs Qd false);have g3:(H2.push (.cells zs Qd false)).get H2.next=some (.cells zs Qd false):=by rw[Qa.get_push,if_pos rfl]
 have hn3:(H2.push (.cells zs Qd false)).next=H2.next+1:=rfl;generalize H2.push (.cells zs Qd false)=H3 at *;have hx3:=hx2.trans hx23
 -- what is copied
 obtain⟨H4,v4,hc,hn4,hw4,hk4,hg4⟩:∃H4 v4,Qlo 11 (.slice (some ⟨H2.next,0,none⟩) l.length l.length) (.slice a0 l.length cap) H3=some (v4,H4)∧H4.next=H3.next∧H4.Wf∧(∀id,id≠H2.next->H4.get id=H3.get id)∧(0<l.length->H4.get H2.next=some (.cells (Qg l) Qd false)):=by
  by_cases h0:l.length=0
  ·refine⟨H3,.int .i64 0,?_,rfl,hw3,λ_ _=>rfl,λh=>by omega⟩;have hs:ZB 11 (.slice a0 l.length cap) H3=some (0,[]):=by rw[h0];cases a0<;>simp[ZB]
   unfold Qlo;rw[hs];simp[h0]
  ·obtain⟨b,e,ro,rfl,hgb⟩:=h1 (by omega);have hgb3:H3.get b=some (.cells (Qg l) e ro):=by rw[hx3.get _ (hw.lt hgb)];exact hgb
   have hcl:=QF l;have hs:ZB 11 (.slice (some ⟨b,0,none⟩) l.length cap) H3=some (l.length,Qg l):=by
    rw[G6 hgb3 h0 (by omega),List.drop_zero,List.take_of_length_le (by omega)]
   have hmin:Nat.min l.length l.length=l.length:=Nat.min_self _;have hall:(Qg l).all (·.oneCell')=true:=by
    rw[List.all_eq_true];intro v hv;obtain⟨a,_,h⟩:=List.mem_flatMap.1 hv;exact List.all_eq_true.1 (show(a.cells.all λv=>v.oneCell')=true from rfl) v h
   have hsp:splice zs 0 (Qg l)=Qg l:=by
    unfold splice;rw[List.take_zero,List.nil_append,List.drop_of_length_le (by omega),List.append_nil]
   refine⟨H3.set H2.next (.cells (Qg l) Qd false),.int .i64 l.length,?_,rfl,hw3.set g3 _,λid h=>by rw[Qa.get_set,if_neg h],λ_=>by rw[Qa.get_set,if_pos rfl]⟩;unfold Qlo;rw[hs];simp only[hmin,h0,if_false,g3];rw[if_pos ⟨by omega,by rw[List.take_of_length_le (by omega)];exact hall⟩,List.take_of_length_le (by omega),hsp]
 rw[QyW (size:=11) hst (by simp only[Qq,simprocAttr];exact hc)];have g42:H4.get H.next=some (.cells [.int .i64 op,.slice a0 l.length cap] Qb false):=by rw[hk4 _ (by omega),hx23.get _ (by omega)];exact g2
 have g4b:H4.get (H.next+1)=some (.cells [.int .i64 0,.slice none 0 0] Qb false):=by rw[hk4 _ (by omega),hx23.get _ (by omega)];exact g2b
 have hx4:Ext H H4:=⟨by have:=hx3.next;omega,λid hid=>by rw[hk4 id (by omega)];exact hx3.get id hid⟩;simp only[Qc,simprocAttr,g42,g4b,Qkb];have hx5:=hx4.set (show H.next<=H.next+1 by omega) (.cells [.int .i64 op,.slice (some ⟨H2.next,0,none⟩) l.length l.length] Qb false);refine .mk hx5.next ⟨H2.next,rfl,by omega,by rw[Qa.next_set];omega,λh=>?_,hx5⟩;rw[Qa.get_set,if_neg (by omega)];exact hg4 h
def Qmm (l:List Ar):Int:=if(l.any λa=>a.k==2)=true then(l.findIdx λa=>a.k==2:Nat) else -1
def Z2 (l:List Ar) (k:Nat) (s:Int):List Ar:=l.set k {l.getD k Wi with m:={(l.getD k Wi).m with sz:=s}}
def Qk9 (L:List Fm) (op:Int) (l:List Ar) (k:Nat) (s:Int):Bool:=(QT op (Z2 l k s)==0)&&!(Jn L op (Z2 l k s)).isEmpty
def GZ (L:List Fm) (op:Int) (l:List Ar):Int×List Ar×Int:=
 if(QT op l==0)=false then(0,[],QT op l)
 else if(decide (Qmm l<0)||!((l.getD (Qmm l).toNat Wi).m.sz==0)||!(Jn L op l).isEmpty)=true then(op,l,0)
 else match ([1,2,4,8,16,32]:List Int).filter (Qk9 L op l (Qmm l).toNat) with
  | []=>(0,[],8)
  | [s]=>(op,Z2 l (Qmm l).toNat s,0)
  | _=>(0,[],2)
theorem QyX (a:Ar) (H:Qa):Qf prog Yw [.agg a.cells.toArray] H λu H'=>u=.bool (a.k==2)∧Ext H H':=by
 refine Qka λhw=>?_;obtain⟨ak,⟨rc,rn⟩,⟨⟨bc,bn⟩,⟨ic,nn⟩,sc,d,sz⟩,n⟩:=a;simp only[Ar.cells,Qcs,Qc,simprocAttr,Qiz];have hx:=(Ext.refl H).push (.cells [.int .i64 ak,.int .i64 rc,.int .i64 rn,.int .i64 bc,.int .i64 bn,.int .i64 ic,.int .i64 nn,.int .i64 sc,.int .i64 d,.int .i64 sz,.int .i64 n] Qd false);exact .mk hx.next ⟨rfl,hx⟩
theorem Qu4 (va:Value) (l:List Ar) (H:Qa) (ha:QS H va l) (hl:l.length<=1000):Qf prog QV [va,.func (.func Yw) #[] #[]] H λu H'=>u=.int .i64 (Qmm l)∧Ext H H':=by
 refine Xw λhw=>?_;obtain⟨a0,cap,rfl,h1⟩:=ha;simp only[Ws,Qc,simprocAttr,Qm];refine Qu (λm A' H'=>∃i:Nat,i<=l.length∧m=l.length - i∧H'.Wf∧Ext H H'∧A' 0=.slice a0 l.length cap∧A' 1=.func (.func Yw) #[] #[]∧A' 7=.int .i64 l.length∧A' 8=.int .i64 i∧∀j,j<i->((l.getD j Wi).k==2)=false) l.length ?_ ?_
 ·refine⟨0,Nat.zero_le _,by omega,hw,Ext.refl H,?_,?_,?_,?_,λj h=>by omega⟩
  all_goals simp only[Qq,simprocAttr]
  all_goals rfl
 ·rintro m A' H' ⟨i,hi,rfl,hw',hx,r0,r1,r7,r8,hno⟩;simp only[Qc,simprocAttr,r7,r8];refine Qh (λh2=>?_) (λh2=>?_)
  ·have h2:i<l.length:=by have:=of_decide_eq_true h2;omega
   obtain⟨a,hai⟩:∃a,l[i]? = some a:=⟨_,List.getElem?_eq_getElem h2⟩;obtain⟨b,e,ro,rfl,hgb0⟩:=h1 (by omega);have hgb:H'.get b=some (.cells (Qg l) e ro):=by rw[hx.get b (hw.lt hgb0)];exact hgb0
   have htk:=Wx l i a hai;have hle:i * 11+11<=(Qg l).length:=by rw[QF];omega
   have d1:(0:Int)<=i∧(i:Int)<l.length:=by omega
   have d3:(i:Int).toNat=i:=by omega
   have ei:IntKind.i64.wrap ((i:Int)+1)=((i+1:Nat):Int):=by rw[w64 (by unfold I64;omega)];omega
   have hgd:l.getD i Wi=a:=by simp[List.getD_eq_getElem?_getD,hai]
   simp only[Qc,simprocAttr,r0,r1,r8,d1,d3,hgb,htk,QkY];refine⟨hle,?_⟩;refine(QyX a H').thenW ?_;rintro _ H2 hn2 hw2 ⟨rfl,hx2⟩;cases c:a.k==2 with
   | true=>
    simp only[Qc,simprocAttr,Q4];refine .mk (hx.trans hx2).next ⟨?_,hx.trans hx2⟩;have hany:(l.any λa=>a.k==2)=true:=List.any_eq_true.2 ⟨a,List.mem_of_getElem? hai,c⟩;have hfi:l.findIdx (λa=>a.k==2)=i:=by
     rw[List.findIdx_eq h2];have e:l[i]=a:=by rw[List.getElem?_eq_getElem h2]at hai;exact Option.some.inj hai
     refine⟨by rw[e];exact c,λj hj=>?_⟩;have:=hno j hj;rw[List.getD_eq_getElem?_getD,List.getElem?_eq_getElem (by omega)]at this;simpa using this
    unfold Qmm;rw[if_pos hany,hfi]
   | false=>
    simp only[Qc,simprocAttr,r8,ei];have hno2:∀j,j<i+1->((l.getD j Wi).k==2)=false:=λj hj=>by
     rcases Nat.lt_or_ge j i with h | h
     ·exact hno j h
     ·rw[show j=i by omega,hgd];exact c
    refine⟨l.length - (i+1),by omega,i+1,by omega,rfl,hw2,hx.trans hx2,?_,?_,?_,?_,hno2⟩
    all_goals simp only[Qq,simprocAttr,r0,r1,r7]
  ·have h2:i=l.length:=by have:=of_decide_eq_false h2;omega
   subst h2;have hany:(l.any λa=>a.k==2)=false:=by
    rw[List.any_eq_false];intro a ha;obtain⟨j,hj,e⟩:=List.mem_iff_getElem.1 ha;have:=hno j hj;rw[List.getD_eq_getElem?_getD,List.getElem?_eq_getElem hj]at this;rw[<- e];simpa using this
   simp only[Qc,simprocAttr,Q4];exact .mk hx.next ⟨by unfold Qmm;rw[hany,if_neg (by decide)],hx⟩
def Qax (H0 H:Qa) (v:Value) (l:List Ar):Prop:=(v=.slice none 0 0∧l=[])∨∃b,v=.slice (some ⟨b,0,none⟩) l.length l.length∧H0.next<=b∧b<H.next∧(0<l.length->H.get b=some (.cells (Qg l) Qd false))
theorem Qax.ars {H0 H:Qa} {v:Value} {l:List Ar} (h:Qax H0 H v l):QS H v l:=by
 rcases h with⟨rfl,rfl⟩ | ⟨b,rfl,_,_,h⟩
 ·exact⟨none,0,rfl,λh=>absurd h (Nat.lt_irrefl 0)⟩
 ·exact⟨_,_,rfl,λhl=>⟨b,_,_,rfl,h hl⟩⟩
theorem Qax.below {H0 H:Qa} {v:Value} {l:List Ar} (op:Int) (h:Qax H0 H v l) (n:Nat) (hn:H.next<=n):Qj n 6 (.agg #[.int .i64 op,v])=true:=by
 rcases h with⟨rfl,rfl⟩ | ⟨b,rfl,_,hb,h⟩
 ·simp[Qj,Ab.plain]
 ·simp[Qj,Ab.plain];omega
theorem Qax.go {H0 H H':Qa} {v:Value} {l:List Ar} (h:Qax H0 H v l) (hx:Ext H H'):Qax H0 H' v l:=by
 rcases h with h | ⟨b,rfl,h1,h2,h3⟩
 ·exact .inl h
 ·exact .inr ⟨b,rfl,h1,by have:=hx.next;omega,λhl=>by rw[hx.get b h2];exact h3 hl⟩
theorem Qax.down {H0 H1 H:Qa} {v:Value} {l:List Ar} (h:Qax H1 H v l) (hx:H0.next<=H1.next):Qax H0 H v l:=by
 rcases h with h | ⟨b,rfl,h1,h2⟩
 ·exact .inl h
 ·exact .inr ⟨b,rfl,by omega,h2⟩
theorem Qax.set {H0 H:Qa} {v:Value} {l:List Ar} (h:Qax H0 H v l) {p:Nat} (hp:p<H0.next) (x:Blk):Qax H0 (H.set p x) v l:=by
 rcases h with h | ⟨b,rfl,h1,h2,h3⟩
 ·exact .inl h
 ·exact .inr ⟨b,rfl,h1,by rw[Qa.next_set];exact h2,λhl=>by rw[Qa.get_set,if_neg (by omega)];exact h3 hl⟩
def Qxb (op:Int) (H0 H:Qa) (v:Value) (ws:List (List Ar)):Prop:=∃vs:List Value,vs.length=ws.length∧Gx 2 Qb H0 H v ws.length (Qmi op vs)∧∀ (j:Nat) s w,vs[j]? = some s->ws[j]? = some w->Qax H0 H s w∧0<w.length
theorem Qxb.go {op:Int} {H0 H H':Qa} {v:Value} {ws:List (List Ar)} (h:Qxb op H0 H v ws) (hw:H.Wf) (hx:Ext H H'):Qxb op H0 H' v ws:=by
 obtain⟨vs,h1,h2,h3⟩:=h;exact⟨vs,h1,h2.go hw hx,λj s w a b=>⟨(h3 j s w a b).1.go hx,(h3 j s w a b).2⟩⟩
theorem QpY:∀ (l:List Ar) (k:Nat) (s:Int),k<l.length->(Qg l).set (k * 11+9) (.int .i64 s)=Qg (Z2 l k s)
 | [],k,s,h=>absurd h (Nat.not_lt_zero _)
 | ⟨ak,⟨rc,rn⟩,⟨⟨bc,bn⟩,⟨ic,nn⟩,sc,d,sz⟩,n⟩::t,0,s,h=>rfl
 | ⟨ak,⟨rc,rn⟩,⟨⟨bc,bn⟩,⟨ic,nn⟩,sc,d,sz⟩,n⟩::t,k+1,s,h=>by
  have h1:=QpY t k s (Nat.lt_of_succ_lt_succ h);rw[show(k+1) * 11+9=(k * 11+9)+11 by omega];exact(congrArg (λz=>Ar.cells ⟨ak,⟨rc,rn⟩,⟨⟨bc,bn⟩,⟨ic,nn⟩,sc,d,sz⟩,n⟩++z) h1:_)
theorem Qu5 (l:List Ar) (k:Nat) (s:Int) (h:k<l.length):List.take (k * 11+3+6) (Qg l)++Value.int IntKind.i64 s::List.drop (k * 11+3+6+1) (Qg l)=Qg (Z2 l k s):=by
 rw[<- QpY l k s h,show k * 11+3+6=k * 11+9 by omega,List.set_eq_take_append_cons_drop,if_pos (by rw[QF];omega)]
theorem QCK {op:Int} {H0 H:Qa} {v x:Value} {ws:List (List Ar)} {m:List Ar} {k:Value->Qa->Prop} {b n:Nat} (h:Qxb op H0 H v ws) (hx:Ext H0 H) (hw:H.Wf) (ha:Qax H0 H (.slice (some ⟨b,0,none⟩) n n) m) (hm:0<m.length) (hsrc:ZB 2 x H=some (1,[.int .i64 op,.slice (some ⟨b,0,none⟩) n n])) (hn:ws.length<=1000)
  (hk:∀v' H',Qxb op H0 H' v' (ws++[m])->Ext H0 H'->H'.Wf->H.next<=H'.next->k v' H'):QfB Qb 2 32 v x H k:=by
 obtain⟨vs,e,hg,hi⟩:=h;have hkp:∀ {v':Value} {H':Qa} {s:Value} {w:List Ar},GK v v' H0 H H'->0<w.length->Qax H0 H s w->Qax H0 H' s w:=λhgk hl hna=>by
  rcases hna with h | ⟨b',rfl,h1,h2,h3⟩
  ·exact .inl h
  ·refine .inr ⟨b',rfl,h1,by have:=hgk.next;omega,λ_=>?_⟩;rw[hgk.keep b' h2 λhin=>?_]
   ·exact h3 hl
   ·obtain⟨o,n',c,rfl⟩:=hin;rcases hg with⟨h,_⟩ | ⟨b2,c2,h,_,h5,_⟩
    ·cases h
    ·cases h;have:=h3 hl;rw[h5]at this;injection this with this;injection this with _ this;exact absurd this (by decide)
 refine Qbi hg hx hw hsrc rfl rfl (by omega) (by omega) λv' H' hg' hgk=>?_;refine hk v' H' ⟨vs++[.slice (some ⟨b,0,none⟩) n n],by rw[List.length_append,List.length_append,e];rfl,?_,λj s w hs' hw'=>?_⟩ hgk.x hgk.w hgk.next
 ·rw[show Qmi op (vs++[.slice (some ⟨b,0,none⟩) n n])=Qmi op vs++[.int .i64 op,.slice (some ⟨b,0,none⟩) n n] by unfold Qmi;rw[List.flatMap_append];rfl,List.length_append];exact hg'
 ·rcases Nat.lt_or_ge j vs.length with hj | hj
  ·rw[List.getElem?_append_left hj]at hs';rw[List.getElem?_append_left (by omega)]at hw';obtain⟨h1,h2⟩:=hi j s w hs' hw';exact⟨hkp hgk h2 h1,h2⟩
  ·rw[List.getElem?_append_right hj]at hs';rw[List.getElem?_append_right (by omega),<- e]at hw';cases hjj:j - vs.length with
   | zero=>rw[hjj]at hs' hw';cases hs';cases hw';exact⟨hkp hgk hm ha,hm⟩
   | succ q=>rw[hjj]at hs';cases hs'
section
variable {T:Qa->Prop} {L:Int->List Fm} (hT:∀H H',H.Wf->T H->Ext H H'->T H') (hO:∀op H,T H->Qf prog WY [.int .i64 op] H λu H'=>Qo3 H H' u (L op))
include hT hO
theorem Qbs {op:Int} {va:Value} {l:List Ar} (H:Qa) (hTH:T H) (ha:QS H va l) (hva:∀n,H.next<=n->Qj n 6 (.agg #[.int .i64 op,va])=true) (hl:l.length<=1000) (hI:∀a∈l,I64 a.n):
  Qf prog ZI [.agg #[.int .i64 op,va]] H λu H'=>∃v,u=.tuple #[.agg #[.int .i64 (GZ (L op) op l).1,v],.int .i64 (GZ (L op) op l).2.2]∧Qax H H' v (GZ (L op) op l).2.1∧Ext H H':=by
 refine QlY λhw=>?_;obtain⟨a0,cap,rfl⟩:=Q0 ha;obtain⟨W,eW⟩:∃W,W=GZ (L op) op l:=⟨_,rfl⟩;rw[<- eW];unfold GZ at eW;simp only[Qex,Qbt,simprocAttr];generalize hH1:Qa.push H _=H1;have g1:H1.get H.next=some (.cells [.int .i64 op,.slice a0 l.length cap] Qb false):=by rw[<- hH1,Qa.get_push,if_pos rfl];rfl
 have hx1:Ext H H1:=by rw[<- hH1];exact(Ext.refl H).push _
 have hw1:H1.Wf:=by rw[<- hH1];exact hw.push _
 have hn1:H1.next=H.next+1:=by rw[<- hH1];rfl
 clear hH1;simp only[Qc,simprocAttr,hn1];generalize hH2:Qa.push H1 _=H2;have hx2:Ext H H2:=by rw[<- hH2];exact(hx1.push _)
 have hw2:H2.Wf:=by rw[<- hH2];exact(hw1.push _)
 have g2:H2.get H.next=some (.cells [.int .i64 op,.slice a0 l.length cap] Qb false):=by rw[<- hH2,Qa.get_push,if_neg (by omega)];exact g1
 have g2b:H2.get (H.next+1)=some (.cells [.int .i64 0,.slice none 0 0] Qb false):=by rw[<- hH2,Qa.get_push,if_pos (by omega)]
 have hn2:H2.next=H.next+2:=by rw[<- hH2,Qa.next_push,hn1]
 clear hH2;simp only[Qc,simprocAttr,g1,g2];refine(Za op _ l H2 (ha.ext hw hx2) hl hI).thenW ?_;rintro _ _ hn3 hw3 ⟨rfl,kk,rfl⟩;have hx23:Ext H2 (H2.up kk):=(Ext.refl H2).up hn3;generalize H2.up kk=H3 at *;have hx3:=hx2.trans hx23;have g3:H3.get H.next=some (.cells [.int .i64 op,.slice a0 l.length cap] Qb false):=by rw[hx23.get _ (by omega)];exact g2
 have g3b:H3.get (H.next+1)=some (.cells [.int .i64 0,.slice none 0 0] Qb false):=by rw[hx23.get _ (by omega)];exact g2b
 simp only[Qc,simprocAttr];cases he:QT op l==0 with
 | false=>
  rw[he,if_pos rfl]at eW;simp only[Qc,simprocAttr,Bool.not_false,g3b,W0];have hx4:=hx3.set (show H.next<=H.next+1 by omega) (.cells [.int .i64 0,.slice none 0 0] Qb false);exact .mk hx4.next ⟨_,by rw[eW],by rw[eW];exact .inl ⟨rfl,rfl⟩,hx4⟩
 | true=>
  rw[he,if_neg (by decide)]at eW;simp only[Qc,simprocAttr,Bool.not_true,g3];refine(hO op H3 (hT _ _ hw hTH hx3)).thenW ?_;rintro fv H4 hn4 hw4 ⟨hx34,ys,ey,hya,hyl,hyf⟩;have hx4:=hx3.trans hx34;have g4:H4.get H.next=some (.cells [.int .i64 op,.slice a0 l.length cap] Qb false):=by rw[hx34.get _ (hw3.lt g3)];exact g3
  have g4b:H4.get (H.next+1)=some (.cells [.int .i64 0,.slice none 0 0] Qb false):=by rw[hx34.get _ (hw3.lt g3b)];exact g3b
  simp only[Qc,simprocAttr,g4];refine(Qu4 _ l H4 (ha.ext hw hx4) hl).thenW ?_;rintro _ H5 hn5 hw5 ⟨rfl,hx45⟩;have hx5:=hx4.trans hx45;have g5:H5.get H.next=some (.cells [.int .i64 op,.slice a0 l.length cap] Qb false):=by rw[hx45.get _ (hw4.lt g4)];exact g4
  have g5b:H5.get (H.next+1)=some (.cells [.int .i64 0,.slice none 0 0] Qb false):=by rw[hx45.get _ (hw4.lt g4b)];exact g4b
  simp only[Qc,simprocAttr];have hcell:∀ (m:List Ar) (i:Nat) (a:Ar),m[i]? = some a->(Qg m)[i * 11+3+6]? = some (.int .i64 a.m.sz):=λm i a h=>by
   have h1:=congrArg (λl=>l[9]?) (Wx m i a h);simp only[List.getElem?_take,List.getElem?_drop]at h1;rw[show i * 11+3+6=i * 11+9 by omega];exact h1
  have hkeep:∀ (Hx:Qa),Ext H5 Hx->Hx.Wf->∀ (k:Value->Qa->Prop),(∀b Hy,Qax H5 Hy (.slice (some ⟨b,0,none⟩) l.length l.length) l->Ext H5 Hy->Hy.Wf->Hy.get (H.next+1)=some (.cells [.int .i64 0,.slice none 0 0] Qb false)->k (.agg #[.int .i64 op,.slice (some ⟨b,0,none⟩) l.length l.length]) Hy)->Qf prog Zg [.agg #[.int .i64 op,.slice a0 l.length cap]] Hx k:=λHx hxx hwx k hk=>by
   refine(Qe9 Hx ((ha.ext hw hx5).ext hw5 hxx) hl).thenW ?_;rintro _ Hy hny hwy ⟨b,rfl,q1,q2,q3,q4⟩;exact hk b Hy (.inr ⟨b,rfl,by have:=hxx.next;omega,q2,q3⟩) (hxx.trans q4) hwy (by rw[(hxx.trans q4).get _ (hw5.lt g5b)];exact g5b)
  have hfin:W=(op,l,0)->∀ (b:Nat) (Hy:Qa),Qax H5 Hy (.slice (some ⟨b,0,none⟩) l.length l.length) l->Ext H5 Hy->Ret H (λu H'=>∃v,u=.tuple #[.agg #[.int .i64 W.1,v],.int .i64 W.2.2]∧Qax H H' v W.2.1∧Ext H H') (.tuple #[.agg #[.int .i64 op,.slice (some ⟨b,0,none⟩) l.length l.length],.int .i64 0]) (Hy.set (H.next+1) (.cells [.int .i64 op,.slice (some ⟨b,0,none⟩) l.length l.length] Qb false)):=λhWe b Hy hn hxy=>by
   have hx9:=(hx5.trans hxy).set (show H.next<=H.next+1 by omega) (.cells [.int .i64 op,.slice (some ⟨b,0,none⟩) l.length l.length] Qb false);refine .mk hx9.next ⟨_,by rw[hWe],?_,hx9⟩;rw[hWe];exact(hn.set (by have:=hw5.lt g5b;omega) _).down hx5.next
  cases hk0:decide (Qmm l<0) with
  | true=>
   rw[hk0,Bool.true_or,Bool.true_or,if_pos rfl]at eW;simp only[Qc,simprocAttr,Bool.not_true,g5];refine hkeep H5 (.refl _) hw5 _ λb Hy hn hxy hwy hgy=>?_;simp only[Qc,simprocAttr,hgy,W0];exact hfin eW b Hy hn hxy
  | false=>
   have hk1:0<=Qmm l:=by have:=of_decide_eq_false hk0;omega
   rw[hk0,Bool.false_or]at eW;obtain⟨k,hkm⟩:∃k:Nat,Qmm l=k:=⟨(Qmm l).toNat,by omega⟩;have hkl:k<l.length:=by
    unfold Qmm at hkm;split at hkm
    ·rename_i hany;obtain⟨a,ha1,ha2⟩:=List.any_eq_true.1 hany;have:=List.findIdx_lt_length_of_exists (p:=λa=>a.k==2) ⟨a,ha1,ha2⟩;omega
    ·omega
   rw[hkm]at eW ⊢;have ek:(k:Int).toNat=k:=Int.toNat_natCast k;rw[ek]at eW;obtain⟨a,hka⟩:∃a,l[k]? = some a:=⟨_,List.getElem?_eq_getElem hkl⟩;have hgd:l.getD k Wi=a:=by simp[List.getD_eq_getElem?_getD,hka]
   rw[hgd]at eW;obtain⟨b,e,ro,rfl,hgb0⟩:=(show 0<l.length->∃b e ro,a0=some ⟨b,0,none⟩∧H.get b=some (.cells (Qg l) e ro) by obtain⟨_,_,e0,h1⟩:=ha;cases e0;exact h1) (by omega);have hgb:H5.get b=some (.cells (Qg l) e ro):=by rw[hx5.get b (hw.lt hgb0)];exact hgb0
   have d1:(0:Int)<=k∧(k:Int)<l.length:=by omega
   have hc9:=hcell l k a hka;simp only[Qc,simprocAttr,Bool.not_false,g5,d1,ek,hgb,hc9];cases hsz:a.m.sz==0 with
   | false=>
    rw[hsz,Bool.not_false,Bool.true_or,if_pos rfl]at eW;simp only[Qc,simprocAttr,Bool.not_true,Bool.not_false,g5];refine hkeep H5 (.refl _) hw5 _ λb Hy hn hxy hwy hgy=>?_;simp only[Qc,simprocAttr,hgy,W0];exact hfin eW b Hy hn hxy
   | true=>
    rw[hsz,Bool.not_true,Bool.false_or]at eW;simp only[Qc,simprocAttr,Bool.not_true,Bool.not_false,g5];refine(Qav H5 (ha.ext hw hx5) hl hI (hya.fms.ext hw4 hx45) (λx hx=>(hyf x hx).mono (Nat.zero_le _)) hyl).thenW ?_;rintro v6 H6 hn6 hw6 ⟨h6,hx56⟩;have h6:=h6.ls;rw[ey]at h6;obtain⟨a6,c6,rfl⟩:=h6.slc;have g6:H6.get H.next=some (.cells [.int .i64 op,.slice (some ⟨b,0,none⟩) l.length cap] Qb false):=by rw[hx56.get _ (hw5.lt g5)];exact g5
    simp only[Qc,simprocAttr,Qm];refine Qh (λh=>?_) (λh=>?_)
    ·have hne:(!(Jn (L op) op l).isEmpty)=true:=by
      have:=of_decide_eq_true h;cases hq:(Jn (L op) op l) with
      | nil=>rw[hq]at this;simp at this
      | cons _ _=>rfl
     rw[hne,if_pos rfl]at eW;simp only[Qc,simprocAttr,g6];refine hkeep H6 hx56 hw6 _ λb Hy hn hxy hwy hgy=>?_;simp only[Qc,simprocAttr,hgy,W0];exact hfin eW b Hy hn hxy
    ·have hne:(!(Jn (L op) op l).isEmpty)=false:=by
      have:=of_decide_eq_false h;cases hq:(Jn (L op) op l) with
      | nil=>rfl
      | cons _ _=>rw[hq]at this;simp at this
     rw[hne,if_neg (by decide)]at eW;simp only[Qc,simprocAttr];have e7:H6.push (.cells [.int .i64 1,.int .i64 2,.int .i64 4,.int .i64 8,.int .i64 16,.int .i64 32] 3 false)=H6.push (.cells (ints [1,2,4,8,16,32]) 3 false):=rfl;rw[e7];have g7:(H6.push (.cells (ints [1,2,4,8,16,32]) 3 false)).get H6.next=some (.cells (ints [1,2,4,8,16,32]) 3 false):=by rw[Qa.get_push,if_pos rfl]
     have hx67:=(Ext.refl H6).push (.cells (ints [1,2,4,8,16,32]) 3 false);have hw7:=hw6.push (.cells (ints [1,2,4,8,16,32]) 3 false);clear e7;generalize H6.push (.cells (ints [1,2,4,8,16,32]) 3 false)=H7 at *;generalize hZ:([1,2,4,8,16,32]:List Int)=Z at *;have hZl:Z.length=6:=by rw[<- hZ];rfl
     have e6:(.int .i64 6:Value)=.int .i64 (Z.length:Int):=by rw[hZl];rfl
     have e66:Value.slice (some ⟨H6.next,0,none⟩) 6 6=.slice (some ⟨H6.next,0,none⟩) Z.length Z.length:=by rw[hZl]
     have hx57:=hx56.trans hx67;refine Qu (λq A' H'=>∃i:Nat,i<=Z.length∧q=Z.length - i∧H'.Wf∧Ext H7 H'∧Qxb op H7 H' (A' 7) (((Z.take i).filter (Qk9 (L op) op l k)).map (Z2 l k))∧A' 1=.pointer (some ⟨H.next,0,none⟩)∧A' 2=.pointer (some ⟨H.next+1,0,none⟩)∧A' 5=fv∧A' 6=.int .i64 k∧A' 44=.slice (some ⟨H6.next,0,none⟩) Z.length Z.length∧A' 45=.int .i64 Z.length∧A' 46=.int .i64 i) Z.length ?_ ?_
     ·refine⟨0,Nat.zero_le _,by omega,hw7,.refl _,?_,?_,?_,?_,?_,?_,?_,?_⟩
      ·simp only[Qq,simprocAttr];exact⟨[],rfl,.inl ⟨rfl,rfl,rfl⟩,λj s w h=>by simp at h⟩
      all_goals simp only[Qq,simprocAttr,e6,e66]
      all_goals rfl
     ·rintro q A' H' ⟨i,hi,rfl,hw',hx',hsz',r1,r2,r5,r6,r44,r45,r46⟩;simp only[Qc,simprocAttr,r45,r46];refine Qh (λh2=>?_) (λh2=>?_)
      ·have h2:i<Z.length:=by have:=of_decide_eq_true h2;omega
       obtain⟨s,hsi⟩:∃s,Z[i]? = some s:=⟨_,List.getElem?_eq_getElem h2⟩;have hsc:(ints Z)[i]? = some (.int .i64 s):=by unfold ints;rw[List.getElem?_map,hsi];rfl
       have dz:(0:Int)<=i∧(i:Int)<Z.length:=by omega
       have ez:(i:Int).toNat=i:=by omega
       have ei:IntKind.i64.wrap ((i:Int)+1)=((i+1:Nat):Int):=by rw[w64 (by unfold I64;omega)];omega
       have g7':H'.get H6.next=some (.cells (ints Z) 3 false):=by rw[hx'.get _ (hw7.lt g7)];exact g7
       have gI:H'.get H.next=some (.cells [.int .i64 op,.slice (some ⟨b,0,none⟩) l.length cap] Qb false):=by rw[(hx57.trans hx').get _ (hw5.lt g5)];exact g5
       simp only[Qc,simprocAttr,r1,r2,r5,r6,r44,r46,dz,ez,g7',hsc,gI];refine(Qe9 H' ((ha.ext hw hx5).ext hw5 (hx57.trans hx')) hl).thenW ?_;rintro _ H8 hn8 hw8 ⟨b8,rfl,q1,q2,q3,q4⟩;have g8:=q3 (by omega);have nb8:¬b8=H8.next:=by omega
       simp only[Qc,simprocAttr,nb8,if_false,g8,d1,ek,r6];have nb9:¬H8.next=b8:=λh=>nb8 h.symm;have hle9:k * 11+3+6+1<=(Qg l).length:=by rw[QF];omega
       rw[Qu5 l k s hkl];have hlr:(Z2 l k s).length=l.length:=by unfold Z2;rw[List.length_set]
       have hIr:∀x∈Z2 l k s,I64 x.n:=λx hx=>by
        rcases List.mem_or_eq_of_mem_set hx with h | rfl
        ·exact hI x h
        ·rw[hgd];exact hI a (List.mem_of_getElem? hka)
       simp only[nb9,if_false];refine⟨hle9,?_⟩;obtain⟨H9,e9⟩:∃H9,H9=((H8.push (.cells [.int .i64 0,.slice none 0 0] Qb false)).set H8.next (.cells [.int .i64 op,.slice (some ⟨b8,0,none⟩) l.length l.length] Qb false)).set b8 (.cells (Qg (Z2 l k s)) Qd false):=⟨_,rfl⟩;rw[<- e9];have hx9:Ext H' H9:=by rw[e9];exact((q4.push _).set (by have:=q4.next;omega) _).set q1 _
       have hw9:H9.Wf:=by rw[e9];exact((hw8.push _).set (by rw[Qa.get_push,if_pos rfl]) _).set (by rw[Qa.get_set,if_neg nb8,Qa.get_push,if_neg nb8];exact g8) _
       have gb9:H9.get b8=some (.cells (Qg (Z2 l k s)) Qd false):=by rw[e9,Qa.get_set,if_pos rfl]
       have gn9:H9.get H8.next=some (.cells [.int .i64 op,.slice (some ⟨b8,0,none⟩) l.length l.length] Qb false):=by rw[e9,Qa.get_set,if_neg nb9,Qa.get_set,if_pos rfl]
       have hn9:Qax H7 H9 (.slice (some ⟨b8,0,none⟩) l.length l.length) (Z2 l k s):=.inr ⟨b8,by rw[hlr],by have:=hx'.next;omega,hw9.lt gb9,λ_=>gb9⟩;clear e9;simp only[Qc,simprocAttr,gn9];refine(Za op _ (Z2 l k s) H9 hn9.ars (by omega) hIr).thenW ?_;rintro _ _ hn10 hw10 ⟨rfl,kc,rfl⟩;have hx910:Ext H9 (H9.up kc):=(Ext.refl H9).up hn10;generalize H9.up kc=H10 at *;have hxA:=hx9.trans hx910;have hnA:=hn9.go hx910;have gnA:H10.get H8.next=some (.cells [.int .i64 op,.slice (some ⟨b8,0,none⟩) l.length l.length] Qb false):=by rw[hx910.get _ (hw9.lt gn9)];exact gn9
       have htk:(Z.take (i+1)).filter (Qk9 (L op) op l k)=(Z.take i).filter (Qk9 (L op) op l k)++(if Qk9 (L op) op l k s=true then[s] else[]):=by rw[List.take_add_one,hsi,List.filter_append];congr 1;simp only[Option.toList,List.filter_cons,List.filter_nil]
       have hzl:(((Z.take i).filter (Qk9 (L op) op l k)).map (Z2 l k)).length<=1000:=by
        rw[List.length_map];exact Nat.le_trans (List.length_filter_le _ _) (by rw[List.length_take];omega)
       simp only[Qc,simprocAttr];cases hc:QT op (Z2 l k s)==0 with
       | false=>
        have hzo:Qk9 (L op) op l k s=false:=by unfold Qk9;rw[hc];rfl
        simp only[Qc,simprocAttr,r46,ei];refine⟨Z.length - (i+1),by omega,i+1,by omega,rfl,hw10,hx'.trans hxA,?_,?_,?_,?_,?_,?_,?_,?_⟩
        ·simp only[Qq,simprocAttr];rw[htk,hzo,if_neg (by decide),List.append_nil];exact hsz'.go hw' hxA
        all_goals simp only[Qq,simprocAttr,r1,r2,r5,r6,r44,r45]
       | true=>
        simp only[Qc,simprocAttr,gnA,r5];have hfA:=(hya.fms.ext hw4 hx45).ext hw5 ((hx57.trans hx').trans hxA);refine(Qav H10 hnA.ars (by omega) hIr hfA (λx hx=>(hyf x hx).mono (Nat.zero_le _)) hyl).thenW ?_;rintro v11 H11 hn11 hw11 ⟨h11,hx11⟩;have h11:=h11.ls;rw[ey]at h11;obtain⟨a11,c11,rfl⟩:=h11.slc;have hxB:=hxA.trans hx11;simp only[Qc,simprocAttr,Qm];refine Qh (λh2=>?_) (λh2=>?_)
        ·have hzo:Qk9 (L op) op l k s=true:=by
          have:=of_decide_eq_true h2;unfold Qk9;rw[hc];cases hq:Jn (L op) op (Z2 l k s) with
          | nil=>rw[hq]at this;simp at this
          | cons _ _=>rfl
         have gnB:H11.get H8.next=some (.cells [.int .i64 op,.slice (some ⟨b8,0,none⟩) l.length l.length] Qb false):=by rw[hx11.get _ (hw10.lt gnA)];exact gnA
         simp only[Qc,simprocAttr,gnB];generalize hH12:H11.push _=H12;have hx12:Ext H11 H12:=by rw[<- hH12];exact(Ext.refl _).push _
         have hw12:H12.Wf:=by rw[<- hH12];exact hw11.push _
         have g12:H12.get H11.next=some (.cells [.int .i64 op,.slice (some ⟨b8,0,none⟩) l.length l.length] Qb false):=by rw[<- hH12,Qa.get_push,if_pos rfl]
         clear hH12;have hsrc:ZB 2 (.slice (some ⟨H11.next,0,none⟩) 1 1) H12=some (1,[.int .i64 op,.slice (some ⟨b8,0,none⟩) l.length l.length]):=by rw[G6 g12 (by decide) (by simp)];rfl
         refine QCK (hsz'.go hw' (hxB.trans hx12)) (hx'.trans (hxB.trans hx12)) hw12 ((hnA.go hx11).go hx12) (by omega) hsrc hzl λv' H13 hs13 hx13 hw13 hn13=>?_;simp only[Qc,simprocAttr,r46,ei];refine⟨Z.length - (i+1),by omega,i+1,by omega,rfl,hw13,hx13,?_,?_,?_,?_,?_,?_,?_,?_⟩
         ·simp only[Qq,simprocAttr];rw[htk,if_pos hzo,List.map_append];exact hs13
         all_goals simp only[Qq,simprocAttr,r1,r2,r5,r6,r44,r45]
        ·have hzo:Qk9 (L op) op l k s=false:=by
          have:=of_decide_eq_false h2;unfold Qk9;rw[hc];cases hq:Jn (L op) op (Z2 l k s) with
          | nil=>rfl
          | cons _ _=>rw[hq]at this;simp at this
         simp only[Qc,simprocAttr,r46,ei];refine⟨Z.length - (i+1),by omega,i+1,by omega,rfl,hw11,hx'.trans hxB,?_,?_,?_,?_,?_,?_,?_,?_⟩
         ·simp only[Qq,simprocAttr];rw[htk,hzo,if_neg (by decide),List.append_nil];exact hsz'.go hw' hxB
         all_goals simp only[Qq,simprocAttr,r1,r2,r5,r6,r44,r45]
      ·have h2:i=Z.length:=by have:=of_decide_eq_false h2;omega
       subst h2;rw[List.take_length]at hsz';obtain⟨vs,ev,hg,hit⟩:=hsz';obtain⟨a7,c7,e7⟩:=hg.slc;have g2':H'.get (H.next+1)=some (.cells [.int .i64 0,.slice none 0 0] Qb false):=by rw[(hx57.trans hx').get _ (hw5.lt g5b)];exact g5b
       have hxE:=hx5.trans (hx57.trans hx');generalize Z.filter (Qk9 (L op) op l k)=F at *;simp only[Qc,simprocAttr,e7,Qm,List.length_map];have hx10:∀v n,Ext H (H'.set (H.next+1) (.cells [.int .i64 n,v] Qb false)):=λv n=>hxE.set (by omega) _;rcases F with _ | ⟨s,_ | ⟨s2,F⟩⟩
       ·have h0:(((([]:List Int).length:Nat):Int)==0)=true:=rfl;simp only[h0,Qc,simprocAttr,r2,g2',W0];exact .mk (hx10 _ _).next ⟨_,by rw[eW],by rw[eW];exact .inl ⟨rfl,rfl⟩,hx10 _ _⟩
       ·have h0:(((([s]:List Int).length:Nat):Int)==0)=false:=rfl;have h1:(((([s]:List Int).length:Nat):Int)==1)=true:=rfl;have dl:(0:Int)<=0∧(0:Int)<(([s]:List Int).length:Nat):=⟨by omega,Int.zero_lt_one⟩;obtain⟨v0,rfl⟩:∃v0,vs=[v0]:=List.length_eq_one_iff.1 (by rw[ev];rfl);rcases hg with⟨_,h,_⟩ | ⟨b7,c,e7',hb7,hgb7,_⟩
        ·exact absurd h (Nat.one_ne_zero)
        ·rw[e7]at e7';cases e7';have hgb7:H'.get b7=some (.cells [.int .i64 op,v0] Qb false):=hgb7;have hna:=(hit 0 v0 _ rfl rfl).1;have ho:v0.oneCell'=true:=by rcases hna with⟨rfl,_⟩ | ⟨b,rfl,_⟩<;>rfl
         simp only[h0,h1,dl,Qc,simprocAttr,r2,g2',e7,hgb7,ho,W0];refine .mk (hx10 _ _).next ⟨_,by rw[eW],?_,hx10 _ _⟩;rw[eW];exact(hna.set (by have:=hw5.lt g5b;have:=hx57.next;omega) _).down (by have:=hx5.next;have:=hx57.next;omega)
       ·have h0:(((F.length+1+1:Nat):Int)==0)=false:=by simp;omega
        have h1:(((F.length+1+1:Nat):Int)==1)=false:=by simp;omega
        simp only[List.length_cons,h0,h1,Qc,simprocAttr,r2,g2',W0];exact .mk (hx10 _ _).next ⟨_,by rw[eW],by rw[eW];exact .inl ⟨rfl,rfl⟩,hx10 _ _⟩
end
theorem Qv8 {A:Env} {H:Qa} {k:Value->Qa->Prop} {t e:TypeId} {x:Operand} {a:Option Addr} {n c:Nat} (ht:prog.underlying t=some (.slice e)) (hx:ev A x=.slice a n c) (hc:c<UNK):pr prog (.gen (.call ⟨.builtin .cap,#[x],#[t]⟩)) false A H k=k (.int .i64 c) H:=by
 have hb:Nat.blt c UNK=true:=by simpa using hc
 have e1:rop prog (.gen (.call ⟨.builtin .cap,#[x],#[t]⟩)) A H=some (.int .i64 c,H):=by
  simp only[rop,aop,Qcv,ht,hx,hb,cond_true]
 refine(Q9 _).trans ?_;rw[e1,Qw]
theorem Qkc (l:List Int) (b n:Nat) (e:TypeId) (H:Qa) (hg:H.get b=some (.cells (bys l) e false)) (hn:n<=l.length) (hl:l.length<UNK):Qf prog Xl [.slice (some ⟨b,0,none⟩) n l.length] H λu H3=>u=.tuple #[]∧H3.next=H.next∧∀id,id≠b->H3.get id=H.get id:=by
 refine JJ λhw=>?_;have hs:Yp 1 (.slice (some ⟨b,0,none⟩) n l.length) none (some (l.length:Int)) none=some (.slice (some ⟨b,0,none⟩) l.length l.length):=by
  unfold Yp;have k1:¬UNK<=l.length:=by omega
  have k2:(0:Int)<=0∧(0:Int)<=(l.length:Int)∧(l.length:Int)<=(l.length:Int)∧(l.length:Int)<=(l.length:Int):=by omega
  simp only[Option.getD_none,Option.getD_some];rw[if_neg k1,if_pos k2];simp
 simp only[Yl,Qc,simprocAttr];rw[Qv8 (e:=5) (a:=some ⟨b,0,none⟩) (n:=n) (c:=l.length) (by kernel_rfl) (by simp only[Qq,simprocAttr]) hl];simp only[Qc,simprocAttr,hs];have hb:=hw.lt hg;have hl63:l.length<=9223372036854775807:=by unfold UNK at hl;omega
 refine Qu (λm A' H'=>∃ (i:Nat) (c:List Int),i<=l.length∧m=l.length - i∧H'.Wf∧c.length=l.length∧H'.next=H.next∧(∀id,id≠b->H'.get id=H.get id)∧H'.get b=some (.cells (bys c) e false)∧A' 2=.slice (some ⟨b,0,none⟩) l.length l.length∧A' 3=.int .i64 i) l.length ?_ ?_
 ·refine⟨0,l,Nat.zero_le _,by omega,hw,rfl,rfl,λ_ _=>rfl,hg,?_,?_⟩
  all_goals simp only[Qq,simprocAttr]
  all_goals rfl
 ·rintro m A' H3 ⟨i,c,hi,rfl,hw3,hcl,hn3,hge,hg3,r2,r3⟩;simp only[XF,Z1,Qc,simprocAttr,r2,r3,Qm];refine Qh (λh2=>?_) (λh2=>?_)
  ·have h2:i<l.length:=by have:=of_decide_eq_true h2;omega
   have c1:(0:Int)<=i∧(i:Int)<l.length:=by omega
   have c3:(i:Int).toNat=i:=by omega
   have ei:IntKind.i64.wrap ((i:Int)+1)=((i+1:Nat):Int):=by rw[w64 (by unfold I64;omega)];omega
   have hic:i<c.length:=by omega
   have g1:(bys c)[i]? = some (.int .u8 (c.getD i 0)):=by simp[bys,List.getElem?_eq_getElem hic,List.getD]
   have hlt:i+1<=(bys c).length:=by rw[Yt];omega
   simp only[Qc,simprocAttr,r2,r3,c1,c3,hg3,g1,hlt,ei];refine⟨l.length - (i+1),by omega,i+1,c.set i (IntKind.u8.wrap ((BitVec.ofInt IntKind.u8.bits (c.getD i 0) ^^^ BitVec.ofInt IntKind.u8.bits 90).toNat:Nat)),by omega,rfl,hw3.set hg3 _,by rw[List.length_set,hcl],hn3,λid hid=>by rw[Qa.get_set,if_neg hid];exact hge id hid,?_,?_,?_⟩
   ·rw[Qa.get_set,if_pos rfl];congr 2;unfold bys;rw[List.map_set];rw[List.set_eq_take_append_cons_drop,if_pos (by rw[List.length_map];exact hic)]
    try rfl
   all_goals simp only[Qq,simprocAttr,r2]
  ·simp only[Qc,simprocAttr,Ji];exact .mk (by omega) ⟨rfl,hn3,hge⟩
theorem QAW {H0:Qa} (v:Value) (l:List Int) (H:Qa) (hr:Gx 1 5 H0 H v l.length (bys l)) (hz:∀z∈l,0<=z∧z<256) (hl:l.length<=1000000):Qf prog Xl [v] H λu H'=>u=.tuple #[]∧H'.next=H.next∧∀id,¬inB v id->H'.get id=H.get id:=by
 have hU:(1000000:Nat)<UNK:=by unfold UNK;decide
 rcases hr with⟨rfl,h2,h3⟩ | ⟨b,c,rfl,h2,h3,h4,h5⟩
 ·refine JJ λhw=>?_;have hs:Yp 1 (.slice none 0 0) none (some (0:Int)) none=some (.slice none 0 0):=rfl;simp only[Yl,Qc,simprocAttr];rw[Qv8 (e:=5) (a:=none) (n:=0) (c:=0) (by kernel_rfl) (by simp only[Qq,simprocAttr]) (by unfold UNK;decide)];have z0:((0:Nat):Int)=0:=rfl;simp only[Qc,simprocAttr,z0,hs];refine Qu (λm A' H'=>H'=H∧A' 2=.slice none 0 0∧A' 3=.int .i64 0) 0 ?_ ?_
  ·refine⟨rfl,?_,?_⟩
   all_goals simp only[Qq,simprocAttr]
  ·rintro m A' H' ⟨rfl,r2,r3⟩;simp only[XF,Qc,simprocAttr,r2,r3,z0,Qm];refine Qh (λh=>absurd (of_decide_eq_true h) (by simp)) (λh=>?_);simp only[Qc,simprocAttr,Ji];exact .mk (Nat.le_refl _) ⟨rfl,rfl,λ_ _=>rfl⟩
 ·have fin:∀ {id:Nat},¬inB (.slice (some ⟨b,0,none⟩) l.length c) id->id≠b:=λhid h=>hid ⟨0,l.length,c,by rw[h]⟩;rcases h5 with rfl | ⟨rfl,_⟩
  ·refine(Qkc l b l.length 5 H h3 (Nat.le_refl _) (by omega)).mono ?_;rintro u H3 ⟨h6,h7,h8⟩;exact⟨h6,h7,λid hid=>h8 id (fin hid)⟩
  ·have hb:∀v∈bys l,∃z:Int,v=.int .u8 z∧0<=z∧z<256:=λv hv=>by
    obtain⟨z,hz',rfl⟩:=List.mem_map.1 hv;exact⟨z,rfl,hz z hz'⟩
   refine(Qxc (v:=.tuple #[]) (n:=l.length) (by kernel_rfl) (by kernel_rfl) h3 hb λl' h1 h4 h5=>?_).mono ?_
   ·refine(Qkc l' b l.length 5 _ (by rw[Qa.get_set,if_pos rfl];rfl) h4 h5).mono ?_;rintro u H3 ⟨h6,h7,h8⟩;exact⟨h6,h7,λid hid=>by rw[h8 id hid,Qa.get_set,if_neg hid]⟩
   ·rintro u H' ⟨rfl,rfl⟩;exact⟨rfl,Qa.next_kill ..,λid hid=>by rw[Qa.get_kill,if_neg (fin hid)]⟩
theorem QmH {ss:List Value} {ws:List Ld} {i:Nat} {s:Value} {w:Ld} (h1:ss[i]? = some s) (h2:ws[i]? = some w):(ldC ss ws)[i * 3+0]? = some s∧(ldC ss ws)[i * 3+1]? = some (.int .i64 w.x)∧(ldC ss ws)[i * 3+2]? = some (.int .i64 w.h):=by
 have h:=Qn8 ss ws i s w h1 h2;have k:∀j,j<3->(ldC ss ws)[i * 3+j]? = [s,.int .i64 w.x,.int .i64 w.h][j]? := λj hj=>by rw[<- h,List.getElem?_take,if_pos hj,List.getElem?_drop]
 exact⟨k 0 (by decide),k 1 (by decide),k 2 (by decide)⟩
theorem Qu6 {Hl Hx:Qa} {va vb:Value} {W:List Ld} {U:Nat} (H:Qa) (hwx:Hx.Wf) (hxx:Ext Hx H) (ha:LsU Ql Hx H va W U) (hb:XE Ql Hl Hx vb W) (hz:∀w∈W,(∀z∈w.b,0<=z∧z<256)∧w.b.length<=1000000) (hW:W.length<=1000000):
  Qf prog ZJ [va,vb] H λu H'=>u=.bool true∧Ext Hx H':=by
 refine Qfh λhw=>?_;obtain⟨ca,cc,rfl⟩:=ha.ls.slc;obtain⟨da,dc,rfl⟩:=hb.slc;obtain⟨ss,hsl,hgs,hit,hinc⟩:=ha.it;obtain⟨tt,htl,hgt,hjt⟩:=hb.it;have ne:((W.length:Int)==W.length)=true:=by simp
 simp only[K3,Kg,Qc,simprocAttr,Qm,ne,Bool.not_true];refine Qu (λm A' H'=>∃i:Nat,i<=W.length∧m=W.length - i∧H'.Wf∧Ext Hx H'∧H.next<=H'.next∧(∀b,inB (.slice ca W.length cc) b->H'.get b=H.get b)∧(∀ (j:Nat) s b,i<=j->ss[j]? = some s->inB s b->H'.get b=H.get b)∧A' 0=.slice ca W.length cc∧A' 1=.slice da W.length dc∧A' 5=.int .i64 i) W.length ?_ ?_
 ·refine⟨0,Nat.zero_le _,by omega,hw,hxx,Nat.le_refl _,λ_ _=>rfl,λ_ _ _ _ _ _=>rfl,?_,?_,?_⟩
  all_goals simp only[Qq,simprocAttr]
  all_goals rfl
 ·rintro m A' H' ⟨i,hi,rfl,hw',hx',hn',hk1,hk2,r0,r1,r5⟩;simp only[Kf,Qc,simprocAttr,r0,r5,Qm];refine Qh (λh2=>?_) (λh2=>?_)
  ·have h2:i<W.length:=by have:=of_decide_eq_true h2;omega
   obtain⟨w,hwi⟩:∃w,W[i]? = some w:=⟨_,List.getElem?_eq_getElem h2⟩;obtain⟨sv,hsv⟩:∃sv,ss[i]? = some sv:=⟨_,List.getElem?_eq_getElem (by omega)⟩;obtain⟨tv,htv⟩:∃tv,tt[i]? = some tv:=⟨_,List.getElem?_eq_getElem (by omega)⟩;have hs':=(hit i sv w hsv hwi).ext (H':=H') λid hid=>hk2 i sv id (Nat.le_refl _) hsv hid;have ht':=(hjt i tv w htv hwi).go hwx hx';obtain⟨s0,s1,s2⟩:=QmH hsv hwi;obtain⟨t0,t1,t2⟩:=QmH htv hwi;obtain⟨b,hb1,rfl,hgb⟩:∃b,Hx.next<=b∧ca=some ⟨b,0,none⟩∧H'.get b=some (.cells (ldC ss W) Ql false):=by
    rcases hgs with⟨h,h',_⟩ | ⟨b,c,h,q1,q2,_⟩
    ·omega
    ·cases h;exact⟨b,q1,rfl,by rw[hk1 b ⟨_,_,_,rfl⟩];exact q2⟩
   obtain⟨d,rfl,hgd⟩:∃d,da=some ⟨d,0,none⟩∧H'.get d=some (.cells (ldC tt W) Ql false):=by
    rcases hgt with⟨h,h',_⟩ | ⟨d,c,h,q1,q2,_⟩
    ·omega
    ·cases h;exact⟨d,rfl,by rw[hx'.get d (hwx.lt q2)];exact q2⟩
   have d1:(0:Int)<=i∧(i:Int)<W.length:=by omega
   have d3:(i:Int).toNat=i:=by omega
   have ei:IntKind.i64.wrap ((i:Int)+1)=((i+1:Nat):Int):=by rw[w64 (by unfold I64;omega)];omega
   have nx:(w.x==w.x)=true:=by simp
   have nh:(w.h==w.h)=true:=by simp
   have s0':=s0;have t0':=t0;rw[Nat.add_zero]at s0' t0';simp only[Ke,Qc,simprocAttr,r0,r1,r5,d1,d3,hgb,hgd,s0,s1,s2,t0,t1,t2,s0',t0',nx,nh,Bool.not_true];refine(QvV _ _ w.b w.b H' hs' ht').thenW ?_;rintro _ H' _ _ ⟨rfl,rfl⟩;have e5:=Qoa w.b;simp only[Qc,simprocAttr,e5,Bool.not_true,r0,r5,d1,d3,hgb,s0,s0'];obtain⟨hz1,hz2⟩:=hz w (List.mem_of_getElem? hwi);refine(QAW sv w.b H' hs' hz1 hz2).thenW ?_;rintro _ H3 hn3 hw3 ⟨rfl,hn3',hk3⟩;simp only[Qc,simprocAttr,r5,ei];refine⟨W.length - (i+1),by omega,i+1,by omega,rfl,hw3,?_,by omega,λb' hb'=>?_,λj s b' hj hs hb'=>?_,?_,?_,?_⟩
   ·refine⟨by have:=hx'.next;omega,λid hid=>?_⟩;rw[hk3 id λh=>by have:=(hs'.low hw' h).1;omega];exact hx'.get id hid
   ·rw[hk3 b' λh=>?_]
    ·exact hk1 b' hb'
    ·obtain⟨_,_,_,e1⟩:=hb';cases e1;rcases hs' with⟨e2,_⟩ | ⟨b2,c2,e2,_,h5,_⟩
     ·rw[e2]at h;obtain⟨_,_,_,h⟩:=h;cases h
     ·rw[e2]at h;obtain⟨_,_,_,h⟩:=h;cases h;rw[hgb]at h5;injection h5 with h5;injection h5 with _ h5;exact absurd h5 (by decide)
   ·rw[hk3 b' λh=>?_]
    ·exact hk2 j s b' (by omega) hs hb'
    ·obtain⟨p1,p2⟩:=List.getElem?_eq_some_iff.1 hsv;obtain⟨p3,p4⟩:=List.getElem?_eq_some_iff.1 hs;exact absurd (List.pairwise_iff_getElem.1 hinc.1 i j p1 p3 (by omega) b' b' (p2▸h) (p4▸hb')) (Nat.lt_irrefl _)
   all_goals simp only[Qq,simprocAttr,r0,r1]
  ·simp only[Qc,simprocAttr,Qet];exact .mk (by omega) ⟨rfl,hx'⟩
theorem QiA {P:Program} {f:Nat} {t:TypeId} {fs:Array Field} {xs ys:Array Value} (h:P.underlying t=some (.struct fs)) (hs:P.stoodInHeld t=false):aeq P (f+1) t (.agg xs) (.agg ys)=WJ P (aeq P f) fs.toList xs ys:=by
 unfold aeq;rw[h];simp[hs]
theorem Qeu {P:Program} {f:Nat} {t:TypeId} {k:IntKind} {a b:Int} (h:P.underlying t=some (.int k)):aeq P (f+1) t (.int k a) (.int k b)=some (a==b):=by
 unfold aeq;rw[h];simp
theorem YE {P:Program} {eq:TypeId->Value->Value->Option Bool} {fd:Field} {fs:List Field} {xs ys:Array Value} {a b:Value} {r s:Bool} (hn:(fd.name == "_")=false) (ha:Vh P fd.type xs fd.offset=some a) (hb:Vh P fd.type ys fd.offset=some b) (he:eq fd.type a b=some r) (hr:WJ P eq fs xs ys=some s):
  WJ P eq (fd::fs) xs ys=some (r&&s):=by
 have hn':¬fd.name = "_" := by simpa using hn
 show(if fd.name = "_" then WJ P eq fs xs ys else match Vh P fd.type xs fd.offset,Vh P fd.type ys fd.offset with
  | some a,some b=>match eq fd.type a b with
   | some true=>WJ P eq fs xs ys
   | r=>r
  | _,_=>none)=_
 rw[if_neg hn',ha,hb];simp only[he];cases r
 ·rfl
 ·rw[hr];rfl
theorem Qog {P:Program} {eq:TypeId->Value->Value->Option Bool} {xs ys:Array Value}:WJ P eq [] xs ys=some true:=rfl
theorem Qoh:prog.underlying 3=some (.int .i64):=by kernel_rfl
theorem QCL:prog.underlying QJ=some (.struct #[⟨ "Class",3,0,false, "", "",0⟩,⟨ "N",3,1,false, "", "",8⟩]):=by kernel_rfl
theorem QCM:prog.underlying QK=some (.struct #[⟨ "Base",QJ,0,false, "", "",0⟩,⟨ "Index",QJ,2,false, "", "",16⟩,⟨ "Scale",3,4,false, "", "",32⟩,⟨ "Disp",3,5,false, "", "",40⟩,⟨ "Size",3,6,false, "", "",48⟩]):=by kernel_rfl
theorem QCN:prog.underlying Qd=some (.struct #[⟨ "Kind",3,0,false, "", "",0⟩,⟨ "R",QJ,1,false, "", "",8⟩,⟨ "M",QK,3,false, "", "",24⟩,⟨ "N",3,10,false, "", "",80⟩]):=by kernel_rfl
theorem Qrx (f:Nat) (a b c d:Int):aeq prog (f+2) QJ (.agg #[.int .i64 a,.int .i64 b]) (.agg #[.int .i64 c,.int .i64 d])=some ((a==c)&&((b==d)&&true)):=by
 rw[QiA QCL (by kernel_rfl)];exact YE (by rfl) (a:=.int .i64 a) (b:=.int .i64 c) (by kernel_rfl) (by kernel_rfl) (Qeu Qoh) (YE (by rfl) (a:=.int .i64 b) (b:=.int .i64 d) (by kernel_rfl) (by kernel_rfl) (Qeu Qoh) Qog)
theorem QAX (f:Nat) (a1 a2 a3 a4 a5 a6 a7 b1 b2 b3 b4 b5 b6 b7:Int):aeq prog (f+3) QK (.agg #[.int .i64 a1,.int .i64 a2,.int .i64 a3,.int .i64 a4,.int .i64 a5,.int .i64 a6,.int .i64 a7]) (.agg #[.int .i64 b1,.int .i64 b2,.int .i64 b3,.int .i64 b4,.int .i64 b5,.int .i64 b6,.int .i64 b7]) =
  some (((a1==b1)&&((a2==b2)&&true))&&(((a3==b3)&&((a4==b4)&&true))&&((a5==b5)&&((a6==b6)&&((a7==b7)&&true))))):=by
 rw[QiA QCM (by kernel_rfl)];exact YE (by rfl) (a:=.agg #[.int .i64 a1,.int .i64 a2]) (b:=.agg #[.int .i64 b1,.int .i64 b2]) (by kernel_rfl) (by kernel_rfl) (Qrx f _ _ _ _)
  (YE (by rfl) (a:=.agg #[.int .i64 a3,.int .i64 a4]) (b:=.agg #[.int .i64 b3,.int .i64 b4]) (by kernel_rfl) (by kernel_rfl) (Qrx f _ _ _ _)
  (YE (by rfl) (a:=.int .i64 a5) (b:=.int .i64 b5) (by kernel_rfl) (by kernel_rfl) (Qeu Qoh)
  (YE (by rfl) (a:=.int .i64 a6) (b:=.int .i64 b6) (by kernel_rfl) (by kernel_rfl) (Qeu Qoh)
  (YE (by rfl) (a:=.int .i64 a7) (b:=.int .i64 b7) (by kernel_rfl) (by kernel_rfl) (Qeu Qoh) Qog))))
theorem QAY (f:Nat) (a b:Ar):aeq prog (f+4) Qd (.agg a.cells.toArray) (.agg b.cells.toArray)=some (decide (a=b)):=by
 obtain⟨k,⟨rc,rn⟩,⟨⟨bc,bn⟩,⟨ic,iN⟩,sc,dd,sz⟩,n⟩:=a;obtain⟨k',⟨rc',rn'⟩,⟨⟨bc',bn'⟩,⟨ic',iN'⟩,sc',dd',sz'⟩,n'⟩:=b;have e:=QiA (f:=f+3) (xs:=#[.int .i64 k,.int .i64 rc,.int .i64 rn,.int .i64 bc,.int .i64 bn,.int .i64 ic,.int .i64 iN,.int .i64 sc,.int .i64 dd,.int .i64 sz,.int .i64 n]) (ys:=#[.int .i64 k',.int .i64 rc',.int .i64 rn',.int .i64 bc',.int .i64 bn',.int .i64 ic',.int .i64 iN',.int .i64 sc',.int .i64 dd',.int .i64 sz',.int .i64 n']) QCN (by kernel_rfl)
 have e2:=YE (P:=prog) (eq:=aeq prog (f+3)) (fd:=⟨ "Kind",3,0,false, "", "",0⟩) (by rfl) (a:=.int .i64 k) (b:=.int .i64 k') (xs:=#[.int .i64 k,.int .i64 rc,.int .i64 rn,.int .i64 bc,.int .i64 bn,.int .i64 ic,.int .i64 iN,.int .i64 sc,.int .i64 dd,.int .i64 sz,.int .i64 n]) (ys:=#[.int .i64 k',.int .i64 rc',.int .i64 rn',.int .i64 bc',.int .i64 bn',.int .i64 ic',.int .i64 iN',.int .i64 sc',.int .i64 dd',.int .i64 sz',.int .i64 n']) (by kernel_rfl) (by kernel_rfl) (Qeu Qoh)
  (YE (fd:=⟨ "R",QJ,1,false, "", "",8⟩) (by rfl) (a:=.agg #[.int .i64 rc,.int .i64 rn]) (b:=.agg #[.int .i64 rc',.int .i64 rn']) (by kernel_rfl) (by kernel_rfl) (Qrx (f+1) _ _ _ _)
  (YE (fd:=⟨ "M",QK,3,false, "", "",24⟩) (by rfl) (a:=.agg #[.int .i64 bc,.int .i64 bn,.int .i64 ic,.int .i64 iN,.int .i64 sc,.int .i64 dd,.int .i64 sz]) (b:=.agg #[.int .i64 bc',.int .i64 bn',.int .i64 ic',.int .i64 iN',.int .i64 sc',.int .i64 dd',.int .i64 sz']) (by kernel_rfl) (by kernel_rfl) (QAX f _ _ _ _ _ _ _ _ _ _ _ _ _ _)
  (YE (fd:=⟨ "N",3,10,false, "", "",80⟩) (by rfl) (a:=.int .i64 n) (b:=.int .i64 n') (by kernel_rfl) (by kernel_rfl) (Qeu Qoh) Qog)))
 refine(e.trans e2).trans ?_;congr 1;rw[Bool.eq_iff_iff];simp[and_assoc]
theorem QyZ {A:Env} {H:Qa} {k:Value->Qa->Prop} {x y:Operand} {t':TypeId} (a b:Ar) (hc:(Qfs x||Qfs y)=false) (hx:ev A x=.agg a.cells.toArray) (hy:ev A y=.agg b.cells.toArray):
  pr prog (.gen (.binOp .neq Qd x y t')) false A H k=k (.bool (!decide (a=b))) H:=by
 have hg:YW prog false Qd (.agg a.cells.toArray) (.agg b.cells.toArray)=true:=by
  have h:prog.eqGuardType prog.depth Qd=false:=by kernel_rfl
  simp[YW,QhM,Qp8,h]
 have e:rop prog (.gen (.binOp .neq Qd x y t')) A H=some (.bool (!decide (a=b)),H):=by
  simp only[rop,aop,QbC,Qqd,hx,hy,hc,Qlh,K6,hg,Bool.and_self,if_true,QAY 16];rfl
 refine(Q9 _).trans ?_;rw[e,Qw]
theorem Qu7 (va vb:Value) (xs ys:List Ar) (H:Qa) (ha:QS H va xs) (hb:QS H vb ys) (hlx:xs.length<=1000000) (hly:ys.length<=1000000):Qf prog YZ [va,vb] H λu H'=>u=.bool (decide (xs=ys))∧H'=H:=by
 refine Qc2 λhw=>?_;obtain⟨aa,acap,rfl,hsa⟩:=ha;obtain⟨ba,bcap,rfl,hsb⟩:=hb;simp only[J8,sxA,sxB,Nat.reduceBEq,Nat.reduceEqDiff,reduceCtorEq,mxA,mxB,Nat.reduceAdd,reduceIte,Nat.reduceLeDiff,splice]
 by_cases hne:xs.length=ys.length
 ·have e0:((xs.length:Int)==(ys.length:Int))=true:=by simp[hne]
  simp only[e0,sxA,sxB,Nat.reduceBEq,Nat.reduceEqDiff,reduceCtorEq,mxA,mxB,Nat.reduceAdd,reduceIte,Nat.reduceLeDiff,splice];refine Qu (λm A' H'=>∃i:Nat,i<=xs.length∧m=xs.length - i∧H'=H∧(∀j,j<i->xs[j]? = ys[j]?)∧A' 0=.slice aa xs.length acap∧A' 1=.slice ba ys.length bcap∧A' 5=.int .i64 i) xs.length ?_ ?_
  ·refine⟨0,Nat.zero_le _,by omega,rfl,λj h=>by omega,?_,?_,?_⟩
   all_goals simp only[uxA,uxB,Nat.reduceBEq]
   rfl
  ·rintro m A' H' ⟨i,hi,rfl,hEq,hall,r0,r1,r5⟩;subst hEq;simp only[sxA,sxB,Nat.reduceBEq,Nat.reduceEqDiff,reduceCtorEq,mxA,mxB,Nat.reduceAdd,reduceIte,Nat.reduceLeDiff,splice,r0,r1,r5];refine Qh (λh2=>?_) (λh2=>?_)
   ·have h2:i<xs.length:=by have:=of_decide_eq_true h2;omega
    obtain⟨b1,e1,ro1,rfl,hb1⟩:=hsa (by omega);obtain⟨b2,e2,ro2,rfl,hb2⟩:=hsb (by omega);have c1:(0:Int)<=i∧(i:Int)<xs.length:=by omega
    have c2:(0:Int)<=i∧(i:Int)<ys.length:=by omega
    have c3:(i:Int).toNat=i:=by omega
    have c4:i * 11+11<=xs.length * 11:=by omega
    have c5:i * 11+11<=ys.length * 11:=by omega
    have ei:IntKind.i64.wrap ((i:Int)+1)=((i+1:Nat):Int):=by rw[w64 (by unfold I64;omega)];omega
    have h2':i<ys.length:=by omega
    have p1:=List.getElem?_eq_getElem h2;have p2:=List.getElem?_eq_getElem h2';have d1:=Wx xs i _ p1;have d2:=Wx ys i _ p2;have n1:=QF xs;have n2:=QF ys;generalize xs[i]=x at *;generalize ys[i]=y at *;have a1:(x.cells.all λv=>v.oneCell')=true:=rfl;have a2:(y.cells.all λv=>v.oneCell')=true:=rfl;simp only[sxA,sxB,Nat.reduceBEq,Nat.reduceEqDiff,reduceCtorEq,mxA,mxB,Nat.reduceAdd,reduceIte,Nat.reduceLeDiff,splice,r0,r1,r5,c1,c2,c3,c4,c5,hb1,hb2,d1,d2,n1,n2,a1,a2,Wh];rw[QyZ x y rfl (by simp only[uxA,uxB,Nat.reduceBEq]) (by simp only[uxA,uxB,Nat.reduceBEq])]
    by_cases h3:x=y
    ·have e3:decide (x=y)=true:=decide_eq_true h3;simp only[sxA,sxB,Nat.reduceBEq,Nat.reduceEqDiff,reduceCtorEq,mxA,mxB,Nat.reduceAdd,reduceIte,Nat.reduceLeDiff,splice,e3,r5,ei];refine⟨xs.length - (i+1),by omega,i+1,by omega,rfl,rfl,λj hj=>?_,?_,?_,?_⟩
     ·rcases Nat.lt_or_ge j i with h | h
      ·exact hall j h
      ·rw[show j=i by omega,p1,p2,h3]
     all_goals simp only[uxA,uxB,Nat.reduceBEq,r0,r1]
    ·have e3:decide (x=y)=false:=decide_eq_false h3;simp only[sxA,sxB,Nat.reduceBEq,Nat.reduceEqDiff,reduceCtorEq,mxA,mxB,Nat.reduceAdd,reduceIte,Nat.reduceLeDiff,splice,e3,Yj];have h4:xs≠ys:=λh=>by
      rw[h,p2]at p1;exact h3 (Option.some.inj p1).symm
     exact .mk (Nat.le_refl _) ⟨by rw[decide_eq_false h4],rfl⟩
   ·have h2:i=xs.length:=by have:=of_decide_eq_false h2;omega
    subst h2;simp only[sxA,sxB,Nat.reduceBEq,Nat.reduceEqDiff,reduceCtorEq,mxA,mxB,Nat.reduceAdd,reduceIte,Nat.reduceLeDiff,splice,Yj];have heq:xs=ys:=by
     refine List.ext_getElem? λi=>?_
     by_cases h1:i<xs.length
     ·exact hall i h1
     ·rw[List.getElem?_eq_none (by omega),List.getElem?_eq_none (by omega)]
    exact .mk (Nat.le_refl _) ⟨by rw[decide_eq_true heq],rfl⟩
 ·have e0:((xs.length:Int)==(ys.length:Int))=false:=by simp;omega
  simp only[e0,sxA,sxB,Nat.reduceBEq,Nat.reduceEqDiff,reduceCtorEq,mxA,mxB,Nat.reduceAdd,reduceIte,Nat.reduceLeDiff,splice,Yj];exact .mk (Nat.le_refl _) ⟨by rw[decide_eq_false (λh=>hne (by rw[h]))],rfl⟩
theorem Qu8 (o p:Int) (va vb:Value) (xs ys:List Ar) (H:Qa) (ha:QS H va xs) (hb:QS H vb ys) (hlx:xs.length<=1000000) (hly:ys.length<=1000000):Qf prog YY [.agg #[.int .i64 o,va],.agg #[.int .i64 p,vb]] H λu H'=>u=.bool ((o==p)&&decide (xs=ys))∧∃k,H'=H.up k:=by
 refine Qc1 λhw=>?_;have hx:Ext H ((H.push (.cells [.int .i64 o,va] Qb false)).push (.cells [.int .i64 p,vb] Qb false)):=((Ext.refl H).push _).push _;have ha2:=ha.ext hw hx;have hb2:=hb.ext hw hx;have q:=Qu7 va vb xs ys _ ha2 hb2 hlx hly;obtain⟨aa,acap,rfl,hsa⟩:=ha;obtain⟨ba,bcap,rfl,hsb⟩:=hb;simp only[J7,sxA,sxB,Nat.reduceBEq,Nat.reduceEqDiff,reduceCtorEq,mxA,mxB,Nat.reduceAdd,reduceIte,Nat.reduceLeDiff,splice,W7];cases h1:o==p
 ·simp only[sxA,sxB,Nat.reduceBEq,Nat.reduceEqDiff,reduceCtorEq,mxA,mxB,Nat.reduceAdd,reduceIte,Nat.reduceLeDiff,splice,W7];exact .ext hw hx ⟨rfl,_,rfl⟩
 ·simp only[sxA,sxB,Nat.reduceBEq,Nat.reduceEqDiff,reduceCtorEq,mxA,mxB,Nat.reduceAdd,reduceIte,Nat.reduceLeDiff,splice,W7];refine q.thenW ?_;rintro _ _ hn hw2 ⟨rfl,rfl⟩;simp only[sxA,sxB,Nat.reduceBEq,Nat.reduceEqDiff,reduceCtorEq,mxA,mxB,Nat.reduceAdd,reduceIte,Nat.reduceLeDiff,splice,W7];exact .ext hw hx ⟨by simp,_,rfl⟩
theorem Qry (va vb:Value) (xs ys:List Ar) (H:Qa) (ha:QS H va xs) (hb:QS H vb ys) (hlx:xs.length<=1000000) (hly:ys.length<=1000000):Qf prog WZ [va,vb] H λu H'=>u=.bool (decide (xs=ys))∧H'=H:=by
 refine KY λhw=>?_;obtain⟨aa,acap,rfl,hsa⟩:=ha;obtain⟨ba,bcap,rfl,hsb⟩:=hb;simp only[Yn,Qc,simprocAttr,Qm]
 by_cases hne:xs.length=ys.length
 ·have e0:((xs.length:Int)==(ys.length:Int))=true:=by simp[hne]
  simp only[e0,XK,Bool.not_true,Qc,simprocAttr,Qm];refine Qu (λm A' H'=>∃i:Nat,i<=xs.length∧m=xs.length - i∧H'=H∧(∀j,j<i->xs[j]? = ys[j]?)∧A' 0=.slice aa xs.length acap∧A' 1=.slice ba ys.length bcap∧A' 12=.int .i64 xs.length∧A' 13=.int .i64 i) xs.length ?_ ?_
  ·refine⟨0,Nat.zero_le _,by omega,rfl,λj h=>by omega,?_,?_,?_,?_⟩
   all_goals simp only[Qq,simprocAttr]
   all_goals rfl
  ·rintro m A' H' ⟨i,hi,rfl,hEq,hall,r0,r1,r12,r13⟩;subst hEq;simp only[XJ,Qc,simprocAttr,r12,r13];refine Qh (λh2=>?_) (λh2=>?_)
   ·have h2:i<xs.length:=by have:=of_decide_eq_true h2;omega
    obtain⟨b1,e1,ro1,rfl,hb1⟩:=hsa (by omega);obtain⟨b2,e2,ro2,rfl,hb2⟩:=hsb (by omega);have c1:(0:Int)<=i∧(i:Int)<xs.length:=by omega
    have c2:(0:Int)<=i∧(i:Int)<ys.length:=by omega
    have c3:(i:Int).toNat=i:=by omega
    have c4:i * 11+11<=xs.length * 11:=by omega
    have c5:i * 11+11<=ys.length * 11:=by omega
    have ei:IntKind.i64.wrap ((i:Int)+1)=((i+1:Nat):Int):=by rw[w64 (by unfold I64;omega)];omega
    have h2':i<ys.length:=by omega
    have p1:=List.getElem?_eq_getElem h2;have p2:=List.getElem?_eq_getElem h2';have d1:=Wx xs i _ p1;have d2:=Wx ys i _ p2;have n1:=QF xs;have n2:=QF ys;generalize xs[i]=x at *;generalize ys[i]=y at *;simp only[XI,Qc,simprocAttr,r0,r1,r13,c1,c2,c3,hb1,hb2,d1,d2];refine⟨by omega,by omega,?_⟩;rw[QyZ x y rfl (by simp only[Qq,simprocAttr]) (by simp only[Qq,simprocAttr])]
    by_cases h3:x=y
    ·have e3:decide (x=y)=true:=decide_eq_true h3;simp only[Qc,simprocAttr,e3,Bool.not_true,r13,ei];refine⟨xs.length - (i+1),by omega,i+1,by omega,rfl,rfl,λj hj=>?_,?_,?_,?_,?_⟩
     ·rcases Nat.lt_or_ge j i with h | h
      ·exact hall j h
      ·rw[show j=i by omega,p1,p2,h3]
     all_goals simp only[Qq,simprocAttr,r0,r1,r12]
    ·have e3:decide (x=y)=false:=decide_eq_false h3;simp only[Qc,simprocAttr,e3,Bool.not_false,WI];have h4:xs≠ys:=λh=>by
      rw[h,p2]at p1;exact h3 (Option.some.inj p1).symm
     exact .mk (Nat.le_refl _) ⟨by rw[decide_eq_false h4],rfl⟩
   ·have h2:i=xs.length:=by have:=of_decide_eq_false h2;omega
    subst h2;simp only[Qc,simprocAttr,WI];have heq:xs=ys:=by
     refine List.ext_getElem? λi=>?_
     by_cases h1:i<xs.length
     ·exact hall i h1
     ·rw[List.getElem?_eq_none (by omega),List.getElem?_eq_none (by omega)]
    exact .mk (Nat.le_refl _) ⟨by rw[decide_eq_true heq],rfl⟩
 ·have e0:((xs.length:Int)==(ys.length:Int))=false:=by simp;omega
  simp only[e0,Bool.not_false,Qc,simprocAttr,WI];exact .mk (Nat.le_refl _) ⟨by rw[decide_eq_false (λh=>hne (by rw[h]))],rfl⟩
def QpZ (o p:Int) (xs ys:List Ar):Bool:=((QI o xs).2.2==0)&&((QI p ys).2.2==0)&&((QI o xs).1==(QI p ys).1)&&decide ((QI o xs).2.1=(QI p ys).2.1)
theorem Qtf {o p:Int} {va vb:Value} {xs ys:List Ar} (H:Qa) (ha:QS H va xs) (hb:QS H vb ys) (hlx:xs.length<=1000) (hly:ys.length<=1000) (hIx:∀a∈xs,I64 a.n) (hIy:∀a∈ys,I64 a.n):
  Qf prog QfC [.agg #[.int .i64 o,va],.agg #[.int .i64 p,vb]] H λu H'=>u=.bool (QpZ o p xs ys)∧Ext H H':=by
 refine Qrw λhw=>?_;obtain⟨a0,ca,rfl⟩:=Q0 ha;obtain⟨b0,cb,rfl⟩:=Q0 hb;simp only[Qj9,Qbt,simprocAttr];generalize hH1:Qa.push H _=H1;have g1:H1.get H.next=some (.cells [.int .i64 o,.slice a0 xs.length ca] Qb false):=by rw[<- hH1,Qa.get_push,if_pos rfl];rfl
 have hx1:Ext H H1:=by rw[<- hH1];exact(Ext.refl H).push _
 have hw1:H1.Wf:=by rw[<- hH1];exact hw.push _
 have hn1:H1.next=H.next+1:=by rw[<- hH1];rfl
 clear hH1;simp only[Qc,simprocAttr,hn1];generalize hH2:Qa.push H1 _=H2;have hx2:Ext H H2:=by rw[<- hH2];exact(hx1.push _)
 have hw2:H2.Wf:=by rw[<- hH2];exact(hw1.push _)
 have g22:H2.get H.next=some (.cells [.int .i64 o,.slice a0 xs.length ca] Qb false):=by rw[<- hH2,Qa.get_push,if_neg (by omega)];exact g1
 have g23:H2.get (H.next+1)=some (.cells [.int .i64 p,.slice b0 ys.length cb] Qb false):=by rw[<- hH2,Qa.get_push,if_pos (by omega)]
 clear hH2;simp only[Qc,simprocAttr,g1,g22];refine(Qej o xs H2 _ (ha.ext hw hx2) hlx hIx).thenW ?_;rintro _ H3 hn3 hw3 ⟨hx23,v3,rfl,hv3,hf3⟩;obtain⟨a3,c3,rfl⟩:=Q0 hv3;have hx3:=hx2.trans hx23;have g33:H3.get (H.next+1)=some (.cells [.int .i64 p,.slice b0 ys.length cb] Qb false):=by rw[hx23.get _ (hw2.lt g23)];exact g23
 have l33:=hw3.lt g33;have nz:¬H.next+1=H3.next:=by omega
 simp only[Qc,simprocAttr,nz,if_false,g33];generalize hH4:(H3.push _).set H3.next _=H4;have hx34:Ext H3 H4:=by rw[<- hH4];exact((Ext.refl H3).push _).set (Nat.le_refl _) _
 have hw4:H4.Wf:=by rw[<- hH4];exact(hw3.push _).set (b0:=.cells [.int .i64 0,.slice none 0 0] Qb false) (by rw[Qa.get_push,if_pos rfl]) _
 have g4:H4.get H3.next=some (.cells [.int .i64 (QI o xs).1,.slice a3 (QI o xs).2.1.length c3] Qb false):=by rw[<- hH4,Qa.get_set,if_pos rfl]
 clear hH4;have hx4:=hx3.trans hx34;refine(Qej p ys H4 _ (hb.ext hw hx4) hly hIy).thenW ?_;rintro _ H5 hn5 hw5 ⟨hx45,v5,rfl,hv5,hf5⟩;obtain⟨a5,c5,rfl⟩:=Q0 hv5;have g5:H5.get H3.next=some (.cells [.int .i64 (QI o xs).1,.slice a3 (QI o xs).2.1.length c3] Qb false):=by rw[hx45.get _ (hw4.lt g4)];exact g4
 have l5:=hw5.lt g5;have nz5:¬H3.next=H5.next:=by omega
 have hv35:=(hv3.ext hw3 hx34).ext hw4 hx45;simp only[Qc,simprocAttr];generalize hH6:(H5.push _).set H5.next _=H6;have hx56:Ext H5 H6:=by rw[<- hH6];exact((Ext.refl H5).push _).set (Nat.le_refl _) _
 have hw6:H6.Wf:=by rw[<- hH6];exact(hw5.push _).set (b0:=.cells [.int .i64 0,.slice none 0 0] Qb false) (by rw[Qa.get_push,if_pos rfl]) _
 have g6:H6.get H5.next=some (.cells [.int .i64 (QI p ys).1,.slice a5 (QI p ys).2.1.length c5] Qb false):=by rw[<- hH6,Qa.get_set,if_pos rfl]
 clear hH6;have g63:H6.get H3.next=some (.cells [.int .i64 (QI o xs).1,.slice a3 (QI o xs).2.1.length c3] Qb false):=by rw[hx56.get _ l5];exact g5
 have hx6:=(hx4.trans hx45).trans hx56;have hl3:=Qj6 o xs;have hl5:=Qj6 p ys;have hs:QpZ o p xs ys=(((QI o xs).2.2==0)&&((QI p ys).2.2==0)&&((QI o xs).1==(QI p ys).1)&&decide ((QI o xs).2.1=(QI p ys).2.1)):=rfl;have hv36:=hv35.ext hw5 hx56;have hv56:=hv5.ext hw5 hx56;generalize QI o xs=co at *;generalize QI p ys=cp at *;cases e1:co.2.2==0 with
 | false=>
  rw[e1]at hs;simp only[Qc,simprocAttr,e1,Vf];exact .mk hx6.next ⟨by rw[hs];rfl,hx6⟩
 | true=>
  cases e2:cp.2.2==0 with
  | false=>
   rw[e1,e2]at hs;simp only[Qc,simprocAttr,e1,e2,Vf];exact .mk hx6.next ⟨by rw[hs];rfl,hx6⟩
  | true=>
   cases e3:co.1==cp.1 with
   | false=>
    rw[e1,e2,e3]at hs;simp only[Qc,simprocAttr,e1,e2,e3,g6,g63,Vf];exact .mk hx6.next ⟨by rw[hs];rfl,hx6⟩
   | true=>
    rw[e1,e2,e3]at hs;simp only[Qc,simprocAttr,e1,e2,e3,g6,g63];refine(Qry _ _ co.2.1 cp.2.1 H6 hv36 hv56 (by omega) (by omega)).thenW ?_;rintro _ H6 _ _ ⟨rfl,rfl⟩;simp only[Qc,simprocAttr,Vf];exact .mk hx6.next ⟨by rw[hs];simp,hx6⟩
def Sc (H:Qa) (v:Value) (l:List Int):Prop:=∃a n c,v=.slice a n c∧ZH 1 v H=some (bys l)
theorem Qtg {A:Env} {H:Qa} {k:Value->Qa->Prop} {src dst e:TypeId} {x:Operand} {v:Value} {l:List Int} (hs:prog.underlying src=some (.slice e)) (he:prog.underlying e=some (.int .u8)) (hd:prog.underlying dst=some .string) (hx:ev A x=v) (hr:Sc H v l):
  pr prog (.gen (.convert src dst x)) false A H k=k (.string (mkS (l.map λz=>z.toNat.toUInt8))) H:=by
 obtain⟨a,n,c,rfl,hc⟩:=hr;have e1:rop prog (.gen (.convert src dst x)) A H=some (.string (mkS (l.map λz=>z.toNat.toUInt8)),H):=by
  simp only[rop,aop,QaB,hs,hd,hx,he,hc,Qgp]
 refine(Q9 _).trans ?_;rw[e1,Qw]
theorem QAZ (va vb:Value) (l m:List Int) (H:Qa) (ha:Sc H va l) (hb:Sc H vb m):Qf prog Wb [va,vb] H λu H'=>u=.bool (Qe7 l m)∧H'=H:=by
 refine JI λhw=>?_;simp only[Yk,Qc,simprocAttr];rw[Qtg (e:=5) (v:=va) (by kernel_rfl) (by kernel_rfl) (by kernel_rfl) (by simp only[Qq,simprocAttr]) ha];simp only[Qc,simprocAttr];rw[Qtg (e:=5) (v:=vb) (by kernel_rfl) (by kernel_rfl) (by kernel_rfl) (by simp only[Qq,simprocAttr]) hb];simp only[Qc,simprocAttr,Jh];exact .mk (Nat.le_refl _) ⟨by rw[Qp3,Qp3];rfl,rfl⟩
theorem QCO {H0 H:Qa} {v:Value} {y:List Int} {k:Nat} (h:Gx 1 5 H0 H v y.length (bys y)) (hk:0<k) (hky:k<=y.length) (hyu:y.length<UNK):∃u,Yp 1 v none (some (k:Int)) none=some u∧Sc H u (y.take k):=by
 rcases h with⟨rfl,h,_⟩ | ⟨b,c,rfl,h2,h3,h4,h5⟩
 ·omega
 ·refine⟨.slice (some ⟨b,0,none⟩) k c,?_,some ⟨b,0,none⟩,k,c,rfl,?_⟩
  ·unfold Yp;simp only[Option.getD_none,Option.getD_some];rcases Nat.lt_or_ge c UNK with hc | hc
   ·have hcy:c=y.length:=by rcases h5 with h | h;exact h;omega
    rw[if_neg (by omega),if_pos (by omega),if_neg (by omega),show(k:Int).toNat - (0:Int).toNat=k by omega,show(c:Int).toNat - (0:Int).toNat=c by omega,show 0+(0:Int).toNat * 1=0 by simp]
   ·have hcy:c=UNK+1:=by rcases h5 with h | h;omega;exact h.1
    rw[if_pos hc,if_pos (by omega),show(k:Int).toNat - (0:Int).toNat=k by omega,show 0+(0:Int).toNat * 1=0 by simp]
  ·have hl:=Yt y;simp only[ZH,h3];rw[if_neg (by omega),if_pos (by omega),List.drop_zero,Nat.mul_one];unfold bys;rw[List.map_take]
section
variable {R:Env->Qa->Prop} {E:Nat->Env->Qa->Prop} {K:Env->Qa->Prop}
theorem QEA {H0 H:Qa} {v:Value} {W:List Ld} {A:Env} (hv:XE Ql H0 H v W) (hw:H.Wf) (hWl:W.length<=1000000) (hb:∀w∈W,1<=w.b.length∧w.b.length<=15)
  (hne:∀ (a b:Nat) x y,W[a]? = some x->W[b]? = some y->a≠b->x.b.length<=y.b.length->Qe7 x.b (y.b.take x.b.length)=false) (r6:A 6=v)
  (hk:∀A',A' 2=A 2->A' 3=A 3->A' 5=A 5->A' 6=A 6->Qt prog Xg ⟨R,E⟩ K A' H):
  Qt prog Xh ⟨R,E⟩ K A H:=by
 obtain⟨ca,cc,rfl⟩:=hv.slc;obtain⟨ss,hsl,hgs,hit⟩:=hv.it;simp only[Xh,Qc,simprocAttr];refine Qu (λm A' H'=>∃i:Nat,i<=W.length∧m=W.length - i∧H'=H∧A' 2=A 2∧A' 3=A 3∧A' 5=A 5∧A' 6=.slice ca W.length cc∧A' 8=.int .i64 i) W.length ?_ ?_
 ·refine⟨0,Nat.zero_le _,by omega,rfl,?_,?_,?_,?_,?_⟩
  all_goals simp only[Qq,simprocAttr,r6]
  all_goals rfl
 ·rintro m A' H' ⟨i,hi,rfl,rfl,r2,r3,r5,r6',r8⟩;simp only[YS,Qc,simprocAttr,r6',r8,Qm];refine Qh (λh2=>?_) (λh2=>?_)
  ·have h2:i<W.length:=by have:=of_decide_eq_true h2;omega
   obtain⟨w,hwi⟩:∃w,W[i]? = some w:=⟨_,List.getElem?_eq_getElem h2⟩;obtain⟨sv,hsv⟩:∃sv,ss[i]? = some sv:=⟨_,List.getElem?_eq_getElem (by omega)⟩;have hs':=hit i sv w hsv hwi;obtain⟨s0,s1,s2⟩:=QmH hsv hwi;obtain⟨b,rfl,hgb⟩:∃b,ca=some ⟨b,0,none⟩∧H'.get b=some (.cells (ldC ss W) Ql false):=by
    rcases hgs with⟨h,h',_⟩ | ⟨b,c,h,q1,q2,_⟩
    ·omega
    ·cases h;exact⟨b,rfl,q2⟩
   have d1:(0:Int)<=i∧(i:Int)<W.length:=by omega
   have d3:(i:Int).toNat=i:=by omega
   have ei:IntKind.i64.wrap ((i:Int)+1)=((i+1:Nat):Int):=by rw[w64 (by unfold I64;omega)];omega
   have s0':=s0;rw[Nat.add_zero]at s0';obtain⟨hb1,hb2⟩:=hb w (List.mem_of_getElem? hwi);obtain⟨sa,sc,rfl⟩:=hs'.slc;have c1:decide ((w.b.length:Int)<1)=false:=decide_eq_false (by omega);have c2:decide (15<(w.b.length:Int))=false:=decide_eq_false (by omega);simp only[YP,YO,Qc,simprocAttr,r6',r8,d1,d3,hgb,s0,s0',c1,c2,Qm];refine Qu (λm A' H''=>∃j:Nat,j<=W.length∧m=W.length - j∧H''=H'∧A' 2=A 2∧A' 3=A 3∧A' 5=A 5∧A' 6=.slice (some ⟨b,0,none⟩) W.length cc∧A' 8=.int .i64 i∧A' 9=.slice sa w.b.length sc∧A' 10=.int .i64 j) W.length ?_ ?_
   ·refine⟨0,Nat.zero_le _,by omega,rfl,?_,?_,?_,?_,?_,?_,?_⟩
    all_goals simp only[Qq,simprocAttr,r2,r3,r5,r6',r8]
    all_goals rfl
   ·rintro m A2 H' ⟨j,hj,rfl,rfl,q2,q3,q5,q6,q8,q9,q10⟩;simp only[YN,Qc,simprocAttr,q6,q10,Qm];refine Qh (λh4=>?_) (λh4=>?_)
    ·have h4:j<W.length:=by have:=of_decide_eq_true h4;omega
     obtain⟨y,hyj⟩:∃y,W[j]? = some y:=⟨_,List.getElem?_eq_getElem h4⟩;obtain⟨tv,htv⟩:∃tv,ss[j]? = some tv:=⟨_,List.getElem?_eq_getElem (by omega)⟩;have ht':=hit j tv y htv hyj;obtain⟨t0,_,_⟩:=QmH htv hyj;have t0':=t0;rw[Nat.add_zero]at t0';obtain⟨_,hy2⟩:=hb y (List.mem_of_getElem? hyj);have d4:(0:Int)<=j∧(j:Int)<W.length:=by omega
     have d5:(j:Int).toNat=j:=by omega
     have ej:IntKind.i64.wrap ((j:Int)+1)=((j+1:Nat):Int):=by rw[w64 (by unfold I64;omega)];omega
     have fin:∀A3:Env,A3 2=A 2->A3 3=A 3->A3 5=A 5->A3 6=.slice (some ⟨b,0,none⟩) W.length cc->A3 8=.int .i64 i->A3 9=.slice sa w.b.length sc->A3 10=.int .i64 ((j+1:Nat):Int)->∃m',m'<W.length - j∧∃j':Nat,j'<=W.length∧m'=W.length - j'∧H'=H'∧A3 2=A 2∧A3 3=A 3∧A3 5=A 5∧A3 6=.slice (some ⟨b,0,none⟩) W.length cc∧A3 8=.int .i64 i∧A3 9=.slice sa w.b.length sc∧A3 10=.int .i64 j':=λA3 a1 a2 a3 a4 a5 a6 a7=>⟨W.length - (j+1),by omega,j+1,by omega,rfl,rfl,a1,a2,a3,a4,a5,a6,a7⟩;obtain⟨ta,tc,rfl⟩:=ht'.slc;simp only[YM,Qc,simprocAttr,q6,q8,q9,q10];cases hij:((i:Int)==j) with
     | true=>
      simp only[Qc,simprocAttr,Bool.not_true,q6,q8,q9,q10,ej];refine fin _ ?_ ?_ ?_ ?_ ?_ ?_ ?_
      all_goals simp only[Qq,simprocAttr,q2,q3,q5,q6,q8,q9]
     | false=>
      have hij':i≠j:=λh=>by rw[h]at hij;simp at hij
      simp only[Qc,simprocAttr,Bool.not_false,q6,q8,q9,q10,d4,d5,hgb,t0,t0',Qm];cases hle:decide ((w.b.length:Int)<=y.b.length) with
      | false=>
       simp only[Qc,simprocAttr,q6,q8,q9,q10,ej];refine fin _ ?_ ?_ ?_ ?_ ?_ ?_ ?_
       all_goals simp only[Qq,simprocAttr,q2,q3,q5,q6,q8,q9]
      | true=>
       have hle':w.b.length<=y.b.length:=by have:=of_decide_eq_true hle;omega
       obtain⟨u,hu,hsc⟩:=QCO ht' hb1 hle' (by unfold UNK;omega);simp only[Qc,simprocAttr,q6,q8,q9,q10,d4,d5,hgb,t0,t0',hu,Qm];refine(QAZ _ _ w.b (y.b.take w.b.length) H' ⟨_,_,_,rfl,?_⟩ hsc).thenW ?_
       ·obtain⟨_,_,_,_,h⟩:=QsW hs';exact h
       rintro _ H' _ _ ⟨rfl,rfl⟩;have e5:=hne i j w y hwi hyj hij' hle';simp only[Qc,simprocAttr,e5,q10,ej];refine fin _ ?_ ?_ ?_ ?_ ?_ ?_ ?_
       all_goals simp only[Qq,simprocAttr,q2,q3,q5,q6,q8,q9]
    ·simp only[Qc,simprocAttr,q8,ei];refine⟨W.length - (i+1),by omega,i+1,by omega,rfl,rfl,?_,?_,?_,?_,?_⟩
     all_goals simp only[Qq,simprocAttr,q2,q3,q5,q6]
  ·simp only[Qc,simprocAttr];refine hk _ ?_ ?_ ?_ ?_
   all_goals simp only[Qq,simprocAttr,r2,r3,r5,r6,r6']
structure Qv9 (L:Int->List Fm):Prop where
 len:∀ (op:Int) (l:List Ar),l.length<=9->(∀a∈l,I64 a.n)->∀w∈Jn (L op) op l,(1<=w.b.length∧w.b.length<=15)∧∀z∈w.b,0<=z∧z<256
 free:∀ (op:Int) (l:List Ar),l.length<=9->(∀a∈l,I64 a.n)->QT op l=0->∀ (a b:Nat) x y,(Jn (L op) op l)[a]? = some x->(Jn (L op) op l)[b]? = some y->a≠b->x.b.length<=y.b.length->Qe7 x.b (y.b.take x.b.length)=false
 same:∀ (op o:Int) (l m:List Ar),QpZ op o l m=true->KR (L o) o m=KR (L op) op l
 form:∀ (op:Int) (l:List Ar),¬QT op l=8
 cnt:∀ (op:Int) (l:List Ar),l.length<=9->(Jn (L op) op l).length<=1000000
theorem Qu9 {L:Int->List Fm} (hL:Qv9 L) (op:Int) (l:List Ar):((KR (L op) op l).2=0∧QT op l=0∧(KR (L op) op l).1=Jn (L op) op l∧0<(KR (L op) op l).1.length)∨(¬ (KR (L op) op l).2=0∧(KR (L op) op l).1=[]∧(((KR (L op) op l).2==8)==(QT op l==0))=true):=by
 unfold KR;cases h:QT op l==0 with
 | false=>
  have h1:¬QT op l=0:=by simpa using h
  have h2:(QT op l==8)=false:=by simpa using hL.form op l
  rw[if_pos rfl];exact .inr ⟨h1,rfl,by rw[h2];rfl⟩
 | true=>
  rw[if_neg (by decide)];cases hq:Jn (L op) op l with
  | nil=>exact .inr ⟨by simp,rfl,rfl⟩
  | cons a t=>exact .inl ⟨by simp,by simpa using h,by simp,by simp⟩
section
variable {T:Qa->Prop} {L:Int->List Fm} (hT:∀H H',H.Wf->T H->Ext H H'->T H') (hO:∀op H,T H->Qf prog WY [.int .i64 op] H λu H'=>Qo3 H H' u (L op))
include hT hO
theorem Qrz {op o:Int} {va vb:Value} {l m:List Ar} (H:Qa) (hL:Qv9 L) (hA:∀H,T H->Qf prog Wz [] H λu H'=>u=.bool true∧Ext H H') (hTH:T H) (ha:QS H va l) (hb:QS H vb m) (hva:∀n,H.next<=n->Qj n 6 (.agg #[.int .i64 op,va])=true) (hvb:∀n,H.next<=n->Qj n 6 (.agg #[.int .i64 o,vb])=true) (hI:∀a∈l,I64 a.n) (hJ:∀a∈m,I64 a.n):
  Qf prog Xz [.agg #[.int .i64 op,va],.agg #[.int .i64 o,vb]] H λu H'=>u=.bool true∧Ext H H':=by
 refine Qaw λhw=>?_;obtain⟨a0,cap,rfl⟩:=Q0 ha;obtain⟨b0,cbp,rfl⟩:=Q0 hb;simp only[ZA,Qbt,simprocAttr];generalize hH1:Qa.push H _=H1;have g1:H1.get H.next=some (.cells [.int .i64 op,.slice a0 l.length cap] Qb false):=by rw[<- hH1,Qa.get_push,if_pos rfl];rfl
 have hx1:Ext H H1:=by rw[<- hH1];exact(Ext.refl H).push _
 have hw1:H1.Wf:=by rw[<- hH1];exact hw.push _
 have hn1:H1.next=H.next+1:=by rw[<- hH1];rfl
 clear hH1;simp only[Qc,simprocAttr,hn1];generalize hH2:Qa.push H1 _=H2;have hx2:Ext H H2:=by rw[<- hH2];exact hx1.push _
 have hw2:H2.Wf:=by rw[<- hH2];exact hw1.push _
 have g2:H2.get H.next=some (.cells [.int .i64 op,.slice a0 l.length cap] Qb false):=by rw[<- hH2,Qa.get_push,if_neg (by omega)];exact g1
 have g2b:H2.get (H.next+1)=some (.cells [.int .i64 o,.slice b0 m.length cbp] Qb false):=by rw[<- hH2,Qa.get_push,if_pos (by omega)]
 clear hH2
 try simp only[Qc,simprocAttr]
 refine(hA H2 (hT _ _ hw hTH hx2)).thenW ?_;rintro _ H3 hn3 hw3 ⟨rfl,hx23⟩;have hx3:=hx2.trans hx23;have g3:H3.get H.next=some (.cells [.int .i64 op,.slice a0 l.length cap] Qb false):=by rw[hx23.get _ (hw2.lt g2)];exact g2
 have g3b:H3.get (H.next+1)=some (.cells [.int .i64 o,.slice b0 m.length cbp] Qb false):=by rw[hx23.get _ (hw2.lt g2b)];exact g2b
 simp only[Qc,simprocAttr,g3,Qm];cases hl9:decide (9<(l.length:Int)) with
 | true=>
  simp only[Qc,simprocAttr,Q7];exact .mk hx3.next ⟨rfl,hx3⟩
 | false=>
  simp only[Qc,simprocAttr,g3b,Qm];cases hm9:decide (9<(m.length:Int)) with
  | true=>
   simp only[Qc,simprocAttr,Q7];exact .mk hx3.next ⟨rfl,hx3⟩
  | false=>
   have hl:l.length<=9:=by have:=of_decide_eq_false hl9;omega
   have hm:m.length<=9:=by have:=of_decide_eq_false hm9;omega
   simp only[YD,Qc,simprocAttr,g3];refine(Qep hT hO H3 (hT _ _ hw hTH hx3) (ha.ext hw hx3) (λn hn=>hva n (by have:=hx3.next;omega)) (by omega) hI).thenW ?_;rintro _ H4 hn4 hw4 ⟨v4,rfl,h4,hx34⟩;have hx4:=hx3.trans hx34;have g4:H4.get H.next=some (.cells [.int .i64 op,.slice a0 l.length cap] Qb false):=by rw[hx34.get _ (hw3.lt g3)];exact g3
   have g4b:H4.get (H.next+1)=some (.cells [.int .i64 o,.slice b0 m.length cbp] Qb false):=by rw[hx34.get _ (hw3.lt g3b)];exact g3b
   obtain⟨a4,c4,rfl⟩:=h4.ls.slc;rcases Qu9 hL op l with⟨p1,p2,p3,p4⟩ | ⟨p1,p2,p3⟩
   ·rw[p1];have z0:((0:Int)==0)=true:=rfl;simp only[Qc,simprocAttr,z0,Bool.not_true];have hin:=λw (hw:w∈(KR (L op) op l).1)=>hL.len op l hl hI w (p3▸hw);have hcn:(KR (L op) op l).1.length<=1000000:=by rw[p3];exact hL.cnt op l hl
    refine QEA h4.ls hw4 hcn (λw hw=>(hin w hw).1) (by rw[p3];exact hL.free op l hl hI p2) (by simp only[Qq,simprocAttr]) λA' r2 r3 r5 r6=>?_;simp only[Qq,simprocAttr]at r2 r3 r5 r6;simp only[Xg,Qc,simprocAttr,r2,r3,g4,g4b];refine(Qtf H4 (ha.ext hw hx4) (hb.ext hw hx4) (by omega) (by omega) hI hJ).thenW ?_;rintro _ H5 hn5 hw5 ⟨rfl,hx45⟩;have hx5:=hx4.trans hx45;have g5b:H5.get (H.next+1)=some (.cells [.int .i64 o,.slice b0 m.length cbp] Qb false):=by rw[hx45.get _ (hw4.lt g4b)];exact g4b
    have pl:decide (0<((KR (L op) op l).1.length:Int))=true:=decide_eq_true (by omega);simp only[Qc,simprocAttr];cases hs:QpZ op o l m with
    | false=>
     simp only[Qc,simprocAttr,r5,r6,pl,Qm,Q7];exact .mk hx5.next ⟨rfl,hx5⟩
    | true=>
     have he:=hL.same op o l m hs;simp only[YL,Qc,simprocAttr,r3,g5b];refine(Qep hT hO H5 (hT _ _ hw hTH hx5) (hb.ext hw hx5) (λn hn=>hvb n (by have:=hx5.next;omega)) (by omega) hJ).thenW ?_;rintro _ H6 hn6 hw6 ⟨v6,rfl,h6,hx56⟩;rw[he]at h6 ⊢;rw[p1];simp only[Qc,simprocAttr,z0,Bool.not_true,r6];refine(Qu6 H6 hw5 hx56 h6 (h4.ls.go hw4 hx45) (λw hw=>⟨(hin w hw).2,by have:=(hin w hw).1;omega⟩) hcn).thenW ?_;rintro _ H7 hn7 hw7 ⟨rfl,hx57⟩;have hx7:=hx5.trans hx57;simp only[Qc,simprocAttr,Bool.not_true,r5,r6,pl,Qm,Q7];exact .mk hx7.next ⟨rfl,hx7⟩
   ·rw[p2]at h4;have z1:((KR (L op) op l).2==0)=false:=by simpa using p1
    have z2:((0:Nat):Int)=0:=rfl;have z3:((0:Int)==0)=true:=rfl;simp only[Qc,simprocAttr,z1,Bool.not_false,p2,List.length_nil,z2,z3,Qm];simp only[YT,Qc,simprocAttr,z2,z3,List.length_nil,Qm];simp only[Qc,simprocAttr,g4];refine(Za op _ l H4 (ha.ext hw hx4) (by omega) hI).thenW ?_;rintro _ _ hn5 hw5 ⟨rfl,kc,rfl⟩;have hx5:=hx4.trans ((Ext.refl H4).up hn5);simp only[Qc,simprocAttr,p3,Q7];exact .mk hx5.next ⟨rfl,hx5⟩
end
end
theorem Qy0 {op:Int} {l:List Ar} (h:(QI op l).2.2=0):(QT op l==0)=true:=by
 cases hc:QT op l==0 with
 | true=>rfl
 | false=>
  unfold QI at h;rw[hc,if_pos rfl]at h;rw[show QT op l=0 from h]at hc;exact absurd hc (by decide)
theorem Qy1 (L:Int->List Fm) (op o:Int) (l m:List Ar) (h:QpZ op o l m=true):KR (L o) o m=KR (L op) op l:=by
 unfold QpZ at h;simp only[Bool.and_eq_true,beq_iff_eq,decide_eq_true_eq]at h;obtain⟨⟨⟨h1,h2⟩,h3⟩,h4⟩:=h;have e1:=Qk4 h1;have e2:=Qk4 h2;have ho:op=o:=by rw[e1,e2]at h3;exact h3
 subst ho;have hs:Z0 op m=Z0 op l:=by unfold Z0;rw[h1,h2,h4]
 unfold KR Jn;rw[Qy0 h1,Qy0 h2,hs];rfl
theorem Qy2 (m:Mm):¬QM m=8:=by
 unfold QM
 repeat' split
 all_goals decide
theorem Qy3 (a:Ar):¬Xc a=8:=by
 unfold Xc
 repeat' split
 all_goals first | exact Qy2 _ | decide
theorem Qy4:∀l:List Ar,¬Qjc l=8
 | []=>by decide
 | a::l=>by
  unfold Qjc;split
  ·exact Qy4 l
  ·exact Qy3 a
theorem QCP (n b:Int) (s:Bool):¬ (Kh n b s).2=8:=by
 unfold Kh
 repeat' split
 all_goals simp
theorem Qy5 (op:Int) (l:List Ar):¬QT op l=8:=by
 unfold QT
 repeat' split
 all_goals first | exact Qy4 _ | exact QCP _ _ _ | decide
def By (l:List Int) (n:Nat):Prop:=l.length<=n∧∀z∈l,0<=z∧z<256
theorem By.nil (n:Nat):By [] n:=⟨Nat.zero_le _,λz h=>by cases h⟩
theorem By.app {l m:List Int} {a b:Nat} (h:By l a) (k:By m b):By (l++m) (a+b):=⟨by rw[List.length_append];have:=h.1;have:=k.1;omega,λz hz=>(List.mem_append.1 hz).elim (h.2 z) (k.2 z)⟩
theorem By.mono {l:List Int} {a b:Nat} (h:By l a) (hab:a<=b):By l b:=⟨Nat.le_trans h.1 hab,h.2⟩
theorem By.one {z:Int} (h:0<=z∧z<256):By [z] 1:=⟨Nat.le_refl _,λy hy=>by cases List.mem_singleton.1 hy;exact h⟩
theorem QCQ (z:Int):0<=IntKind.u8.wrap z∧IntKind.u8.wrap z<256:=by
 unfold IntKind.wrap;simp[IntKind.bits,IntKind.signed];omega
theorem Qgt {h m l:Int} (hh:0<=h∧h<4) (hm:0<=m∧m<8) (hl:0<=l∧l<8):0<=Qx h m l∧Qx h m l<256:=by unfold Qx;omega
theorem Qkd (n sz:Int):By (KM n sz).1 sz.toNat:=by
 unfold KM;split
 ·exact By.nil _
 ·split
  ·exact By.nil _
  ·refine⟨by simp[QgX],λz hz=>?_⟩;obtain⟨i,_,rfl⟩:=List.mem_map.1 hz;unfold QsA;exact QCQ _
theorem QA0 (f:Fm) (op:Int) (l:List Ar):By (ZZ f op l) ((if 0<=QE f.slots 5 then(tlN f).toNat else 0)+(if 0<=QE f.slots 7 then 1 else 0)):=by
 unfold ZZ;refine By.app ?_ ?_
 ·split
  ·exact Qkd _ _
  ·exact By.nil _
 ·split
  ·exact By.one (QCQ _)
  ·exact By.nil _
theorem QCR (f:Fm) (l:List Ar):0<=Zk f l∧Zk f l<256:=by
 unfold Zk;split<;>exact QCQ _
theorem Qth {mid:Int} (hm:0<=mid∧mid<8) (ix:Rg) (f d:Int):By (VZ mid ix f d).b 6:=by
 unfold VZ;refine By.app (a:=2) ?_ (Qkd d 4);refine By.app (l:=[_]) (m:=[_]) (a:=1) (b:=1) (By.one (Qgt (by decide) hm (by decide))) (By.one ?_);cases isR ix 0 0 with
 | true=>exact Qgt (by decide) (by decide) (by decide)
 | false=>exact Qgt (QjY f) (KN ix) (by decide)
theorem Qla {mid rm:Int} (hm:0<=mid∧mid<8) (hr:0<=rm∧rm<8) {sib:List Int} (hs:By sib 1) (m:Mm):∀w∈Xa mid rm sib m,By w.b 6:=by
 intro w hw;unfold Xa at hw;obtain⟨md,hmd,h⟩:=List.mem_flatMap.1 hw;have hmd:=List.mem_range.1 hmd;unfold Zd at h;split at h
 ·rw[List.mem_singleton]at h;subst h;refine By.app (By.app (By.one (Qgt (by omega) hm hr)) hs) (b:=4) ?_;unfold Qbm;split
  ·exact By.nil _
  ·split
   ·exact(Qkd _ _).mono (by decide)
   ·exact Qkd _ _
 ·cases h
theorem QA1 {mid:Int} (hm:0<=mid∧mid<8) (m:Mm):∀w∈Qcr mid m,By w.b 6:=by
 intro w hw;unfold Qcr at hw;split at hw
 ·rw[List.mem_singleton]at hw;subst hw;exact(By.app (By.one (Qgt (by decide) hm (by decide))) (Qkd m.d 4)).mono (by decide)
 ·split at hw
  ·rw[List.mem_singleton]at hw;subst hw;exact Qth hm _ _ _
  ·split at hw
   ·exact Qla hm (by decide) (By.one (Qgt (QjY _) (KN _) (KN _))) m w hw
   ·rcases List.mem_append.1 hw with hw | hw
    ·split at hw
     ·cases hw
     ·exact Qla hm (KN _) ((By.nil 0).mono (by decide)) m w hw
    ·rcases List.mem_append.1 hw with hw | hw
     ·exact Qla hm (by decide) (By.one (Qgt (by decide) (by decide) (KN _))) m w hw
     ·split at hw
      ·cases hw
      ·rw[List.mem_singleton]at hw;subst hw;exact Qth hm _ _ _
theorem QA2 (mid:Int) (a:Ar):∀w∈(QgZ mid a).1,By w.b 6:=by
 intro w hw;unfold QgZ at hw;split at hw
 ·cases hw
 ·rename_i h;have hm:0<=mid∧mid<8:=by simp at h;omega
  split at hw
  ·cases hw
  ·split at hw
   ·rw[List.mem_singleton]at hw;subst hw;exact(By.one (Qgt (by decide) hm (KN _))).mono (by decide)
   ·split at hw
    ·exact QA1 hm _ w hw
    ·cases hw
theorem Qxd (f:Fm) (l:List Ar):∀w∈Wo f l,By w.b (if QE f.slots 2<0 then 0 else 6):=by
 intro w hw;unfold Wo at hw
 by_cases h:QE f.slots 2<0
 ·rw[if_pos h]at hw ⊢;rw[List.mem_singleton]at hw;subst hw;exact By.nil _
 ·rw[if_neg h]at hw ⊢;split at hw
  ·exact QA2 _ _ w hw
  ·cases hw
theorem Qy6 (f:Fm) (l:List Ar) {h:Int} (hh:0<=h∧h<2):0<=hB f l h∧hB f l h<2:=by
 unfold hB;split
 ·exact Ve _ _ _
 ·exact hh
theorem QCS (p:Int):By (Qgc p) (Qgc p).length:=by
 refine⟨Nat.le_refl _,λz hz=>?_⟩;unfold Qgc at hz;have hz:z=102∨z=242∨z=243:=by
  rcases List.mem_append.1 hz with h | h
  ·split at h
   ·exact .inl (List.mem_singleton.1 h)
   ·cases h
  ·rcases List.mem_append.1 h with h | h
   ·split at h
    ·exact .inr (.inl (List.mem_singleton.1 h))
    ·cases h
   ·split at h
    ·exact .inr (.inr (List.mem_singleton.1 h))
    ·cases h
 omega
theorem QCT (m:Int):By (YG m) (YG m).length:=by
 refine⟨Nat.le_refl _,λz hz=>?_⟩;unfold YG at hz
 repeat' split at hz
 all_goals simp at hz
 all_goals omega
theorem Qoi {y:Vx} (h:y.Ok):By (JH y) 3:=by
 have hp:=Qcp y.pre;have hr:=h.r;have hx:=h.x;have hb:=h.b;have hm:=h.mp;have hw:=h.w;have hv:=h.v;have hl:=h.l;refine⟨Nat.le_refl _,λz hz=>?_⟩;unfold JH vbm vbn at hz;simp only[List.mem_cons,List.not_mem_nil,or_false]at hz;omega
theorem QCU {y:Vx} (h:y.Ok) (any:Bool):∀hd∈QgY y any,By hd 3:=by
 have hp:=Qcp y.pre;have hr:=h.r;have hv:=h.v;have hl:=h.l;intro hd hh;unfold QgY at hh;rcases List.mem_append.1 hh with hh | hh
 ·split at hh
  ·rw[List.mem_singleton]at hh;subst hh;refine⟨by simp,λz hz=>?_⟩;unfold vb2 at hz;simp only[List.mem_cons,List.not_mem_nil,or_false]at hz;omega
  ·cases hh
 ·rcases List.mem_append.1 hh with hh | hh
  ·rw[List.mem_singleton]at hh;subst hh;cases any with
   | true=>exact Qoi (h.setW 0 (by decide))
   | false=>exact Qoi h
  ·cases any with
   | true=>
    rw[cond_true,List.mem_singleton]at hh;subst hh;exact Qoi (h.setW 1 (by decide))
   | false=>cases hh
def hdN (f:Fm):Nat:=if f.vex=true then 3 else(Qgc f.pre).length+1+(YG f.map).length
theorem Qy7 {f:Fm} {op:Int} {l:List Ar} (hf:Qgl f op l=true) {x h:Int} (hx:0<=x∧x<2) (hh:0<=h∧h<2):∀hd∈Xf f l x h,By hd (hdN f):=by
 intro hd hm;have hok:=QgJ (Jd hf).2.2.1;unfold Xf at hm;unfold hdN
 by_cases hv:f.vex=true
 ·rw[if_pos hv]at hm ⊢;exact QCU (QvR hf hv hx hh) _ hd hm
 ·rw[if_neg hv]at hm ⊢;obtain⟨n,hn,rfl⟩:=List.mem_map.1 hm;refine By.app ?_ (QCT _);unfold Qas;refine By.app (QCS _) ?_;split
  ·rename_i h0;refine By.one ?_;have hb:=Qy6 f l hh;have hs:=Ve f l 1;have hw:=hok.w (by simpa using hv);have hn:n=GV f.w (Zy f l 1) x (hB f l h)∨n=-1∨n=0:=by
    unfold chF at hn
    repeat' split at hn
    all_goals simp at hn
    all_goals omega
   unfold GV at hn;omega
  ·exact By.nil _
def fmN (f:Fm):Nat:=hdN f+1+(if QE f.slots 2<0 then 0 else 6)+((if 0<=QE f.slots 5 then(tlN f).toNat else 0)+(if 0<=QE f.slots 7 then 1 else 0))
theorem QCV (f:Fm) (op:Int) (l:List Ar):∀w∈Qau f op l,By w.b (fmN f)∧1<=w.b.length:=by
 intro w hw;unfold Qau at hw;split at hw
 ·rename_i hf;obtain⟨p,hp,hw⟩:=List.mem_flatMap.1 hw;obtain⟨hx,hh,_⟩:=(GY f l).2 p hp;unfold Qbn at hw;obtain⟨hd,hm,rfl⟩:=List.mem_map.1 hw;exact⟨((By.app (By.app (Qy7 hf hx hh hd hm) (By.one (QCR f l))) (Qxd f l p hp)).app (QA0 f op l)),by simp only[List.length_append,List.length_cons,List.length_nil];omega⟩
 ·cases hw
theorem Qy8 {L:List Fm} (hL:(L.all λf=>decide (fmN f<=15))=true) (op:Int) (l:List Ar):∀w∈Jn L op l,(1<=w.b.length∧w.b.length<=15)∧∀z∈w.b,0<=z∧z<256:=by
 intro w hw;unfold Jn at hw;obtain⟨m,_,hw⟩:=List.mem_flatMap.1 hw;obtain⟨k,_,hw⟩:=List.mem_flatMap.1 hw;unfold frm at hw;split at hw
 ·rename_i f hf;obtain⟨v,hv,rfl⟩:=List.mem_map.1 hw;obtain⟨h1,h2⟩:=QCV f op m v hv;have h3:=of_decide_eq_true (List.all_eq_true.1 hL f (List.mem_of_getElem? hf));exact⟨⟨h2,Nat.le_trans h1.1 h3⟩,h1.2⟩
 ·cases hw
def Df (a b:Ld):Prop:=∃ (i:Nat) (x y:Int),a.b[i]? = some x∧b.b[i]? = some y∧¬x=y
theorem QmI {a b:Ld} {x y:Int} {s t:List Int} (ha:a.b=x::s) (hb:b.b=y::t) (h:¬x=y):Df a b:=⟨0,x,y,by rw[ha];rfl,by rw[hb];rfl,h⟩
theorem Qlb (mid rm:Int) (sib:List Int) (m:Mm):(Xa mid rm sib m).Pairwise Df:=by
 have e:List.range 3=[0,1,2]:=rfl;unfold Xa;rw[e];simp only[List.flatMap_cons,List.flatMap_nil,List.append_nil];unfold Zd;have h01:∀x0 h0 x1 h1,Df ⟨[Qx (0:Nat) mid rm]++sib++Qbm 0 m,x0,h0⟩ ⟨[Qx (1:Nat) mid rm]++sib++Qbm 1 m,x1,h1⟩:=λ_ _ _ _=>QmI rfl rfl (by unfold Qx;omega);have h02:∀x0 h0 x1 h1,Df ⟨[Qx (0:Nat) mid rm]++sib++Qbm 0 m,x0,h0⟩ ⟨[Qx (2:Nat) mid rm]++sib++Qbm 2 m,x1,h1⟩:=λ_ _ _ _=>QmI rfl rfl (by unfold Qx;omega);have h12:∀x0 h0 x1 h1,Df ⟨[Qx (1:Nat) mid rm]++sib++Qbm 1 m,x0,h0⟩ ⟨[Qx (2:Nat) mid rm]++sib++Qbm 2 m,x1,h1⟩:=λ_ _ _ _=>QmI rfl rfl (by unfold Qx;omega);split<;>split<;>split
 all_goals simp only[List.nil_append,List.cons_append,List.pairwise_cons,List.Pairwise.nil,List.mem_cons,List.not_mem_nil,or_false,forall_eq_or_imp,forall_eq,and_true,false_imp_iff,implies_true]
 all_goals first | trivial | exact⟨⟨h01 _ _ _ _,h02 _ _ _ _⟩,h12 _ _ _ _⟩ | exact h01 _ _ _ _ | exact h02 _ _ _ _ | exact h12 _ _ _ _
theorem Qlc (mid rm:Int) (sib:List Int) (m:Mm):∀w∈Xa mid rm sib m,∃ (md:Nat) (t:List Int),md<3∧w.b=Qx md mid rm::(sib++t):=by
 intro w hw;unfold Xa at hw;obtain⟨md,hmd,h⟩:=List.mem_flatMap.1 hw;unfold Zd at h;split at h
 ·rw[List.mem_singleton]at h;subst h;exact⟨md,Qbm md m,List.mem_range.1 hmd,by simp⟩
 ·cases h
theorem QA3 {mid:Int} (hm:0<=mid∧mid<8) (m:Mm):(Qcr mid m).Pairwise Df:=by
 unfold Qcr;split
 ·exact List.pairwise_singleton _ _
 ·split
  ·exact List.pairwise_singleton _ _
  ·rename_i hb0;have hb0:isR m.b 0 0=false:=by simpa using hb0
   split
   ·exact Qlb _ _ _ _
   ·have hb:=KN m.b;refine List.pairwise_append.2 ⟨?_,List.pairwise_append.2 ⟨Qlb _ _ _ _,?_,?_⟩,?_⟩
    ·split
     ·exact List.Pairwise.nil
     ·exact Qlb _ _ _ _
    ·split
     ·exact List.Pairwise.nil
     ·exact List.pairwise_singleton _ _
    ·intro a ha b hb';obtain⟨md,t,h1,h2⟩:=Qlc _ _ _ _ a ha;split at hb'
     ·cases hb'
     ·rw[List.mem_singleton]at hb';subst hb';refine⟨1,Qx 0 4 (WA m.b),Qx (JZ 1) (WA m.b) 5,by rw[h2];rfl,by unfold VZ;rw[hb0];rfl,?_⟩;unfold Qx;have hs:JZ 1=0:=by decide
      omega
    ·intro a ha b hb';have hne:¬WA m.b=4∧a∈Xa mid (WA m.b) [] m:=by
      split at ha
      ·cases ha
      ·rename_i h;exact⟨by simpa using h,ha⟩
     obtain⟨md,t,h1,h2⟩:=Qlc _ _ _ _ a hne.2;have h4:∃ (me:Nat) (u:List Int),me<3∧b.b=Qx me mid 4::u:=by
      rcases List.mem_append.1 hb' with h | h
      ·obtain⟨me,u,q1,q2⟩:=Qlc _ _ _ _ b h;exact⟨me,_,q1,q2⟩
      ·split at h
       ·cases h
       ·rw[List.mem_singleton]at h;subst h;exact⟨0,_,by decide,rfl⟩
     obtain⟨me,u,q1,q2⟩:=h4;refine QmI h2 q2 ?_;unfold Qx;have:=hne.1;omega
theorem Qxe (f:Fm) (l:List Ar):(Wo f l).Pairwise Df:=by
 unfold Wo;split
 ·exact List.pairwise_singleton _ _
 ·split
  ·unfold QgZ;split
   ·exact List.Pairwise.nil
   ·rename_i h;have hm:0<=QuC f l∧QuC f l<8:=by simp at h;omega
    split
    ·exact List.Pairwise.nil
    ·split
     ·exact List.pairwise_singleton _ _
     ·split
      ·exact QA3 hm _
      ·exact List.Pairwise.nil
  ·exact List.Pairwise.nil
theorem QCW {a b:Int} (ha:0<=a∧a<256) (hb:0<=b∧b<256) (h:a.toNat.toUInt8=b.toNat.toUInt8):a=b:=by
 have h1:=congrArg UInt8.toNat h;simp at h1;omega
theorem Qp0:∀ (l m:List Int),(∀z∈l,0<=z∧z<256)->(∀z∈m,0<=z∧z<256)->Qe7 l m=true->l=m
 | [],[],_,_,_=>rfl
 | [],_::_,_,_,h=>by simp[Qe7]at h
 | _::_,[],_,_,h=>by simp[Qe7]at h
 | a::l,b::m,hl,hm,h=>by
  unfold Qe7 at h;simp only[List.map_cons,beq_iff_eq,List.cons.injEq]at h;rw[QCW (hl a (List.mem_cons_self ..)) (hm b (List.mem_cons_self ..)) h.1,Qp0 l m (λz hz=>hl z (List.mem_cons_of_mem _ hz)) (λz hz=>hm z (List.mem_cons_of_mem _ hz)) (by unfold Qe7;exact beq_iff_eq.2 h.2)]
theorem QgL {y:Vx} {any:Bool} {hd:List Int} (h:hd∈QgY y any):(∃b,hd=[197,b])∨∃b c,hd=[196,b,c]:=by
 unfold QgY at h;rcases List.mem_append.1 h with h | h
 ·split at h
  ·exact .inl ⟨_,List.mem_singleton.1 h⟩
  ·cases h
 ·rcases List.mem_append.1 h with h | h
  ·exact .inr ⟨_,_,List.mem_singleton.1 h⟩
  ·cases any with
   | true=>exact .inr ⟨_,_,List.mem_singleton.1 h⟩
   | false=>cases h
theorem Qp1 {f:Fm} {l:List Ar} {x h:Int} (hv:f.vex=false) (hw:f.w=0∨f.w=1) (hx:0<=x∧x<2) (hh:0<=h∧h<2) {hd:List Int} (hm:hd∈Xf f l x h):∃rx,hd=Qgc f.pre++(rx++YG f.map)∧(rx=[]∨∃n,rx=[64+n]∧0<=n∧n<16):=by
 unfold Xf at hm;rw[if_neg (by rw[hv];decide)]at hm;obtain⟨n,hn,rfl⟩:=List.mem_map.1 hm;unfold Qas;refine⟨_,List.append_assoc _ _ _,?_⟩;split
 ·rename_i h0;refine .inr ⟨n,rfl,h0,?_⟩;have hb:=Qy6 f l hh;have hs:=Ve f l 1;have hn:n=GV f.w (Zy f l 1) x (hB f l h)∨n=-1∨n=0:=by
   unfold chF at hn
   repeat' split at hn
   all_goals simp at hn
   all_goals omega
  unfold GV at hn;omega
 ·exact .inl rfl
theorem Qti {m c:Int} (hm:0<=m∧m<=3) (hc:m=0->¬ (64<=c∧c<80)) {n:Int} (hn:0<=n∧n<16) (r s:List Int):¬ ((64+n)::s=YG m++c::r):=by
 intro e;have hm:m=0∨m=1∨m=2∨m=3:=by omega
 rcases hm with rfl | rfl | rfl | rfl
 ·have h:=hc rfl;simp[YG]at e;omega
 all_goals simp[YG]at e
 all_goals omega
theorem Qtj {f:Fm} {op:Int} {l:List Ar} (hf:Qgl f op l=true) {c:Int} (hc:f.vex=false->f.map=0->¬ (64<=c∧c<80)) {x1 h1 x2 h2:Int} (hx1:0<=x1∧x1<2) (hh1:0<=h1∧h1<2) (hx2:0<=x2∧x2<2) (hh2:0<=h2∧h2<2) {d1 d2:List Int} (m1:d1∈Xf f l x1 h1) (m2:d2∈Xf f l x2 h2) {r s:List Int} (e:d1++c::r=d2++c::s):d1=d2:=by
 have hok:=QgJ (Jd hf).2.2.1;cases hv:f.vex with
 | true=>
  unfold Xf at m1 m2;rw[if_pos hv]at m1 m2;rcases QgL m1 with⟨b1,rfl⟩ | ⟨b1,g1,rfl⟩<;>rcases QgL m2 with⟨b2,rfl⟩ | ⟨b2,g2,rfl⟩
  all_goals simp at e
  ·rw[e.1]
  ·rw[e.1,e.2.1]
 | false=>
  obtain⟨y1,rfl,q1⟩:=Qp1 hv (hok.w hv) hx1 hh1 m1;obtain⟨y2,rfl,q2⟩:=Qp1 hv (hok.w hv) hx2 hh2 m2;simp only[List.append_assoc]at e;have e:=List.append_cancel_left e;rcases q1 with rfl | ⟨n1,rfl,p1⟩<;>rcases q2 with rfl | ⟨n2,rfl,p2⟩
  ·rfl
  ·exact absurd e.symm (Qti hok.map (hc hv) p2 r _)
  ·exact absurd e (Qti hok.map (hc hv) p1 s _)
  ·simp at e;rw[e.1]
def Apt (x y:Ld):Prop:=∀t u:List Int,¬ (x.b++t=y.b++u)
theorem Qy9 (f:Fm) (l:List Ar) (x h:Int):(Xf f l x h).Pairwise λa b=>¬a=b:=by
 unfold Xf;split
 ·unfold QgY;refine List.pairwise_append.2 ⟨?_,?_,λa ha b hb=>?_⟩
  ·split
   ·exact List.pairwise_singleton _ _
   ·exact List.Pairwise.nil
  ·cases f.w==-1 with
   | false=>exact List.pairwise_singleton _ _
   | true=>
    refine List.pairwise_cons.2 ⟨λb hb=>?_,List.pairwise_singleton _ _⟩;have hb:=List.mem_singleton.1 hb;subst hb;intro e;simp[JH,vbm,vbn]at e;omega
  ·split at ha
   ·rw[List.mem_singleton]at ha;subst ha;rcases List.mem_append.1 hb with hb | hb
    ·rw[List.mem_singleton]at hb;subst hb;simp[JH]
    ·cases hw:f.w==-1 with
     | false=>rw[hw]at hb;cases hb
     | true=>rw[hw,cond_true,List.mem_singleton]at hb;subst hb;simp[JH]
   ·cases ha
 ·unfold chF
  repeat' split
  all_goals simp[Qas]
theorem Qza {f:Fm} {op:Int} {l:List Ar} (hc:f.vex=false->f.map=0->¬ (64<=Zk f l∧Zk f l<80)):(Qau f op l).Pairwise Apt:=by
 unfold Qau;split
 ·rename_i hf;have hpl:=(GY f l).2;refine List.pairwise_flatMap.2 ⟨λw hw=>?_,(List.Pairwise.and_mem.1 (Qxe f l)).imp λ{w1 w2} h=>?_⟩
  ·unfold Qbn;refine List.pairwise_map.2 ((List.Pairwise.and_mem.1 (Qy9 f l w.x w.h)).imp λ{d1 d2} h t u e=>?_);obtain⟨m1,m2,hne⟩:=h;obtain⟨hx,hh,_⟩:=hpl w hw;simp only[List.append_assoc,List.cons_append,List.nil_append]at e;exact hne (Qtj hf hc hx hh hx hh m1 m2 e)
  ·obtain⟨k1,k2,i,x,y,g1,g2,g3⟩:=h;intro a ha b hb t u e;unfold Qbn at ha hb;obtain⟨d1,m1,rfl⟩:=List.mem_map.1 ha;obtain⟨d2,m2,rfl⟩:=List.mem_map.1 hb;obtain⟨hx1,hh1,_⟩:=hpl w1 k1;obtain⟨hx2,hh2,_⟩:=hpl w2 k2;simp only[List.append_assoc,List.cons_append,List.nil_append]at e;have hd:=Qtj hf hc hx1 hh1 hx2 hh2 m1 m2 e;subst hd;have e:=(List.cons.inj (List.append_cancel_left e)).2;have e1:=congrArg (λz=>z[i]?) e;simp only[List.getElem?_append_left (List.getElem?_eq_some_iff.1 g1).1,List.getElem?_append_left (List.getElem?_eq_some_iff.1 g2).1,g1,g2]at e1;exact g3 (Option.some.inj e1)
 ·exact List.Pairwise.nil
/-! ### Prefixes, REX, the map, the opcode -/
def isP (c:Int):Bool:=(c==102)||(c==242)||(c==243)
theorem Qoj (p:Int):∀x∈Qgc p,isP x=true:=by
 intro x hx;unfold Qgc at hx;rcases List.mem_append.1 hx with h | h
 ·split at h
  ·rw[List.mem_singleton]at h;subst h;rfl
  ·cases h
 ·rcases List.mem_append.1 h with h | h
  ·split at h
   ·rw[List.mem_singleton]at h;subst h;rfl
   ·cases h
  ·split at h
   ·rw[List.mem_singleton]at h;subst h;rfl
   ·cases h
theorem Qzb {p q:Int} (hp:0<=p∧p<=5) (hq:0<=q∧q<=5) (h:Qgc p=Qgc q):p=q:=by
 have a:p=0∨p=1∨p=2∨p=3∨p=4∨p=5:=by omega
 have b:q=0∨q=1∨q=2∨q=3∨q=4∨q=5:=by omega
 rcases a with rfl | rfl | rfl | rfl | rfl | rfl<;>rcases b with rfl | rfl | rfl | rfl | rfl | rfl
 all_goals first | rfl | exact absurd h (by decide)
theorem QD2:∀ (a b:List Int),(∀x∈a,isP x=true)->(∀x∈b,isP x=true)->∀ {c d:Int} {s t:List Int},isP c=false->isP d=false->a++c::s=b++d::t->a=b∧c::s=d::t
 | [],[],_,_,_,_,_,_,_,_,e=>⟨rfl,e⟩
 | [],y::b,_,hb,c,d,s,t,hc,_,e=>by
  have:=(List.cons.inj e).1;rw[this,hb y (List.mem_cons_self ..)]at hc;cases hc
 | x::a,[],ha,_,c,d,s,t,_,hd,e=>by
  have:=(List.cons.inj e).1;rw[<- this,ha x (List.mem_cons_self ..)]at hd;cases hd
 | x::a,y::b,ha,hb,c,d,s,t,hc,hd,e=>by
  obtain⟨e1,e2⟩:=List.cons.inj e;obtain⟨h1,h2⟩:=QD2 a b (λz hz=>ha z (List.mem_cons_of_mem _ hz)) (λz hz=>hb z (List.mem_cons_of_mem _ hz)) hc hd e2;exact⟨by rw[e1,h1],h2⟩
def okc (m c:Int):Bool:=(!(m==0)||!(isP c||(decide (64<=c)&&decide (c<80))||(c==15)||(c==196)||(c==197)))&&(!(m==1)||!((c==56)||(c==58)))
def okx (x:List Int):Prop:=x=[]∨∃n,x=[64+n]∧0<=n∧n<16
theorem Qva {m c:Int} (hm:0<=m∧m<=3) (hc:okc m c=true) (r:List Int):∃z s,YG m++c::r=z::s∧isP z=false∧¬ (64<=z∧z<80)∧¬z=196∧¬z=197:=by
 have hm:m=0∨m=1∨m=2∨m=3:=by omega
 rcases hm with rfl | rfl | rfl | rfl
 ·refine⟨c,r,rfl,?_⟩;unfold okc at hc;simp only[beq_self_eq_true,Bool.not_true,Bool.false_or,Bool.and_eq_true,Bool.not_eq_true',Bool.or_eq_false_iff,Bool.and_eq_false_iff,decide_eq_false_iff_not,beq_eq_false_iff_ne]at hc;obtain⟨⟨⟨⟨⟨h1,h2⟩,h3⟩,h4⟩,h5⟩,_⟩:=hc;exact⟨h1,by omega,h4,h5⟩
 all_goals exact⟨15,_,rfl,rfl,by omega,by omega,by omega⟩
theorem QA4 {m n c d:Int} (hm:0<=m∧m<=3) (hn:0<=n∧n<=3) (hc:okc m c=true) (hd:okc n d=true) {r s:List Int} (e:YG m++c::r=YG n++d::s):m=n∧c=d∧r=s:=by
 have a:m=0∨m=1∨m=2∨m=3:=by omega
 have b:n=0∨n=1∨n=2∨n=3:=by omega
 unfold okc isP at hc hd;rcases a with rfl | rfl | rfl | rfl<;>rcases b with rfl | rfl | rfl | rfl<;>simp[YG]at e hc hd
 all_goals first | omega | exact⟨rfl,e⟩ | exact⟨rfl,e.1,e.2⟩ | (exfalso;omega)
theorem Qzc {x:List Int} (hx:okx x) {m c:Int} (hm:0<=m∧m<=3) (hc:okc m c=true) (r:List Int):∃z s,x++(YG m++c::r)=z::s∧isP z=false∧¬z=196∧¬z=197:=by
 rcases hx with rfl | ⟨n,rfl,h0,h1⟩
 ·obtain⟨z,s,e,h1,_,h2,h3⟩:=Qva hm hc r;exact⟨z,s,e,h1,h2,h3⟩
 ·refine⟨64+n,_,rfl,?_,by omega,by omega⟩;unfold isP;simp only[Bool.or_eq_false_iff,beq_eq_false_iff_ne];omega
theorem QCX {x y:List Int} (hx:okx x) (hy:okx y) {m n c d:Int} (hm:0<=m∧m<=3) (hn:0<=n∧n<=3) (hc:okc m c=true) (hd:okc n d=true) {r s:List Int} (e:x++(YG m++c::r)=y++(YG n++d::s)):x=y∧YG m++c::r=YG n++d::s:=by
 obtain⟨z,t,e1,_,h1,_⟩:=Qva hm hc r;obtain⟨z',t',e2,_,h2,_⟩:=Qva hn hd s;rw[e1,e2]at e;rcases hx with rfl | ⟨a,rfl,a0,a1⟩<;>rcases hy with rfl | ⟨b,rfl,b0,b1⟩
 ·exact⟨rfl,by rw[e1,e2];exact e⟩
 ·have:=(List.cons.inj e).1;omega
 ·have:=(List.cons.inj e).1;omega
 ·obtain⟨q1,q2⟩:=List.cons.inj e;exact⟨by rw[q1],by rw[e1,e2];exact q2⟩
theorem QA5 {p q m n c d:Int} {x y:List Int} (hp:0<=p∧p<=5) (hq:0<=q∧q<=5) (hm:0<=m∧m<=3) (hn:0<=n∧n<=3) (hx:okx x) (hy:okx y) (hc:okc m c=true) (hd:okc n d=true) {r s:List Int}
  (e:Qgc p++(x++(YG m++c::r))=Qgc q++(y++(YG n++d::s))):p=q∧x=y∧m=n∧c=d∧r=s:=by
 obtain⟨z,t,e1,h1,_⟩:=Qzc hx hm hc r;obtain⟨z',t',e2,h2,_⟩:=Qzc hy hn hd s;rw[e1,e2]at e;obtain⟨k1,k2⟩:=QD2 _ _ (Qoj p) (Qoj q) h1 h2 e;rw[<- e1,<- e2]at k2;obtain⟨k3,k4⟩:=QCX hx hy hm hn hc hd k2;obtain⟨k5,k6,k7⟩:=QA4 hm hn hc hd k4;exact⟨Qzb hp hq k1,k3,k5,k6,k7⟩
theorem Qzd {p m c:Int} {x:List Int} (hm:0<=m∧m<=3) (hx:okx x) (hc:okc m c=true) (r:List Int):∃z s,Qgc p++(x++(YG m++c::r))=z::s∧¬z=196∧¬z=197:=by
 obtain⟨z,t,e1,_,h1,h2⟩:=Qzc hx hm hc r;rw[e1];have hp:=Qoj p;generalize Qgc p=q at *;cases q with
 | nil=>exact⟨z,t,rfl,h1,h2⟩
 | cons a l=>
  have:=hp a (List.mem_cons_self ..);refine⟨a,_,rfl,?_,?_⟩<;>rintro rfl<;>exact absurd this (by decide)
/-! ### VEX -/
theorem Qtk {p q:Int} (hp:p=0∨p=1∨p=2∨p=4) (hq:q=0∨q=1∨q=2∨q=4) (h:JG p=JG q):p=q:=by
 rcases hp with rfl | rfl | rfl | rfl<;>rcases hq with rfl | rfl | rfl | rfl
 all_goals first | rfl | exact absurd h (by decide)
theorem Qze {y z:Vx} (hy:y.Ok) (hz:z.Ok) {r s:List Int} (e:JH y++r=JH z++s):y.mp=z.mp∧y.w=z.w∧y.l=z.l∧y.pre=z.pre∧r=s:=by
 have y1:=hy.r;have y2:=hy.x;have y3:=hy.b;have y4:=hy.mp;have y5:=hy.w;have y6:=hy.v;have y7:=hy.l;have z1:=hz.r;have z2:=hz.x;have z3:=hz.b;have z4:=hz.mp;have z5:=hz.w;have z6:=hz.v;have z7:=hz.l;have p1:=Qcp y.pre;have p2:=Qcp z.pre;obtain⟨_,e⟩:=List.cons.inj e;obtain⟨e1,e⟩:=List.cons.inj e;obtain⟨e2,e⟩:=List.cons.inj e;unfold vbm at e1;unfold vbn at e2;have hp:JG y.pre=JG z.pre:=by omega
 exact⟨by omega,by omega,by omega,Qtk hy.pre hz.pre hp,e⟩
theorem QA6 {y z:Vx} (hy:y.Ok) (hz:z.Ok) {a b:Bool} {h1 h2:List Int} (m1:h1∈QgY y a) (m2:h2∈QgY z b) {r s:List Int} (e:h1++r=h2++s):y.mp=z.mp∧(a=true∨b=true∨y.w=z.w)∧y.l=z.l∧y.pre=z.pre∧r=s:=by
 have two:∀ {y:Vx} {a:Bool} {h:List Int},y.Ok->h∈QgY y a->(h=[197,vb2 y]∧(a=true∨y.w=0)∧y.mp=1)∨∃n,h=JH {y with w:=n}∧(0<=n∧n<2)∧(a=true∨n=y.w):=by
  intro y a h hy hm;unfold QgY at hm;rcases List.mem_append.1 hm with hm | hm
  ·split at hm
   ·rename_i q;exact .inl ⟨List.mem_singleton.1 hm,q.1.2.2,q.2⟩
   ·cases hm
  ·rcases List.mem_append.1 hm with hm | hm
   ·rw[List.mem_singleton]at hm;cases a with
    | true=>exact .inr ⟨0,hm,by omega,.inl rfl⟩
    | false=>exact .inr ⟨y.w,hm,hy.w,.inr rfl⟩
   ·cases a with
    | true=>exact .inr ⟨1,List.mem_singleton.1 hm,by omega,.inl rfl⟩
    | false=>cases hm
 have y1:=hy.r;have y6:=hy.v;have y7:=hy.l;have z1:=hz.r;have z6:=hz.v;have z7:=hz.l;have p1:=Qcp y.pre;have p2:=Qcp z.pre;rcases two hy m1 with⟨rfl,q1,q2⟩ | ⟨n,rfl,n1,n2⟩<;>rcases two hz m2 with⟨rfl,r1,r2⟩ | ⟨k,rfl,k1,k2⟩
 ·obtain⟨_,e⟩:=List.cons.inj e;obtain⟨e1,e⟩:=List.cons.inj e;unfold vb2 at e1;have hp:JG y.pre=JG z.pre:=by omega
  refine⟨by omega,?_,by omega,Qtk hy.pre hz.pre hp,e⟩;rcases q1 with q1 | q1
  ·exact .inl q1
  ·rcases r1 with r1 | r1
   ·exact .inr (.inl r1)
   ·exact .inr (.inr (by omega))
 ·exact absurd (List.cons.inj e).1 (by decide)
 ·exact absurd (List.cons.inj e).1 (by decide)
 ·obtain⟨e1,e2,e3,e4,e5⟩:=Qze (hy.setW n n1) (hz.setW k k1) e;refine⟨e1,?_,e3,e4,e5⟩;rcases n2 with n2 | n2
  ·exact .inl n2
  ·rcases k2 with k2 | k2
   ·exact .inr (.inl k2)
   ·exact .inr (.inr (by rw[<- n2,<- k2];exact e2))
/-! ### Encodings by two forms -/
def Qke (f:Fm):Int:=if 0<=QE f.slots 4 then 7 else 0
def QD3 (f:Fm):List Int:=if 0<=QE f.slots 4 then[f.code,f.code+1,f.code+2,f.code+3,f.code+4,f.code+5,f.code+6,f.code+7] else[f.code]
def fmO (f:Fm):Bool:=((Qke f==0)||(f.code % 8==0))&&decide (0<=f.op)&&decide (0<=f.code)&&decide (f.code+Qke f<256)&&(f.vex||(QD3 f).all (okc f.map))&&(!(f.op==11)||((f.slots==[2,1])&&!f.vex))
def cl (f g:Fm):Bool:=decide (f.code<=g.code+Qke g)&&decide (g.code<=f.code+Qke f)&&(f.pre==g.pre)&&(f.map==g.map)&&(f.vex==g.vex)&&(!f.vex||(f.l==g.l))&&((f.w==g.w)||(f.w==-1)||(g.w==-1))
theorem QrA {f:Fm} (h:fmO f=true) (l:List Ar):f.code<=Zk f l∧Zk f l<=f.code+Qke f∧(f.vex=false->okc f.map (Zk f l)=true):=by
 unfold fmO at h;simp only[Bool.and_eq_true,decide_eq_true_eq,Bool.or_eq_true]at h;obtain⟨⟨⟨⟨_,h0⟩,h1⟩,h2⟩,_⟩:=h;have wr:∀z:Int,0<=z->z<256->IntKind.u8.wrap z=z:=λz a b=>by
  unfold IntKind.wrap;simp[IntKind.bits,IntKind.signed];omega
 unfold Zk;unfold Qke QD3 at *;split
 ·rename_i q;rw[if_pos q]at h1 h2;have hl:=KN (l[(QE f.slots 4).toNat]?.getD Wi).r;rw[wr f.code (by omega) (by omega),wr _ hl.1 (by omega),wr _ (by omega) (by omega)];refine⟨by omega,by omega,λhv=>?_⟩;rw[hv]at h2;refine List.all_eq_true.1 (h2.resolve_left (by decide)) _ ?_;generalize WA _=n at *;have:n=0∨n=1∨n=2∨n=3∨n=4∨n=5∨n=6∨n=7:=by omega
  rcases this with rfl | rfl | rfl | rfl | rfl | rfl | rfl | rfl<;>simp
 ·rename_i q;rw[if_neg q]at h1 h2;rw[wr f.code (by omega) (by omega)];refine⟨by omega,by omega,λhv=>?_⟩;rw[hv]at h2;exact List.all_eq_true.1 (h2.resolve_left (by decide)) _ (List.mem_singleton.2 rfl)
theorem QrB {f:Fm} {l:List Ar} {x h:Int} (hv:f.vex=false) (hw:f.w=0∨f.w=1) (hx:0<=x∧x<2) (hh:0<=h∧h<2) {hd:List Int} (hm:hd∈Xf f l x h):∃rx,hd=Qgc f.pre++(rx++YG f.map)∧okx rx∧(rx=[]∧GV f.w (Zy f l 1) x (hB f l h)=0∨rx=[64+GV f.w (Zy f l 1) x (hB f l h)]):=by
 unfold Xf at hm;rw[if_neg (by rw[hv];decide)]at hm;obtain⟨n,hn,rfl⟩:=List.mem_map.1 hm;have hb:=Qy6 f l hh;have hs:=Ve f l 1;have hr:0<=GV f.w (Zy f l 1) x (hB f l h)∧GV f.w (Zy f l 1) x (hB f l h)<16:=by unfold GV;omega
 unfold Qas;refine⟨_,List.append_assoc _ _ _,?_⟩;unfold chF at hn;split at hn
 ·split at hn
  ·cases hn
  ·rw[List.mem_singleton]at hn;subst hn;rw[if_pos hr.1];exact⟨.inr ⟨_,rfl,hr⟩,.inr rfl⟩
 ·rename_i q;have hz:GV f.w (Zy f l 1) x (hB f l h)=0:=by
   simp only[Bool.or_eq_true,decide_eq_true_eq,not_or]at q;omega
  rw[hz];split at hn
  ·rw[List.mem_singleton]at hn;subst hn;exact⟨.inl rfl,.inl ⟨rfl,rfl⟩⟩
  ·simp only[List.mem_cons,List.not_mem_nil,or_false]at hn;rcases hn with rfl | rfl
   ·exact⟨.inl rfl,.inl ⟨rfl,rfl⟩⟩
   ·exact⟨.inr ⟨0,rfl,by omega⟩,.inr rfl⟩
theorem Qp2 {f g:Fm} {op:Int} {l m:List Ar} (of:fmO f=true) (og:fmO g=true) (hf:Qgl f op l=true) (hg:Qgl g op m=true) {w1 w2:Ld} (k1:w1∈Wo f l) (k2:w2∈Wo g m) {d1 d2:List Int} (m1:d1∈Xf f l w1.x w1.h) (m2:d2∈Xf g m w2.x w2.h) {r s:List Int}
  (e:d1++Zk f l::r=d2++Zk g m::s):cl f g=true∧r=s∧(f.vex=false->GV f.w (Zy f l 1) w1.x (hB f l w1.h)=GV g.w (Zy g m 1) w2.x (hB g m w2.h)):=by
 obtain⟨x1,x2,_⟩:=(GY f l).2 w1 k1;obtain⟨y1,y2,_⟩:=(GY g m).2 w2 k2;have pf:=QgJ (Jd hf).2.2.1;have pg:=QgJ (Jd hg).2.2.1;obtain⟨c1,c2,c3⟩:=QrA of l;obtain⟨c4,c5,c6⟩:=QrA og m;unfold cl;simp only[Bool.and_eq_true,decide_eq_true_eq,beq_iff_eq,Bool.or_eq_true,Bool.not_eq_true'];cases vf:f.vex with
 | false=>
  obtain⟨rx,rfl,q1,q2⟩:=QrB vf (pf.w vf) x1 x2 m1;rw[List.append_assoc,List.append_assoc]at e;cases vg:g.vex with
  | false=>
   obtain⟨ry,rfl,r1,r2⟩:=QrB vg (pg.w vg) y1 y2 m2;rw[List.append_assoc,List.append_assoc]at e;obtain⟨e1,e2,e3,e4,e5⟩:=QA5 pf.pre pg.pre pf.map pg.map q1 r1 (c3 vf) (c6 vg) e;have hb1:=Qy6 f l x2;have hs1:=Ve f l 1;have hb2:=Qy6 g m y2;have hs2:=Ve g m 1;have hw1:=pf.w vf;have hw2:=pg.w vg;have hr:GV f.w (Zy f l 1) w1.x (hB f l w1.h)=GV g.w (Zy g m 1) w2.x (hB g m w2.h):=by
    subst e2;rcases q2 with⟨q2,q3⟩ | q2<;>rcases r2 with⟨r2,r3⟩ | r2
    ·omega
    ·rw[q2]at r2;cases r2
    ·rw[q2]at r2;cases r2
    ·rw[q2]at r2;have:=(List.cons.inj r2).1;omega
   refine⟨⟨⟨⟨⟨⟨⟨by omega,by omega⟩,e1⟩,e3⟩,rfl⟩,.inl rfl⟩,.inl (.inl ?_)⟩,e5,λ_=>hr⟩;unfold GV at hr;omega
  | true=>
   exfalso;obtain⟨z,t,e1,n1,n2⟩:=Qzd (p:=f.pre) pf.map q1 (c3 vf) r;rw[e1]at e;unfold Xf at m2;rw[if_pos vg]at m2;rcases QgL m2 with⟨b,rfl⟩ | ⟨b,c,rfl⟩
   ·exact n2 (List.cons.inj e).1
   ·exact n1 (List.cons.inj e).1
 | true=>
  unfold Xf at m1;rw[if_pos vf]at m1;cases vg:g.vex with
  | false=>
   exfalso;obtain⟨ry,rfl,r1,_⟩:=QrB vg (pg.w vg) y1 y2 m2;rw[List.append_assoc,List.append_assoc]at e;obtain⟨z,t,e1,n1,n2⟩:=Qzd (p:=g.pre) pg.map r1 (c6 vg) s;rw[e1]at e;rcases QgL m1 with⟨b,rfl⟩ | ⟨b,c,rfl⟩
   ·exact n2 (List.cons.inj e).1.symm
   ·exact n1 (List.cons.inj e).1.symm
  | true=>
   unfold Xf at m2;rw[if_pos vg]at m2;obtain⟨e1,e2,e3,e4,e5⟩:=QA6 (QvR hf vf x1 x2) (QvR hg vg y1 y2) m1 m2 e;obtain⟨e6,e7⟩:=List.cons.inj e5;have v1:=(pf.vx vf).2.2.1;have v2:=(pg.vx vg).2.2.1;have e1:f.map=g.map:=e1;have e3:f.l=g.l:=e3;have e4:f.pre=g.pre:=e4;refine⟨⟨⟨⟨⟨⟨⟨by omega,by omega⟩,e4⟩,e1⟩,rfl⟩,.inr e3⟩,?_⟩,e7,λh=>by cases h⟩;rcases e2 with e2 | e2 | e2
   ·exact .inl (.inr (by simpa using e2))
   ·exact .inr (by simpa using e2)
   ·have e2:QnW f.w=QnW g.w:=e2;unfold QnW at e2
    by_cases z1:f.w=-1
    ·exact .inl (.inr z1)
    ·by_cases z2:g.w=-1
     ·exact .inr z2
     ·rw[if_neg (by omega),if_neg (by omega)]at e2;exact .inl (.inl e2)
theorem QmJ {f:Fm} {op:Int} {l:List Ar} {x:Ld} (h:x∈Qau f op l):Qgl f op l=true∧∃w∈Wo f l,∃d∈Xf f l w.x w.h,x.b=d++Zk f l::(w.b++ZZ f op l):=by
 unfold Qau at h;split at h
 ·rename_i hf;obtain⟨w,hw,h⟩:=List.mem_flatMap.1 h;unfold Qbn at h;obtain⟨d,hd,rfl⟩:=List.mem_map.1 h;exact⟨hf,w,hw,d,hd,by simp only[List.append_assoc,List.cons_append,List.nil_append]⟩
 ·cases h
theorem Qwa {f g:Fm} {op:Int} {l m:List Ar} (of:fmO f=true) (og:fmO g=true) {x y:Ld} (hx:x∈Qau f op l) (hy:y∈Qau g op m) (h:cl f g=false):Apt x y:=by
 intro t u e;obtain⟨f1,w1,k1,d1,m1,e1⟩:=QmJ hx;obtain⟨f2,w2,k2,d2,m2,e2⟩:=QmJ hy;rw[e1,e2,List.append_assoc,List.append_assoc]at e;have:=(Qp2 of og f1 f2 k1 k2 m1 m2 (r:=(w1.b++ZZ f op l)++t) (s:=(w2.b++ZZ g op m)++u) e).1;rw[h]at this;cases this
theorem Qxf {f:Fm} {op:Int} {a b:Ar} (of:fmO f=true) (hop:op=11) (hk:a.k=1∧b.k=1) (hn:¬a.r.n=b.r.n) {x y:Ld} (hx:x∈Qau f op [a,b]) (hy:y∈Qau f op [b,a]):Apt x y:=by
 intro t u e;obtain⟨f1,w1,k1,d1,m1,e1⟩:=QmJ hx;obtain⟨f2,w2,k2,d2,m2,e2⟩:=QmJ hy;rw[e1,e2,List.append_assoc,List.append_assoc]at e;obtain⟨_,e3,e4⟩:=Qp2 of of f1 f2 k1 k2 m1 m2 (r:=(w1.b++ZZ f op [a,b])++t) (s:=(w2.b++ZZ f op [b,a])++u) e;have hfo:=(Jd f1).1;unfold fmO at of;simp only[Bool.and_eq_true,Bool.or_eq_true,Bool.not_eq_true',beq_iff_eq,hfo,hop,beq_self_eq_true,Bool.true_eq_false,false_or]at of;obtain⟨hs,hv⟩:=of.2;have e4:=e4 hv;have i1:QE f.slots 1=1:=by rw[hs];rfl
 have i2:QE f.slots 2=0:=by rw[hs];rfl
 have i4:QE f.slots 4=-1:=by rw[hs];rfl
 obtain⟨a1,q1,_,_,va⟩:=Qn9 f2 (s:=1) (.inl rfl) (by rw[i1];decide);obtain⟨b1,q2,_,_,vb⟩:=Qn9 f1 (s:=1) (.inl rfl) (by rw[i1];decide);rw[i1]at q1 q2;cases q1;cases q2;have pl:∀ {p q:Ar} {w:Ld},p.k=1->w∈Wo f [p,q]->w.b=[Qx 3 (WA q.r) (WA p.r)]∧w.x=0∧w.h=YK p.r:=by
  intro p q w hp hw;have hm:QuC f [p,q]=WA q.r:=by unfold QuC;rw[i1,if_pos (by decide)];rfl
  have g0:(([p,q]:List Ar)[((0:Int)).toNat]?).getD Wi=p:=rfl;unfold Wo at hw;rw[i2,if_neg (by decide),hm,g0]at hw;split at hw
  ·unfold QgZ at hw;split at hw
   ·cases hw
   ·split at hw
    ·cases hw
    ·rw[if_pos (by rw[hp];rfl),List.mem_singleton]at hw;subst hw;exact⟨rfl,rfl,rfl⟩
  ·cases hw
 obtain⟨p1,p2,p3⟩:=pl hk.1 k1;obtain⟨p4,p5,p6⟩:=pl hk.2 k2;rw[p1,p4]at e3;have e3:=(List.cons.inj e3).1;have la:=KN a.r;have lb:=KN b.r;have ha:=Qem a.r;have hb:=Qem b.r;unfold Qx at e3;have h1:Zy f [a,b] 1=YK b.r:=by unfold Zy;rw[i1,if_pos (by decide)];rfl
 have h2:Zy f [b,a] 1=YK a.r:=by unfold Zy;rw[i1,if_pos (by decide)];rfl
 have h3:∀l h,hB f l h=h:=λl h=>by unfold hB;rw[i4,if_neg (by decide)]
 rw[h1,h2,h3,h3,p2,p3,p5,p6]at e4;unfold GV at e4;have z1:WA a.r=WA b.r:=by omega
 have z2:YK a.r=YK b.r:=by omega
 unfold WA at z1;unfold YK at z2;rw[if_pos va,if_pos vb]at z1 z2;exact hn (by omega)
/-! ### All encodings -/
theorem Apt.symm {x y:Ld} (h:Apt x y):Apt y x:=λt u e=>h u t e.symm
theorem Qzf {L:List Fm} (hO:∀f∈L,fmO f=true) (hL:L.Pairwise λf g=>cl f g=false) (op:Int) (l:List Ar):(Jn L op l).Pairwise Apt:=by
 have hset:∀ {k:Nat} {x:Ld},(Qeo k x).b=x.b:=λ{k x}=>rfl;have fm:∀ {m:List Ar} {k:Nat} {x:Ld},x∈frm L op m k->∃f y,L[k]? = some f∧y∈Qau f op m∧x.b=y.b:=by
  intro m k x hx;unfold frm at hx;split at hx
  ·rename_i f hf;obtain⟨y,hy,rfl⟩:=List.mem_map.1 hx;exact⟨f,y,hf,hy,rfl⟩
  ·cases hx
 have dif:∀ {m n:List Ar} {k j:Nat} {x y:Ld},¬k=j->x∈frm L op m k->y∈frm L op n j->Apt x y:=by
  intro m n k j x y hkj hx hy t u;obtain⟨f,x',hf,hx',ex⟩:=fm hx;obtain⟨g,y',hg,hy',ey⟩:=fm hy;rw[ex,ey];have lk:=(List.getElem?_eq_some_iff.1 hf);have lj:=(List.getElem?_eq_some_iff.1 hg);have of:=hO f (List.mem_of_getElem? hf);have og:=hO g (List.mem_of_getElem? hg);rcases Nat.lt_or_gt_of_ne hkj with h | h
  ·have:=List.pairwise_iff_getElem.1 hL k j lk.1 lj.1 h;rw[lk.2,lj.2]at this;exact Qwa of og hx' hy' this t u
  ·have:=List.pairwise_iff_getElem.1 hL j k lj.1 lk.1 h;rw[lk.2,lj.2]at this;exact(Qwa og of hy' hx' this).symm t u
 unfold Jn;refine List.pairwise_flatMap.2 ⟨λm _=>?_,?_⟩
 ·refine List.pairwise_flatMap.2 ⟨λk _=>?_,?_⟩
  ·unfold frm;split
   ·rename_i f hf;refine List.pairwise_map.2 ((Qza (f:=f) λhv hm hc=>?_).imp λh=>h);have:=(QrA (hO f (List.mem_of_getElem? hf)) m).2.2 hv;unfold okc at this;rw[hm]at this;simp only[beq_self_eq_true,Bool.not_true,Bool.false_or,Bool.and_eq_true,Bool.not_eq_true',Bool.or_eq_false_iff,Bool.and_eq_false_iff,decide_eq_false_iff_not]at this;omega
   ·exact List.Pairwise.nil
  ·exact(List.pairwise_lt_range).imp λ{k j} h x hx y hy=>dif (by omega) hx hy
 ·unfold Z0;split
  ·by_cases ht:QcM op (QI op l).2.1=true
   ·rw[if_pos ht];refine List.pairwise_cons.2 ⟨λm hm x hx y hy=>?_,List.pairwise_singleton _ _⟩;have hm:=List.mem_singleton.1 hm;subst hm;obtain⟨k,_,hx⟩:=List.mem_flatMap.1 hx;obtain⟨j,_,hy⟩:=List.mem_flatMap.1 hy
    by_cases hkj:k=j
    ·subst hkj;obtain⟨f,x',hf,hx',ex⟩:=fm hx;obtain⟨g,y',hg,hy',ey⟩:=fm hy;rw[hf]at hg;cases hg;intro t u;rw[ex,ey];generalize (QI op l).2.1=c at *
     match c,ht with
     | [a,b],ht=>
      simp only[QcM,Bool.and_eq_true,beq_iff_eq,Bool.not_eq_true',beq_eq_false_iff_ne]at ht;exact Qxf (hO f (List.mem_of_getElem? hf)) ht.1.1 ht.1.2.1 ht.2 hx' hy' t u
    ·exact dif hkj hx hy
   ·rw[if_neg ht];exact List.pairwise_singleton _ _
  ·exact List.Pairwise.nil
def ky (f:Fm):Nat:=f.op.toNat * 32+(f.code / 8).toNat
theorem QD4 {f g:Fm} (hf:fmO f=true) (hg:fmO g=true) (h:f.op=g.op) (hc:cl f g=true):ky f=ky g:=by
 unfold fmO at hf hg;unfold cl at hc;simp only[Bool.and_eq_true,Bool.or_eq_true,beq_iff_eq,decide_eq_true_eq]at hf hg hc;have a:=hf.1.1.1;have b:=hg.1.1.1;have c:=hc.1.1.1.1.1;have sp:∀f:Fm,Qke f=0∨Qke f=7:=λf=>by unfold Qke;split<;>omega
 have s1:=sp f;have s2:=sp g;unfold ky;rw[h];omega
def ixL:Nat->List Fm->List (Nat×Fm)
 | _,[]=>[]
 | i,f::l=>(i,f)::ixL (i+1) l
theorem QrC:∀ (l:List Fm) (i k:Nat) (f:Fm),l[k]? = some f->(i+k,f)∈ixL i l
 | [],i,k,f,h=>by simp at h
 | g::l,i,0,f,h=>by
  simp at h;subst h;exact List.mem_cons_self ..
 | g::l,i,k+1,f,h=>by
  have:=QrC l (i+1) k f (by simpa using h);rw[show i+(k+1)=i+1+k by omega];exact List.mem_cons_of_mem _ this
def QCY (x:Nat×Fm) (t:Tr (List (Nat×Fm))):Tr (List (Nat×Fm)):=t.set (ky x.2) (some (x::match t.get (ky x.2) with | some l=>l | none=>[]))
def QCZ (l:List (Nat×Fm)):Tr (List (Nat×Fm)):=l.foldr QCY .nil
theorem Qok:∀ (l:List (Nat×Fm)) (x:Nat×Fm),x∈l->∃L,(QCZ l).get (ky x.2)=some L∧x∈L
 | [],x,h=>by cases h
 | y::l,x,h=>by
  show ∃L,(QCY y (QCZ l)).get (ky x.2)=some L∧x∈L;unfold QCY;rw[Tr.get_set]
  by_cases e:ky x.2=ky y.2
  ·rw[if_pos e];refine⟨_,rfl,?_⟩;rcases List.mem_cons.1 h with rfl | h
   ·exact List.mem_cons_self ..
   ·obtain⟨L,h1,h2⟩:=Qok l x h;rw[<- e,h1];exact List.mem_cons_of_mem _ h2
  ·rw[if_neg e];rcases List.mem_cons.1 h with rfl | h
   ·exact absurd rfl e
   ·exact Qok l x h
def QBh (t:Tr (List (Nat×Fm))) (x:Nat×Fm):Bool:=match t.get (ky x.2) with
 | some L=>L.all λy=>Nat.beq x.1 y.1||!((x.2.op==y.2.op)&&cl x.2 y.2)
 | none=>false
def Qvb (A:List Fm):Bool:=(ixL 0 A).all (QBh (QCZ (ixL 0 A)))
theorem QC0 {A:List Fm} (hA:A.all fmO=true) (h:Qvb A=true) {i k:Nat} {a b:Fm} (ha:A[i]? = some a) (hb:A[k]? = some b) (ho:a.op=b.op) (hc:cl a b=true):i=k:=by
 have ma:=QrC A 0 i a ha;have mb:=QrC A 0 k b hb;have hk:=QD4 (List.all_eq_true.1 hA a (List.mem_of_getElem? ha)) (List.all_eq_true.1 hA b (List.mem_of_getElem? hb)) ho hc;have h1:=List.all_eq_true.1 h _ ma;obtain⟨L,l1,l2⟩:=Qok _ _ mb;unfold QBh at h1;simp only at h1 l1;rw[hk,l1]at h1;have h2:=List.all_eq_true.1 h1 _ l2;simp only[ho,beq_self_eq_true,hc,Bool.and_self,Bool.not_true,Bool.or_false]at h2;have:=Nat.eq_of_beq_eq_true h2;omega
theorem QD5 {A:List Fm} (h1:(A.all λf=>decide (fmN f<=15))=true) (h2:A.all fmO=true) (h3:Qvb A=true) (hl:A.length<=6000):Qv9 λop=>A.filter λf=>f.op==op where
 len op l _ _:=Qy8 (List.all_eq_true.2 λf hf=>List.all_eq_true.1 h1 f (List.mem_filter.1 hf).1) op l
 same:=Qy1 _
 form:=Qy5
 cnt op l _:=Nat.le_trans (QvU (Nat.le_trans (List.length_filter_le _ _) hl)) (by decide)
 free op l _ _ _ a b x y ha hb hab hle:=by
  have hL:(A.filter λf=>f.op==op).Pairwise λf g=>cl f g=false:=by
   have hp:A.Pairwise λf g=>f.op=g.op->cl f g=false:=List.pairwise_iff_getElem.2 λi k hi hk hik ho=>by
    cases hc:cl A[i] A[k] with
    | false=>rfl
    | true=>
     have:=QC0 h2 h3 (List.getElem?_eq_getElem hi) (List.getElem?_eq_getElem hk) ho hc;omega
   refine(List.Pairwise.and_mem.1 (hp.filter _)).imp λ{f g} h=>h.2.2 ?_;have e1:=(List.mem_filter.1 h.1).2;have e2:=(List.mem_filter.1 h.2.1).2;rw[beq_iff_eq]at e1 e2;rw[e1,e2]
  have hall:=Qzf (λf hf=>List.all_eq_true.1 h2 f (List.mem_filter.1 hf).1) hL op l;have hby:=Qy8 (L:=A.filter λf=>f.op==op) (List.all_eq_true.2 λf hf=>List.all_eq_true.1 h1 f (List.mem_filter.1 hf).1) op l;have la:=List.getElem?_eq_some_iff.1 ha;have lb:=List.getElem?_eq_some_iff.1 hb;have hx:=(hby x (List.mem_of_getElem? ha)).2;have hy:=(hby y (List.mem_of_getElem? hb)).2;have hap:Apt x y:=by
   rcases Nat.lt_or_gt_of_ne hab with h | h
   ·have:=List.pairwise_iff_getElem.1 hall a b la.1 lb.1 h;rw[la.2,lb.2]at this;exact this
   ·have:=List.pairwise_iff_getElem.1 hall b a lb.1 la.1 h;rw[la.2,lb.2]at this;exact this.symm
  cases hs:Qe7 x.b (y.b.take x.b.length) with
  | false=>rfl
  | true=>
   have e:=Qp0 _ _ hx (λz hz=>hy z (List.mem_of_mem_take hz)) hs;exact absurd ((congrArg (λz=>z++y.b.drop x.b.length) e).trans ((List.take_append_drop ..).trans (List.append_nil _).symm)) (hap (y.b.drop x.b.length) [])
theorem Xr (H:Qa) (b:Blk) (hw:H.Wf):(H.push b).get H.next=some b∧Ext H (H.push b)∧(H.push b).Wf:=⟨by rw[Qa.get_push,if_pos rfl],(Ext.refl H).push b,hw.push b⟩
theorem Xv {H H':Qa} {i:Nat} {b:Blk} (hw:H.Wf) (hx:Ext H H') (h:H.get i=some b):H'.get i=some b:=by rw[hx.get _ (hw.lt h)];exact h
theorem Qol {H:Qa} {i n c:Nat} {b:Blk} {op:Int} (hw:H.Wf) (h:H.get i=some b) (m:Nat) (hm:H.next<=m):Qj m 6 (.agg #[.int .i64 op,.slice (some ⟨i,0,none⟩) n c])=true:=by
 have:=hw.lt h;simp[Qj,Ab.plain];omega
theorem Qax.cons {H0 H:Qa} {v:Value} {x:Ar} {t:List Ar} (h:Qax H0 H v (x::t)):∃b,v=.slice (some ⟨b,0,none⟩) (x::t).length (x::t).length∧H.get b=some (.cells (Qg (x::t)) Qd false):=by
 rcases h with⟨_,h⟩ | ⟨b,rfl,_,_,h⟩
 ·cases h
 ·exact⟨b,rfl,h (Nat.succ_pos _)⟩
def QR (c k:Int):Ar:=⟨1,⟨c,k⟩,XH,0⟩
def Qfi (k:Int):Ar:=⟨3,⟨0,0⟩,XH,k⟩
def Qom:Ar:=⟨2,⟨0,0⟩,⟨⟨5,3⟩,⟨5,9⟩,8,16,8⟩,0⟩
def ZD (s:Int):Ar:=⟨2,⟨0,0⟩,⟨⟨5,3⟩,⟨0,0⟩,0,0,s⟩,0⟩
section
variable {T:Qa->Prop} {L:Int->List Fm} (hT:∀H H',H.Wf->T H->Ext H H'->T H') (hO:∀op H,T H->Qf prog WY [.int .i64 op] H λu H'=>Qo3 H H' u (L op))
include hT hO
theorem Qtl {op w:Int} {l:List Ar} {ws:List Int} {H Ha:Qa} {b:Nat} (hw0:H.Wf) (hTH:T H) (hx:Ext H Ha) (ga:Ha.get b=some (.cells (Qg l) Qd false)) (hw:Ha.Wf) (hl:l.length<=1000) (hI:∀a∈l,I64 a.n) (he:Vr (L op) op l w=(ws,0)):
  Qf prog QU [.agg #[.int .i64 op,.slice (some ⟨b,0,none⟩) l.length l.length],.int .i64 w,.slice (some ⟨Ha.next,0,none⟩) ws.length ws.length] (Ha.push (.cells (bys ws) 5 false)) λu H'=>u=.bool true∧Ext H H':=by
 obtain⟨g,x,w'⟩:=Xr Ha (.cells (bys ws) 5 false) hw;have gb:=hw.lt ga;refine(Qj7 hT hO (hT _ _ hw0 hTH (hx.trans x)) ⟨_,_,rfl,λ_=>⟨b,_,_,rfl,by rw[x.get _ gb];exact ga⟩⟩ (λn hn=>?_) hl hI (QmE Ha ws) he).mono λu H' h=>⟨h.1,(hx.trans x).trans h.2⟩;have:=x.next;simp[Qj,Ab.plain];omega
theorem Qpf {W:List Int} (h1:Vr (L 9) 9 [QR 1 4,QR 2 4] 0=(W,8)) (h2:Vr (L 1) 1 [QR 4 1,Qfi 1000] 0=([129,193,232,3,0,0],0)) (h3:Vr (L 1) 1 [QR 4 0,Qfi 1000] 0=([5,232,3,0,0],0)) (h4:Vr (L 9) 9 [QR 5 0,Qom] 0=([74,139,68,203,16],0))
  (h5:Vr (L 269) 269 [QR 6 1,QR 6 2,QR 6 3] 0=([197,232,88,203],0)) (h6:Vr (L 269) 269 [QR 6 9,QR 6 2,QR 6 11] 0=([196,65,104,88,203],0))
  (hs1:GZ (L 9) 9 [QR 4 0,ZD 0]=(9,[QR 4 0,ZD 4],0)) {W2:List Ar} (hs2:GZ (L 1) 1 [ZD 0,Qfi 5]=(0,W2,2)) (hs3:GZ (L 12) 12 [QR 4 0,ZD 0]=(12,[QR 4 0,ZD 0],0))
  (hA:∀H,T H->Qf prog XG [] H λu H'=>u=.bool true∧Ext H H') {W4:List Ld} (hm:KR (L 1) 1 [QR 1 0,QR 1 1]=(W4,0)) (hW4:W4.length=4) (H:Qa) (hTH:T H):
  Qf prog Wz [] H λu H'=>u=.bool true∧Ext H H':=by
 refine V3 λhw=>?_;have hI:∀ {l:List Ar},(l.all λa=>decide (-9223372036854775808<=a.n∧a.n<=9223372036854775807))=true->∀a∈l,I64 a.n:=λh a ha=>by
  have:=of_decide_eq_true (List.all_eq_true.1 h a ha);unfold I64;omega
 simp only[Zl,Qc,simprocAttr];generalize hH0:(H.push _).set H.next _=H0;have hX:Ext H H0:=by rw[<- hH0];exact V1 _ _ _
 have w0:H0.Wf:=by rw[<- hH0];exact(hw.push _).set (by rw[Qa.get_push,if_pos rfl]) _
 have gP:H0.get H.next=some (.cells [.int .i64 2,.int .i64 0,.int .i64 0,.int .i64 5,.int .i64 3,.int .i64 5,.int .i64 9,.int .i64 8,.int .i64 16,.int .i64 8,.int .i64 0] Qd false):=by rw[<- hH0,Qa.get_set,if_pos rfl]
 have hnP:=w0.lt gP;clear hH0;have hTH:=hT _ _ hw hTH hX;have X0:=Ext.refl H0;refine(Ye 1 4 H0).thenW ?_;rintro _ H1 _ w1 ⟨rfl,x1⟩;have X1:=X0.trans x1;simp only[Qc,simprocAttr];refine(Ye 2 4 H1).thenW ?_;rintro _ H2 _ w2 ⟨rfl,x2⟩;have X2:=X1.trans x2;simp only[Qc,simprocAttr,Ar.cells,Rg.cells,Mm.cells,XH,List.cons_append,List.nil_append];obtain⟨g3,x3,w3⟩:=Xr H2 (.cells (Qg [QR 1 4,QR 2 4]) Qd false) w2;have X3:=X2.trans x3;change Qf _ _ _ (H2.push (.cells (Qg [QR 1 4,QR 2 4]) Qd false)) _;generalize H2.push (.cells (Qg [QR 1 4,QR 2 4]) Qd false)=H3 at *;refine(Yf 9 _ _ _ H3).thenW ?_;rintro _ H4 _ w4 ⟨rfl,x4⟩;have X4:=X3.trans x4;have G4:=Xv w3 x4 g3;simp only[Qc,simprocAttr];refine(Qe6 hT hO 0 H4 (hT _ _ w0 hTH X4) ⟨_,_,rfl,λ_=>⟨_,_,_,rfl,G4⟩⟩ (Qol w4 G4) (l:=[QR 1 4,QR 2 4]) (by decide) (hI rfl)).thenW ?_;rintro _ H5 _ w5 ⟨v1,rfl,_,x5⟩;have X5:=X4.trans x5;rw[h1];simp only[Qc,simprocAttr];refine(Ye 4 1 H5).thenW ?_;rintro _ H6 _ w6 ⟨rfl,x6⟩;have X6:=X5.trans x6;simp only[Qc,simprocAttr];refine(QmF 1000 H6).thenW ?_;rintro _ H7 _ w7 ⟨rfl,x7⟩;have X7:=X6.trans x7;simp only[Qc,simprocAttr,Ar.cells,Rg.cells,Mm.cells,XH,List.cons_append,List.nil_append];obtain⟨g8,x8,w8⟩:=Xr H7 (.cells (Qg [QR 4 1,Qfi 1000]) Qd false) w7;have X8:=X7.trans x8;change Qf _ _ _ (H7.push (.cells (Qg [QR 4 1,Qfi 1000]) Qd false)) _;generalize H7.push (.cells (Qg [QR 4 1,Qfi 1000]) Qd false)=H8 at *;refine(Yf 1 _ _ _ H8).thenW ?_;rintro _ H9 _ w9 ⟨rfl,x9⟩;have X9:=X8.trans x9;have G9:=Xv w8 x9 g8;simp only[Qc,simprocAttr];change Qf _ _ _ (H9.push (.cells (bys [129,193,232,3,0,0]) 5 false)) _;refine(Qtl hT hO w0 hTH X9 G9 w9 (by decide) (hI rfl) h2).thenW ?_;rintro _ H10 _ w10 ⟨rfl,X10⟩;simp only[Qc,simprocAttr];refine(Ye 4 0 H10).thenW ?_;rintro _ H11 _ w11 ⟨rfl,x11⟩;have X11:=X10.trans x11;simp only[Qc,simprocAttr];refine(QmF 1000 H11).thenW ?_;rintro _ H12 _ w12 ⟨rfl,x12⟩;have X12:=X11.trans x12;simp only[Qc,simprocAttr,Ar.cells,Rg.cells,Mm.cells,XH,List.cons_append,List.nil_append];obtain⟨g13,x13,w13⟩:=Xr H12 (.cells (Qg [QR 4 0,Qfi 1000]) Qd false) w12;have X13:=X12.trans x13;change Qf _ _ _ (H12.push (.cells (Qg [QR 4 0,Qfi 1000]) Qd false)) _;generalize H12.push (.cells (Qg [QR 4 0,Qfi 1000]) Qd false)=H13 at *;refine(Yf 1 _ _ _ H13).thenW ?_;rintro _ H14 _ w14 ⟨rfl,x14⟩;have X14:=X13.trans x14;have G14:=Xv w13 x14 g13;simp only[Qc,simprocAttr];change Qf _ _ _ (H14.push (.cells (bys [5,232,3,0,0]) 5 false)) _;refine(Qtl hT hO w0 hTH X14 G14 w14 (by decide) (hI rfl) h3).thenW ?_;rintro _ H15 _ w15 ⟨rfl,X15⟩;simp only[Qc,simprocAttr];refine⟨by have:=X15.next;omega,?_⟩;refine(Ye 5 0 H15).thenW ?_;rintro _ H16 _ w16 ⟨rfl,x16⟩;have X16:=X15.trans x16;refine⟨x16.eqB,?_⟩;have q16:H16.get H.next=some (.cells [.int .i64 2,.int .i64 0,.int .i64 0,.int .i64 5,.int .i64 3,.int .i64 5,.int .i64 9,.int .i64 8,.int .i64 16,.int .i64 8,.int .i64 0] Qd false):=Xv w0 X16 gP;simp only[Qc,simprocAttr,q16,Ar.cells,Rg.cells,Mm.cells,XH,List.cons_append,List.nil_append];refine⟨by simp[Qj,Ab.plain],?_⟩;obtain⟨g17,x17,w17⟩:=Xr H16 (.cells (Qg [QR 5 0,Qom]) Qd false) w16;have X17:=X16.trans x17;change Qf _ _ _ (H16.push (.cells (Qg [QR 5 0,Qom]) Qd false)) _;generalize H16.push (.cells (Qg [QR 5 0,Qom]) Qd false)=H17 at *;refine(Yf 9 _ _ _ H17).thenW ?_;rintro _ H18 _ w18 ⟨rfl,x18⟩;have X18:=X17.trans x18;have G18:=Xv w17 x18 g17;simp only[Qc,simprocAttr];change Qf _ _ _ (H18.push (.cells (bys [74,139,68,203,16]) 5 false)) _;refine(Qtl hT hO w0 hTH X18 G18 w18 (by decide) (hI rfl) h4).thenW ?_;rintro _ H19 _ w19 ⟨rfl,X19⟩;simp only[Qc,simprocAttr,(show((8:Int)==8)=true from rfl)];refine(Ye 6 1 H19).thenW ?_;rintro _ H20 _ w20 ⟨rfl,x20⟩;have X20:=X19.trans x20;simp only[Qc,simprocAttr];refine(Ye 6 2 H20).thenW ?_;rintro _ H21 _ w21 ⟨rfl,x21⟩;have X21:=X20.trans x21;simp only[Qc,simprocAttr];refine(Ye 6 3 H21).thenW ?_;rintro _ H22 _ w22 ⟨rfl,x22⟩;have X22:=X21.trans x22;simp only[Qc,simprocAttr,Ar.cells,Rg.cells,Mm.cells,XH,List.cons_append,List.nil_append]
 obtain⟨g23,x23,w23⟩:=Xr H22 (.cells (Qg [QR 6 1,QR 6 2,QR 6 3]) Qd false) w22;have X23:=X22.trans x23;change Qf _ _ _ (H22.push (.cells (Qg [QR 6 1,QR 6 2,QR 6 3]) Qd false)) _;generalize H22.push (.cells (Qg [QR 6 1,QR 6 2,QR 6 3]) Qd false)=H23 at *;refine(Yf 269 _ _ _ H23).thenW ?_;rintro _ H24 _ w24 ⟨rfl,x24⟩;have X24:=X23.trans x24;have G24:=Xv w23 x24 g23;simp only[Qc,simprocAttr];change Qf _ _ _ (H24.push (.cells (bys [197,232,88,203]) 5 false)) _;refine(Qtl hT hO w0 hTH X24 G24 w24 (by decide) (hI rfl) h5).thenW ?_;rintro _ H25 _ w25 ⟨rfl,X25⟩;simp only[Qc,simprocAttr];refine(Ye 6 9 H25).thenW ?_;rintro _ H26 _ w26 ⟨rfl,x26⟩;have X26:=X25.trans x26;simp only[Qc,simprocAttr];refine(Ye 6 2 H26).thenW ?_;rintro _ H27 _ w27 ⟨rfl,x27⟩;have X27:=X26.trans x27;simp only[Qc,simprocAttr];refine(Ye 6 11 H27).thenW ?_;rintro _ H28 _ w28 ⟨rfl,x28⟩;have X28:=X27.trans x28;simp only[Qc,simprocAttr,Ar.cells,Rg.cells,Mm.cells,XH,List.cons_append,List.nil_append];obtain⟨g29,x29,w29⟩:=Xr H28 (.cells (Qg [QR 6 9,QR 6 2,QR 6 11]) Qd false) w28;have X29:=X28.trans x29;change Qf _ _ _ (H28.push (.cells (Qg [QR 6 9,QR 6 2,QR 6 11]) Qd false)) _;generalize H28.push (.cells (Qg [QR 6 9,QR 6 2,QR 6 11]) Qd false)=H29 at *;refine(Yf 269 _ _ _ H29).thenW ?_;rintro _ H30 _ w30 ⟨rfl,x30⟩;have X30:=X29.trans x30;have G30:=Xv w29 x30 g29;simp only[Qc,simprocAttr];change Qf _ _ _ (H30.push (.cells (bys [196,65,104,88,203]) 5 false)) _;refine(Qtl hT hO w0 hTH X30 G30 w30 (by decide) (hI rfl) h6).thenW ?_;rintro _ H31 _ w31 ⟨rfl,X31⟩;simp only[Qc,simprocAttr];generalize hgR:(H31.push _).set H31.next _=H32;have x32:Ext H31 H32:=by rw[<- hgR];exact V1 _ _ _
 have X32:=X31.trans x32;have w32:H32.Wf:=by rw[<- hgR];exact(w31.push _).set (by rw[Qa.get_push,if_pos rfl]) _
 have gR:H32.get H31.next=some (.cells [.int .i64 2,.int .i64 0,.int .i64 0,.int .i64 5,.int .i64 3,.int .i64 0,.int .i64 0,.int .i64 0,.int .i64 0,.int .i64 0,.int .i64 0] Qd false):=by rw[<- hgR,Qa.get_set,if_pos rfl]
 clear hgR;have hnR:=w32.lt gR;have Z32:=Ext.refl H32;refine⟨by have:=X32.next;omega,?_⟩;refine(Ye 4 0 H32).thenW ?_;rintro _ H33 _ w33 ⟨rfl,x33⟩;have X33:=X32.trans x33;refine⟨x33.eqB,?_⟩;have q33:H33.get H31.next=some (.cells [.int .i64 2,.int .i64 0,.int .i64 0,.int .i64 5,.int .i64 3,.int .i64 0,.int .i64 0,.int .i64 0,.int .i64 0,.int .i64 0,.int .i64 0] Qd false):=Xv w32 (x33) gR;simp only[Qc,simprocAttr,q33,Ar.cells,Rg.cells,Mm.cells,XH,List.cons_append,List.nil_append];refine⟨by simp[Qj,Ab.plain],?_⟩;obtain⟨g34,x34,w34⟩:=Xr H33 (.cells (Qg [QR 4 0,ZD 0]) Qd false) w33;have X34:=X33.trans x34;change Qf _ _ _ (H33.push (.cells (Qg [QR 4 0,ZD 0]) Qd false)) _;generalize H33.push (.cells (Qg [QR 4 0,ZD 0]) Qd false)=H34 at *;refine(Yf 9 _ _ _ H34).thenW ?_;rintro _ H35 _ w35 ⟨rfl,x35⟩;have X35:=X34.trans x35;have G35:=Xv w34 x35 g34;simp only[Qc,simprocAttr];refine(Qbs hT hO H35 (hT _ _ w0 hTH X35) ⟨_,_,rfl,λ_=>⟨_,_,_,rfl,G35⟩⟩ (Qol w35 G35) (l:=[QR 4 0,ZD 0]) (by decide) (hI rfl)).thenW ?_;rintro _ H36 _ w36 ⟨v36,rfl,n36,x36⟩;have X36:=X35.trans x36;rw[hs1]at n36 ⊢;have r36:H36.get H31.next=some (.cells [.int .i64 2,.int .i64 0,.int .i64 0,.int .i64 5,.int .i64 3,.int .i64 0,.int .i64 0,.int .i64 0,.int .i64 0,.int .i64 0,.int .i64 0] Qd false):=Xv w32 ((((x33).trans x34).trans x35).trans x36) gR;have z36:¬H31.next=H36.next:=by have:=w36.lt r36;omega
 simp only[Qc,simprocAttr,r36,z36,if_false];obtain⟨b36,rfl,c36⟩:=n36.cons;generalize hgS1:(H36.push _).set H36.next _=H37;have x37:Ext H36 H37:=by rw[<- hgS1];exact V1 _ _ _
 have X37:=X36.trans x37;have w37:H37.Wf:=by rw[<- hgS1];exact(w36.push _).set (by rw[Qa.get_push,if_pos rfl]) _
 have gS1:H37.get H36.next=some (.cells [.int .i64 9,.slice (some ⟨b36,0,none⟩) [QR 4 0,ZD 4].length [QR 4 0,ZD 4].length] Qb false):=by rw[<- hgS1,Qa.get_set,if_pos rfl]
 clear hgS1;refine⟨rfl,by simp[Qj,Ab.plain],?_⟩;refine(QmF 5 H37).thenW ?_;rintro _ H38 _ w38 ⟨rfl,x38⟩;have X38:=X37.trans x38;refine⟨x38.eqB,?_⟩;simp only[Qc,simprocAttr,Ar.cells,Rg.cells,Mm.cells,XH,List.cons_append,List.nil_append];obtain⟨g39,x39,w39⟩:=Xr H38 (.cells (Qg [ZD 0,Qfi 5]) Qd false) w38;have X39:=X38.trans x39;change Qf _ _ _ (H38.push (.cells (Qg [ZD 0,Qfi 5]) Qd false)) _;generalize H38.push (.cells (Qg [ZD 0,Qfi 5]) Qd false)=H39 at *;refine(Yf 1 _ _ _ H39).thenW ?_;rintro _ H40 _ w40 ⟨rfl,x40⟩;have X40:=X39.trans x40;have G40:=Xv w39 x40 g39;simp only[Qc,simprocAttr];refine(Qbs hT hO H40 (hT _ _ w0 hTH X40) ⟨_,_,rfl,λ_=>⟨_,_,_,rfl,G40⟩⟩ (Qol w40 G40) (l:=[ZD 0,Qfi 5]) (by decide) (hI rfl)).thenW ?_;rintro _ H41 _ w41 ⟨v41,rfl,n41,x41⟩;have X41:=X40.trans x41;rw[hs2]at n41 ⊢;simp only[Qc,simprocAttr];have o2:v41.oneCell'=true:=by rcases n41 with⟨rfl,_⟩ | ⟨_,rfl,_⟩<;>rfl
 refine⟨by rw[o2];rfl,?_⟩;generalize hgS2:(H41.push _).set H41.next _=H42;have x42:Ext H41 H42:=by rw[<- hgS2];exact V1 _ _ _
 have X42:=X41.trans x42;have w42:H42.Wf:=by rw[<- hgS2];exact(w41.push _).set (by rw[Qa.get_push,if_pos rfl]) _
 have gS2:H42.get H41.next=some (.cells [.int .i64 0,v41] Qb false):=by rw[<- hgS2,Qa.get_set,if_pos rfl]
 clear hgS2;refine⟨by have:=(((((((((x33).trans x34).trans x35).trans x36).trans x37).trans x38).trans x39).trans x40).trans x41).next;omega,?_⟩;refine(Ye 4 0 H42).thenW ?_;rintro _ H43 _ w43 ⟨rfl,x43⟩;have X43:=X42.trans x43;refine⟨x43.eqB,?_⟩;have q43:H43.get H31.next=some (.cells [.int .i64 2,.int .i64 0,.int .i64 0,.int .i64 5,.int .i64 3,.int .i64 0,.int .i64 0,.int .i64 0,.int .i64 0,.int .i64 0,.int .i64 0] Qd false):=Xv w32 (((((((((((x33).trans x34).trans x35).trans x36).trans x37).trans x38).trans x39).trans x40).trans x41).trans x42).trans x43) gR;simp only[Qc,simprocAttr,q43,Ar.cells,Rg.cells,Mm.cells,XH,List.cons_append,List.nil_append];refine⟨by simp[Qj,Ab.plain],?_⟩;obtain⟨g44,x44,w44⟩:=Xr H43 (.cells (Qg [QR 4 0,ZD 0]) Qd false) w43;have X44:=X43.trans x44;change Qf _ _ _ (H43.push (.cells (Qg [QR 4 0,ZD 0]) Qd false)) _;generalize H43.push (.cells (Qg [QR 4 0,ZD 0]) Qd false)=H44 at *;refine(Yf 12 _ _ _ H44).thenW ?_;rintro _ H45 _ w45 ⟨rfl,x45⟩;have X45:=X44.trans x45;have G45:=Xv w44 x45 g44;simp only[Qc,simprocAttr];refine(Qbs hT hO H45 (hT _ _ w0 hTH X45) ⟨_,_,rfl,λ_=>⟨_,_,_,rfl,G45⟩⟩ (Qol w45 G45) (l:=[QR 4 0,ZD 0]) (by decide) (hI rfl)).thenW ?_;rintro _ H46 _ w46 ⟨v46,rfl,n46,x46⟩;have X46:=X45.trans x46;rw[hs3]at n46 ⊢;obtain⟨b46,rfl,c46⟩:=n46.cons;have y1:H46.get H36.next=some (.cells [.int .i64 9,.slice (some ⟨b36,0,none⟩) [QR 4 0,ZD 4].length [QR 4 0,ZD 4].length] Qb false):=Xv w37 (((((((((x38).trans x39).trans x40).trans x41).trans x42).trans x43).trans x44).trans x45).trans x46) gS1;have z1:¬H36.next=H46.next:=by have:=w46.lt y1;omega
 have y2:H46.get b36=some (.cells (Qg [QR 4 0,ZD 4]) Qd false):=Xv w36 ((((((((((x37).trans x38).trans x39).trans x40).trans x41).trans x42).trans x43).trans x44).trans x45).trans x46) c36;have z2:¬b36=H46.next:=by have:=w46.lt y2;omega
 have y4:(Qg [QR 4 0,ZD 4])[20]? = some (.int .i64 4):=rfl;have y5:((4:Int)==4)=true:=rfl;have y6:((2:Int)==2)=true:=rfl;have y7:((0:Int)==0)=true:=rfl;simp only[Qc,simprocAttr,y1,z1,y2,z2,y4,y5,y6,y7,if_false];refine⟨by have:=w46.lt c46;simp[Qj,Ab.plain];omega,by have:=((((((((((((((x33).trans x34).trans x35).trans x36).trans x37).trans x38).trans x39).trans x40).trans x41).trans x42).trans x43).trans x44).trans x45).trans x46).next;omega,?_⟩;generalize hgS3:(H46.push _).set H46.next _=H47;have x47:Ext H46 H47:=by rw[<- hgS3];exact V1 _ _ _
 have X47:=X46.trans x47;have w47:H47.Wf:=by rw[<- hgS3];exact(w46.push _).set (by rw[Qa.get_push,if_pos rfl]) _
 have gS3:H47.get H46.next=some (.cells [.int .i64 12,.slice (some ⟨b46,0,none⟩) 2 2] Qb false):=by rw[<- hgS3,Qa.get_set,if_pos rfl]
 clear hgS3;refine(Ye 4 0 H47).thenW ?_;rintro _ H48 _ w48 ⟨rfl,x48⟩;have X48:=X47.trans x48;refine⟨x48.eqB,?_⟩;have q48:H48.get H31.next=some (.cells [.int .i64 2,.int .i64 0,.int .i64 0,.int .i64 5,.int .i64 3,.int .i64 0,.int .i64 0,.int .i64 0,.int .i64 0,.int .i64 0,.int .i64 0] Qd false):=Xv w32 ((((((((((((((((x33).trans x34).trans x35).trans x36).trans x37).trans x38).trans x39).trans x40).trans x41).trans x42).trans x43).trans x44).trans x45).trans x46).trans x47).trans x48) gR;simp only[Qc,simprocAttr,q48,Ar.cells,Rg.cells,Mm.cells,XH,List.cons_append,List.nil_append];refine⟨by simp[Qj,Ab.plain],?_⟩;obtain⟨g49,x49,w49⟩:=Xr H48 (.cells (Qg [QR 4 0,ZD 0]) Qd false) w48;have X49:=X48.trans x49;change Qf _ _ _ (H48.push (.cells (Qg [QR 4 0,ZD 0]) Qd false)) (kpK (H48.push (.cells (Qg [QR 4 0,ZD 0]) Qd false)) _);generalize H48.push (.cells (Qg [QR 4 0,ZD 0]) Qd false)=H49 at *;refine(Yf 12 _ _ _ H49).thenW ?_;rintro _ H50 _ w50 ⟨rfl,x50⟩;have X50:=X49.trans x50;refine⟨x50.eqB,?_⟩;simp only[Qc,simprocAttr];have m1:=Xv w46 ((((x47).trans x48).trans x49).trans x50) c46;have m2:=Xv w49 x50 g49;refine(Qu8 12 12 _ _ [QR 4 0,ZD 0] [QR 4 0,ZD 0] H50 ⟨_,_,rfl,λ_=>⟨_,_,_,rfl,m1⟩⟩ ⟨_,_,rfl,λ_=>⟨_,_,_,rfl,m2⟩⟩ (by decide) (by decide)).thenW ?_;rintro _ H51 hn51 w51 ⟨rfl,kc,ek⟩;have x51:Ext H50 H51:=by rw[ek]at hn51 ⊢;exact(Ext.refl _).up hn51
 have X51:=X50.trans x51;clear ek;simp only[Qc,simprocAttr,beq_self_eq_true,Bool.true_and,decide_true];refine(hA H51 (hT _ _ w0 hTH X51)).thenW ?_;rintro _ H52 _ w52 ⟨rfl,x52⟩;have X52:=X51.trans x52;simp only[Qc,simprocAttr];refine(Ye 1 0 H52).thenW ?_;rintro _ H53 _ w53 ⟨rfl,x53⟩;have X53:=X52.trans x53;simp only[Qc,simprocAttr];refine(Ye 1 1 H53).thenW ?_;rintro _ H54 _ w54 ⟨rfl,x54⟩;have X54:=X53.trans x54;simp only[Qc,simprocAttr,Ar.cells,Rg.cells,Mm.cells,XH,List.cons_append,List.nil_append];obtain⟨g55,x55,w55⟩:=Xr H54 (.cells (Qg [QR 1 0,QR 1 1]) Qd false) w54;have X55:=X54.trans x55;change Qf _ _ _ (H54.push (.cells (Qg [QR 1 0,QR 1 1]) Qd false)) _;generalize H54.push (.cells (Qg [QR 1 0,QR 1 1]) Qd false)=H55 at *;refine(Yf 1 _ _ _ H55).thenW ?_;rintro _ H56 _ w56 ⟨rfl,x56⟩;have X56:=X55.trans x56;have G56:=Xv w55 x56 g55;simp only[Qc,simprocAttr];refine(Qob hT hO (l:=[QR 1 0,QR 1 1]) (hT _ _ w0 hTH X56) ⟨_,_,rfl,λ_=>⟨_,_,_,rfl,G56⟩⟩ (Qol w56 G56) (by decide) (hI rfl) hm).thenW ?_;rintro _ H57 _ w57 ⟨rfl,x57⟩;have X57:=hX.trans (X56.trans x57);have y8:(((4:Nat):Int)==4)=true:=rfl;simp only[Qc,simprocAttr,hW4,y8,Vs];exact .mk X57.next ⟨rfl,X57⟩
end
end Go.Proofs.YtgepgbbjfhggfaaGreatDoor.code
