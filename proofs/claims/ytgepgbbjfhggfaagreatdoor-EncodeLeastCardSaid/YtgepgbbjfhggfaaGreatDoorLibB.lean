/- field: sizes, bits, signs. -/
import Derived.Test.YtgepgbbjfhggfaaGreatDoorC5Dec
import Derived.Test.YtgepgbbjfhggfaaGreatDoorLibA
import Derived.Test.YtgepgbbjfhggfaaGreatDoorAbD
import Derived.Test.YtgepgbbjfhggfaaGreatDoorLibI
set_option linter.unusedVariables false
set_option linter.unusedSimpArgs false
set_option maxRecDepth 100000
set_option maxHeartbeats 2000000
set_option maxHeartbeats 4000000
noncomputable section
namespace Go.Proofs.YtgepgbbjfhggfaaGreatDoor.code
open Go.Ab
def Qzs (H:Qa) (v:Value) (bs:List Int):Prop:=∃a cap,v=.slice a bs.length cap∧(0<bs.length→∃b o e ro cs,a=some ⟨b,o,none⟩∧H.get b=some (.cells cs e ro)∧∀j,j<bs.length→cs[o+j]? = some (.int .u8 (bs.getD j 0)))
theorem Qzs.ext {H H':Qa} {v:Value} {bs:List Int} (hw:H.Wf) (he:Ext H H') (h:Qzs H v bs):Qzs H' v bs:=by
 obtain⟨a,cap,rfl,h1⟩:=h
 refine⟨a,cap,rfl,fun hn=>?_⟩
 obtain⟨b,o,e,ro,cs,rfl,hb,hc⟩:=h1 hn
 exact⟨b,o,e,ro,cs,rfl,by rw[he.get b (hw.lt hb)];exact hb,hc⟩
def QgX (n:Int):Bool:=(n==1)||(n==2)||(n==4)||(n==8)
theorem Qnf (n:Int) (H:Qa):Qe prog Qbh [.int .i64 n] H fun u H'=>u=.bool (QgX n)∧H'=H:=by
 refine Ql0 fun hw=>?_
 simp(disch:=(first | omega | (repeat (first | rw[Qa.next_push] | rw[Qa.next_set] | rw[Qa.next_up]));try omega)) only[QeA,QBF,simprocAttr,Qdz]
 repeat' (first
   | (refine Qv (fun h=>?_) (fun h=>?_)<;>(try simp only[Bool.not_eq_true',Bool.not_eq_false']at h)<;>simp(disch:=(first | omega | (repeat (first | rw[Qa.next_push] | rw[Qa.next_set] | rw[Qa.next_up]));try omega)) only[QBF,simprocAttr,Qdz,h])
   | fail)
 all_goals refine .mk (Nat.le_refl _) ⟨?_,rfl⟩
 all_goals (simp only[QgX];simp_all)
def Yl (n:Int):Bool:=decide (1≤n)&&decide (n≤64)
theorem ZM (n:Int) (H:Qa):Qe prog Xn [.int .i64 n] H fun u H'=>u=.bool (Yl n)∧H'=H:=by
 refine Qjo fun hw=>?_
 simp(disch:=(first | omega | (repeat (first | rw[Qa.next_push] | rw[Qa.next_set] | rw[Qa.next_up]));try omega)) only[Qcb,QBF,simprocAttr,QaW]
 repeat' (first
   | (refine Qv (fun h=>?_) (fun h=>?_)<;>(try simp only[Bool.not_eq_true',Bool.not_eq_false']at h)<;>simp(disch:=(first | omega | (repeat (first | rw[Qa.next_push] | rw[Qa.next_set] | rw[Qa.next_up]));try omega)) only[QBF,simprocAttr,QaW,h])
   | fail)
 all_goals refine .mk (Nat.le_refl _) ⟨?_,rfl⟩
 all_goals (simp only[Yl];simp_all<;>omega)
def QnV (n bits:Int):Int:=if Yl bits=false then 0 else(IntKind.i64.wrap (IntKind.u64.wrap (IntKind.u64.wrap n * 2 ^ (min (64 - bits).toNat 64)))).fdiv (2 ^ (min (64 - bits).toNat 64))
theorem Qiu (n bits:Int) (H:Qa):Qe prog G7 [.int .i64 n,.int .i64 bits] H fun u H'=>u=.int .i64 (QnV n bits)∧H'=H:=by
 refine Qm9 fun hw=>?_
 simp only[QfU,QBD,simprocAttr]
 refine(ZM bits H).thenW ?_
 rintro _ H _ hw ⟨rfl,rfl⟩
 simp only[QBD,simprocAttr]
 cases q:Yl bits with
 | false=>
  simp only[QBD,simprocAttr,QeC]
  exact .mk (Nat.le_refl _) ⟨by rw[QnV,if_pos q],rfl⟩
 | true=>
  have hb:1≤bits∧bits≤64:=by simpa[Yl] using q
  have e:IntKind.i64.wrap (64 - bits)=64 - bits:=w64 (by unfold I64;omega)
  have h0:0≤64 - bits:=by omega
  have b1:IntKind.u64.bits=64:=rfl
  have b2:IntKind.i64.bits=64:=rfl
  simp only[QBD,simprocAttr,e,h0,b1,b2,QeC]
  exact .mk (Nat.le_refl _) ⟨by rw[QnV,if_neg (by simp[q])],rfl⟩
def bys (l:List Int):List Value:=l.map (Value.int .u8)
theorem YE (l:List Int):(bys l).length=l.length:=List.length_map ..
theorem Vd (l m:List Int):bys (l++m)=bys l++bys m:=List.map_append ..
theorem Qa2 (l:List Int):(bys l).all (·.oneCell')=true:=by
 rw[List.all_eq_true]
 intro v hv
 obtain⟨z,_,rfl⟩:=List.mem_map.1 hv
 rfl
def inB (v:Value) (id:Nat):Prop:=∃o n c,v=.slice (some ⟨id,o,none⟩) n c
def Gx (size:Nat) (e:TypeId) (H0 H:Qa) (v:Value) (n:Nat) (cs:List Value):Prop:=(v=.slice none 0 0∧n=0∧cs=[])∨∃b cap,v=.slice (some ⟨b,0,none⟩) n cap∧H0.next≤b∧H.get b=some (.cells cs e false)∧cs.length=n * size∧(cap=n∨cap=UNK+size∧0<n)
theorem Gx.ext {size:Nat} {e:TypeId} {H0 H H':Qa} {v:Value} {n:Nat} {cs:List Value} (h:Gx size e H0 H v n cs) (hk:∀id,inB v id→H'.get id=H.get id):Gx size e H0 H' v n cs:=by
 rcases h with h | ⟨b,c,rfl,h2,h3,h4⟩
 ·exact .inl h
 ·exact .inr ⟨b,c,rfl,h2,by rw[hk b ⟨_,_,_,rfl⟩];exact h3,h4⟩
theorem Gx.go {size:Nat} {e:TypeId} {H0 H H':Qa} {v:Value} {n:Nat} {cs:List Value} (h:Gx size e H0 H v n cs) (hw:H.Wf) (hx:Ext H H'):Gx size e H0 H' v n cs:=by
 rcases h with h | ⟨b,c,rfl,h2,h3,h4⟩
 ·exact .inl h
 ·exact .inr ⟨b,c,rfl,h2,by rw[hx.get b (hw.lt h3)];exact h3,h4⟩
theorem Gx.low {size:Nat} {e:TypeId} {H0 H:Qa} {v:Value} {n:Nat} {cs:List Value} (h:Gx size e H0 H v n cs) (hw:H.Wf) {id:Nat} (hi:inB v id):H0.next≤id∧id<H.next:=by
 obtain⟨o,n',c,rfl⟩:=hi
 rcases h with⟨h,_,_⟩ | ⟨b,c,h,h2,h3,h4⟩
 ·cases h
 ·cases h;exact⟨h2,hw.lt h3⟩
theorem Gx.sl {size:Nat} {e:TypeId} {H0 H:Qa} {v:Value} {n:Nat} {cs:List Value} (h:Gx size e H0 H v n cs):Vy H v n cs:=by
 rcases h with⟨rfl,rfl,rfl⟩ | ⟨b,c,rfl,h2,h3,h4⟩
 ·exact⟨none,0,rfl,fun h=>absurd h (Nat.lt_irrefl 0)⟩
 ·exact⟨_,_,rfl,fun _=>⟨b,e,false,rfl,h3⟩⟩
theorem Gx.slc {size:Nat} {e:TypeId} {H0 H:Qa} {v:Value} {n:Nat} {cs:List Value} (h:Gx size e H0 H v n cs):∃a c,v=.slice a n c:=by
 rcases h with⟨rfl,rfl,rfl⟩ | ⟨b,c,rfl,_⟩
 ·exact⟨_,_,rfl⟩
 ·exact⟨_,_,rfl⟩
theorem Gx.down {size:Nat} {e:TypeId} {H0 H1 H:Qa} {v:Value} {n:Nat} {cs:List Value} (h:Gx size e H1 H v n cs) (hx:H0.next≤H1.next):Gx size e H0 H v n cs:=by
 rcases h with h | ⟨b,c,rfl,h2,h3,h4⟩
 ·exact .inl h
 ·exact .inr ⟨b,c,rfl,by omega,h3,h4⟩
theorem Gx.src {size:Nat} {e:TypeId} {H0 H:Qa} {v:Value} {n:Nat} {cs:List Value} (h:Gx size e H0 H v n cs):Jh size v H=some (n,cs):=by
 rcases h with⟨rfl,rfl,rfl⟩ | ⟨b,c,rfl,h2,h3,h4,_⟩
 ·simp[Jh]
 ·by_cases hn:n=0
  ·subst hn
   have:cs=[]:=List.length_eq_zero_iff.1 (by omega)
   subst this
   simp[Jh]
  ·rw[Qam h3 hn (by omega),List.drop_zero,List.take_of_length_le (by omega)]
structure GK (v v':Value) (H0 H H':Qa):Prop where
 x:Ext H0 H'
 w:H'.Wf
 keep:∀id,id<H.next→¬inB v id→H'.get id=H.get id
 next:H.next≤H'.next
 new:∀id,inB v' id→inB v id∨H.next≤id
theorem Qbn {size:Nat} {e bytes:Nat} {H0 H:Qa} {v x:Value} {n m:Nat} {cs ms:List Value} {k:Value→Qa→Prop} (hs:Gx size e H0 H v n cs) (hx:Ext H0 H) (hw:H.Wf) (hsrc:Jh size x H=some (m,ms)) (hone:ms.all (·.oneCell')=true) (hml:ms.length=m * size) (hb:(n+m) * bytes≤140737488355328) (hn:n+m≤9223372036854775807)
  (h:∀v' H',Gx size e H0 H' v' (n+m) (cs++ms)→GK v v' H0 H H'→k v' H'):Qhv e size bytes v x H k:=by
 have hnn:=hx.next
 by_cases hm:m=0
 ·subst hm
  have hms:ms=[]:=List.length_eq_zero_iff.1 (by omega)
  subst hms
  have hr:Y7 e size bytes v x H=some (v,H):=by
   unfold Y7
   rw[hsrc]
   rcases hs with⟨rfl,rfl,rfl⟩ | ⟨b,c,rfl,h2,h3,h4,h5⟩
   ·rfl
   ·simp only[List.all_nil,if_true]
    rw[if_pos]
    rcases h5 with rfl | ⟨rfl,_⟩
    ·first | exact .inl (Nat.le_refl _) | exact .inl (by omega) | simp
    ·first | exact .inl (by omega) | simp
  unfold Qhv
  rw[hr,Qr]
  rw[Nat.add_zero,List.append_nil]at h
  exact h v H hs ⟨hx,hw,fun _ _ _=>rfl,Nat.le_refl _,fun id hi=>.inl hi⟩
 ·rcases hs with⟨rfl,rfl,rfl⟩ | ⟨b,c,rfl,h2,h3,h4,h5⟩
  ·refine QlE hsrc hone hm (by rw[Nat.zero_add]at hb;exact hb) (by omega) (h _ _ (.inr ⟨H.next,_,by rw[Nat.zero_add],hnn,by rw[Qa.get_push,if_pos rfl,List.nil_append],by rw[List.nil_append,Nat.zero_add];exact hml,.inr ⟨rfl,by omega⟩⟩) ⟨hx.push _,hw.push _,fun id hid _=>by rw[Qa.get_push,if_neg (by omega)],by rw[Qa.next_push];omega,?_⟩)
   rintro id ⟨o,n',c,he⟩
   cases he;exact .inr (Nat.le_refl _)
  ·have hbl:=hw.lt h3
   rcases Nat.lt_or_ge c UNK with hc | hc
   ·have hcn:c=n:=by rcases h5 with h | h;exact h;omega
    subst hcn
    have e1:(cs.drop 0).take (c * size)++ms=cs++ms:=by rw[List.drop_zero,List.take_of_length_le (by omega)]
    refine Qi1 hsrc hone hm h3 (by omega) hb hn hc (by omega) (h _ _ (.inr ⟨H.next,_,rfl,hnn,by rw[Qa.get_push,if_pos rfl,e1],by rw[List.length_append,h4,hml,Nat.add_mul],.inr ⟨rfl,by omega⟩⟩) ⟨hx.push _,hw.push _,fun id hid _=>by rw[Qa.get_push,if_neg (by omega)],by rw[Qa.next_push];omega,?_⟩)
    rintro id ⟨o,n',c,he⟩
    cases he;exact .inr (Nat.le_refl _)
   ·refine Qqh rfl hsrc hone hm h3 (by rw[Nat.zero_add];omega) hb hn hc (h _ _ (.inr ⟨H.next,_,rfl,hnn,?_,by rw[List.length_append,h4,hml,Nat.add_mul],.inr ⟨rfl,by omega⟩⟩) ⟨?_,?_,?_,by rw[Qa.next_push,Qa.next_kill];omega,?_⟩)
    ·rw[Qa.get_push,Qa.next_kill,if_pos rfl,List.drop_zero]
    ·refine⟨by rw[Qa.next_push,Qa.next_kill];omega,fun id hid=>?_⟩
     rw[Qa.get_push,Qa.next_kill,if_neg (by omega),Qa.get_kill,if_neg (by omega)]
     exact hx.get id hid
    ·exact(hw.kill b).push _
    ·intro id hid hnb
     have hne:¬id=b:=fun h=>hnb ⟨_,_,_,by rw[h]⟩
     rw[Qa.get_push,Qa.next_kill,if_neg (by omega),Qa.get_kill,if_neg hne]
    ·rintro id ⟨o,n',c,he⟩
     cases he;exact .inr (Nat.le_refl _)
theorem Qwh {size:Nat} {e bytes:Nat} {H0 H:Qa} {v x:Value} {n m:Nat} {cs ms:List Value} {k:Value→Qa→Prop} (hs:Gx size e H0 H v n cs) (hfull:∃a,v=.slice a n n) (hw:H.Wf) (hsrc:Jh size x H=some (m,ms)) (hone:ms.all (·.oneCell')=true) (hm:m≠0) (hml:ms.length=m * size) (hb:(n+m) * bytes≤140737488355328) (hn:n+m≤9223372036854775807) (hu:n<UNK)
  (h:∀v' H',Gx size e H H' v' (n+m) (cs++ms)→Ext H H'→H'.Wf→(∃b,v'=.slice (some ⟨b,0,none⟩) (n+m) (UNK+size))→k v' H'):Qhv e size bytes v x H k:=by
 rcases hs with⟨rfl,rfl,rfl⟩ | ⟨b,c,rfl,h2,h3,h4,h5⟩
 ·refine QlE hsrc hone hm (by rw[Nat.zero_add]at hb;exact hb) (by omega) (h _ _ (.inr ⟨H.next,_,by rw[Nat.zero_add],Nat.le_refl _,by rw[Qa.get_push,if_pos rfl,List.nil_append],by rw[List.nil_append,Nat.zero_add];exact hml,.inr ⟨rfl,by omega⟩⟩) ((Ext.refl H).push _) (hw.push _) ⟨_,by rw[Nat.zero_add]⟩)
 ·obtain⟨a,ha⟩:=hfull
  cases ha
  have e1:(cs.drop 0).take (n * size)++ms=cs++ms:=by rw[List.drop_zero,List.take_of_length_le (by omega)]
  exact Qi1 hsrc hone hm h3 (by omega) hb hn hu (by omega) (h _ _ (.inr ⟨H.next,_,rfl,Nat.le_refl _,by rw[Qa.get_push,if_pos rfl,e1],by rw[List.length_append,h4,hml,Nat.add_mul],.inr ⟨rfl,by omega⟩⟩) ((Ext.refl H).push _) (hw.push _) ⟨_,rfl⟩)
theorem QxS {size:Nat} {e:TypeId} {H0 H:Qa} {v:Value} {n:Nat} {cs:List Value} (h:Gx size e H0 H v n cs) (hu:n<UNK):∃a,Jg size v none (some (n:Int)) (some (n:Int))=some (.slice a n n)∧Gx size e H0 H (.slice a n n) n cs:=by
 rcases h with⟨rfl,rfl,rfl⟩ | ⟨b,c,rfl,h2,h3,h4,h5⟩
 ·exact⟨none,rfl,.inl ⟨rfl,rfl,rfl⟩⟩
 ·refine⟨some ⟨b,0,none⟩,?_,.inr ⟨b,n,rfl,h2,h3,h4,.inl rfl⟩⟩
  unfold Jg
  simp only[Option.getD_none,Option.getD_some]
  rcases Nat.lt_or_ge c UNK with hc | hc
  ·rw[if_neg (by omega),if_pos (by omega),show(n:Int).toNat - (0:Int).toNat=n by omega]
   by_cases hn:n=0
   ·subst hn;rfl
   ·rw[if_neg (by omega),show 0+(0:Int).toNat * size=0 by simp]
  ·rw[if_pos hc,if_pos (by omega),show(n:Int).toNat - (0:Int).toNat=n by omega,show 0+(0:Int).toNat * size=0 by simp]
def QxT (n bits:Int):Int:=if Yl bits=false then 0 else IntKind.i64.wrap ((IntKind.u64.wrap (IntKind.u64.wrap n * 2 ^ (min (64 - bits).toNat 64))).fdiv (2 ^ (min (64 - bits).toNat 64)))
theorem QqA (n bits:Int) (H:Qa):Qe prog Qee [.int .i64 n,.int .i64 bits] H fun u H'=>u=.int .i64 (QxT n bits)∧H'=H:=by
 refine QoP fun hw=>?_
 simp only[Qin,QBD,simprocAttr]
 refine(ZM bits H).thenW ?_
 rintro _ H _ hw ⟨rfl,rfl⟩
 simp only[QBD,simprocAttr]
 cases q:Yl bits with
 | false=>
  simp only[QBD,simprocAttr,QfV]
  exact .mk (Nat.le_refl _) ⟨by rw[QxT,if_pos q],rfl⟩
 | true=>
  have hb:1≤bits∧bits≤64:=by simpa[Yl] using q
  have e:IntKind.i64.wrap (64 - bits)=64 - bits:=w64 (by unfold I64;omega)
  have h0:0≤64 - bits:=by omega
  have b1:IntKind.u64.bits=64:=rfl
  have b2:IntKind.i64.bits=64:=rfl
  simp only[QBD,simprocAttr,e,h0,b1,b2,QfV]
  exact .mk (Nat.le_refl _) ⟨by rw[QxT,if_neg (by simp[q])],rfl⟩
def Qtv (n bits:Int):Bool:=Yl bits&&(QnV n bits==n||QxT n bits==n)
theorem QoW (n bits:Int) (H:Qa):Qe prog QcN [.int .i64 n,.int .i64 bits] H fun u H'=>u=.bool (Qtv n bits)∧H'=H:=by
 refine Qm6 fun hw=>?_
 have q1:=fun H=>ZM bits H
 have q2:=fun H=>Qiu n bits H
 have q3:=fun H=>QqA n bits H
 unfold Qtv
 simp only[QfR,QBD,simprocAttr]
 refine(q1 H).thenW ?_
 rintro _ H _ hw ⟨rfl,rfl⟩
 cases Yl bits with
 | false=>
  simp only[QBD,simprocAttr,VS]
  exact .mk (Nat.le_refl _) ⟨rfl,rfl⟩
 | true=>
  simp only[QBD,simprocAttr]
  refine(q2 H).thenW ?_
  rintro _ H _ hw ⟨rfl,rfl⟩
  simp only[QBD,simprocAttr]
  cases QnV n bits==n with
  | true=>
   simp only[QBD,simprocAttr,VS]
   exact .mk (Nat.le_refl _) ⟨rfl,rfl⟩
  | false=>
   simp only[QBD,simprocAttr]
   refine(q3 H).thenW ?_
   rintro _ H _ hw ⟨rfl,rfl⟩
   simp only[QBD,simprocAttr,VS]
   exact .mk (Nat.le_refl _) ⟨rfl,rfl⟩
def Qtw (n bits:Int):Bool:=Yl bits&&(QnV n bits==n)
theorem QoX (n bits:Int) (H:Qa):Qe prog QcR [.int .i64 n,.int .i64 bits] H fun u H'=>u=.bool (Qtw n bits)∧H'=H:=by
 refine Qne fun hw=>?_
 have q1:=fun H=>ZM bits H
 have q2:=fun H=>Qiu n bits H
 unfold Qtw
 simp only[QfY,QBD,simprocAttr]
 refine(q1 H).thenW ?_
 rintro _ H _ hw ⟨rfl,rfl⟩
 cases Yl bits with
 | false=>
  simp only[QBD,simprocAttr,QeJ]
  exact .mk (Nat.le_refl _) ⟨rfl,rfl⟩
 | true=>
  simp only[QBD,simprocAttr]
  refine(q2 H).thenW ?_
  rintro _ H _ hw ⟨rfl,rfl⟩
  simp only[QBD,simprocAttr,QeJ]
  exact .mk (Nat.le_refl _) ⟨rfl,rfl⟩
def Qtx (n:Int) (i:Nat):Int:=IntKind.u8.wrap ((IntKind.u64.wrap n).fdiv (2 ^ (min (8 * i) 64)))
def QgY (n:Int) (sz:Nat):List Int:=(List.range sz).map (Qtx n)
def Ky (n sz:Int):List Int×Int:=if QgX sz=false then([],2) else if Qtv n (8 * sz)=false then([],5) else(QgY n sz.toNat,0)
theorem Qkd (n sz:Int) (hn:I64 n) (H:Qa):Qe prog KY [.int .i64 n,.int .i64 sz] H fun u H'=>∃v,u=.tuple #[v,.int .i64 (Ky n sz).2]∧Gx 1 5 H H' v (Ky n sz).1.length (bys (Ky n sz).1)∧Ext H H':=by
 refine QoN fun hw=>?_
 unfold Ky
 simp only[Qii,QBD,simprocAttr]
 refine(Qnf sz H).thenW ?_
 rintro _ H _ hw ⟨rfl,rfl⟩
 cases h1:QgX sz with
 | false=>
  simp only[QBD,simprocAttr,Bool.not_false,Qbk]
  exact .mk (Nat.le_refl _) ⟨_,rfl,.inl ⟨rfl,rfl,rfl⟩,.refl _⟩
 | true=>
  obtain⟨s,hs,hs8,hs1⟩:∃s:Nat,sz=s∧s≤8∧1≤s:=by
   have:sz=1∨sz=2∨sz=4∨sz=8:=by simpa[QgX,or_assoc] using h1
   exact⟨sz.toNat,by omega,by omega,by omega⟩
  subst hs
  have w8:IntKind.i64.wrap (8 * (s:Int))=8 * (s:Int):=w64 (by unfold I64;omega)
  simp only[QBD,simprocAttr,Bool.not_true,w8]
  refine(QoW n (8 * (s:Int)) H).thenW ?_
  rintro _ H _ hw ⟨rfl,rfl⟩
  cases h2:Qtv n (8 * (s:Int)) with
  | false=>
   simp only[QBD,simprocAttr,Bool.not_false,Qbk]
   exact .mk (Nat.le_refl _) ⟨_,rfl,.inl ⟨rfl,rfl,rfl⟩,.refl _⟩
  | true=>
   simp only[QBD,simprocAttr,Bool.not_true,if_false,reduceCtorEq,Int.toNat_natCast]
   refine⟨⟨by omega,by omega,by omega,by omega⟩,?_⟩
   refine Qy (fun m A' H'=>∃i:Nat,i≤s∧m=s - i∧H'.Wf∧Ext H H'∧H'.get H.next=some (.cells (bys (QgY n i)++List.replicate (s - i) (.int .u8 0)) 5 false)∧A' 0=.int .i64 n∧A' 1=.int .i64 s∧A' 6=.slice (some ⟨H.next,0,none⟩) s s∧A' 18=.int .i64 s∧A' 19=.int .i64 i) s ?_ ?_
   ·refine⟨0,Nat.zero_le _,by omega,hw.push _,(Ext.refl H).push _,?_,?_,?_,?_,?_,?_⟩
    ·rw[Qa.get_push,if_pos rfl]
     have h8:W9 [Value.int .u8 0].toArray s=List.replicate s (.int .u8 0):=by
      unfold W9
      rw[List.eq_replicate_iff]
      refine⟨by simp,fun b hb=>?_⟩
      obtain⟨i,_,rfl⟩:=List.mem_map.1 hb
      show([Value.int .u8 0].toArray)[i % 1]! = _
      rw[Nat.mod_one];rfl
     exact congrArg (fun c=>some (Blk.cells c 5 false)) h8
    all_goals simp only[QBE,simprocAttr]
    all_goals rfl
   ·rintro m A' H' ⟨i,hi,rfl,hw',hx,hg,r0,r1,r6,r18,r19⟩
    simp only[QBD,simprocAttr,r18,r19]
    refine Qg (fun h3=>?_) (fun h3=>?_)
    ·have h3:i<s:=by have:=of_decide_eq_true h3;omega
     have d1:(0:Int)≤i∧(i:Int)<s:=by omega
     have d3:(i:Int).toNat=i:=by omega
     have ei:IntKind.i64.wrap ((i:Int)+1)=((i+1:Nat):Int):=by rw[w64 (by unfold I64;omega)];omega
     have e8:IntKind.i64.wrap (8 * (i:Int))=((8 * i:Nat):Int):=by rw[w64 (by unfold I64;omega)];omega
     simp only[QBD,simprocAttr,r0,r6,r19,d1,d3,ei,e8,hg]
     have hl1:(bys (QgY n i)).length=i:=by rw[YE];simp[QgY]
     have hsp:splice (bys (QgY n i)++List.replicate (s - i) (.int .u8 0)) i [.int .u8 (Qtx n i)]=bys (QgY n (i+1))++List.replicate (s - (i+1)) (.int .u8 0):=by
      have e1:QgY n (i+1)=QgY n i++[Qtx n i]:=by simp[QgY,List.range_succ]
      have e2:s - i=(s - (i+1))+1:=by omega
      unfold splice
      rw[e1,Vd,e2,List.replicate_succ,List.take_append_of_le_length (by omega),List.take_of_length_le (by omega),List.drop_append,hl1]
      have hl2:(QgY n i).length=i:=by simp[QgY]
      simp[bys,hl2]
     refine⟨by omega,by rw[List.length_append,hl1,List.length_replicate];omega,s - (i+1),by omega,i+1,by omega,rfl,?_,?_,?_,?_,?_,?_,?_,?_⟩
     ·exact hw'.set hg _
     ·exact hx.set (Nat.le_refl _) _
     ·have h64:min (((8 * i:Nat):Int)).toNat IntKind.u64.bits=min (8 * i) 64:=rfl
      rw[Qa.get_set,if_pos rfl,← hsp]
      unfold Qtx splice
      rw[h64];rfl
     all_goals simp only[QBE,simprocAttr,r0,r1,r6,r18]
    ·have h3:i=s:=by have:=of_decide_eq_false h3;omega
     subst h3
     simp only[QBD,simprocAttr,r6,Qbk]
     rw[Nat.sub_self,List.replicate_zero,List.append_nil]at hg
     have hl:(QgY n i).length=i:=by simp[QgY]
     exact .mk hx.next ⟨_,rfl,.inr ⟨H.next,i,by rw[hl],Nat.le_refl _,hg,by rw[YE,Nat.mul_one],.inl (by rw[hl])⟩,hx⟩
def W6 (r:Rg):Int:=if Yu r=true then r.n % 8 else 0
def Z8 (r:Rg):Int:=if Yu r=true then r.n / 8 else 0
theorem Qzt {r:Rg} (h:Yu r=true):0≤r.n∧r.n<16:=by
 unfold Yu Qem at h
 have h:=of_decide_eq_true h
 split at h
 ·simp at h;omega
 ·split at h
  ·simp at h;omega
  ·split at h<;>simp at h<;>omega
theorem QoY (r:Rg):0≤W6 r∧W6 r<8:=by
 unfold W6
 split<;>omega
theorem Qiv (r:Rg):0≤Z8 r∧Z8 r<2:=by
 unfold Z8
 split
 ·rename_i h
  have:=Qzt h
  omega
 ·omega
theorem Kz (r:Rg) (H:Qa):Qe prog Y9 [.agg r.cells.toArray] H fun u H'=>u=.int .i64 (W6 r)∧∃k,H'=H.up k:=by
 refine Qsq fun hw=>?_
 have q:=Z5 r
 have hv:=@Qzt r
 unfold W6
 obtain⟨v,ev⟩:∃v,Yu r=v:=⟨_,rfl⟩
 rw[ev]at q hv ⊢
 obtain⟨c,n⟩:=r
 simp only[Rg.cells]at q
 simp only[Rg.cells,QlY,sxA,sxB,Nat.reduceBEq,Nat.reduceEqDiff,reduceCtorEq,mxA,mxB,Nat.reduceAdd,reduceIte,Nat.reduceLeDiff,splice]
 refine(q _).thenW ?_
 rintro _ _ hn hw2 ⟨rfl,k,rfl⟩
 simp only[Qa.next_push,Qa.next_up]at hn
 cases v with
 | false=>
  simp only[sxA,sxB,Nat.reduceBEq,Nat.reduceEqDiff,reduceCtorEq,mxA,mxB,Nat.reduceAdd,reduceIte,Nat.reduceLeDiff,splice,Bool.not_false,Qj8]
  exact .ext hw (((Ext.refl H).push _).up (by rw[Qa.next_push];exact hn)) ⟨by simp,_,rfl⟩
 | true=>
  have hb:=hv rfl
  simp only[sxA,sxB,Nat.reduceBEq,Nat.reduceEqDiff,reduceCtorEq,mxA,mxB,Nat.reduceAdd,reduceIte,Nat.reduceLeDiff,splice,Bool.not_true,Qj8]
  have e:n.tmod 8=n % 8:=Int.tmod_eq_emod_of_nonneg hb.1
  exact⟨by decide,.ext hw (((Ext.refl H).push _).up (by rw[Qa.next_push];exact hn)) ⟨by rw[e],_,rfl⟩⟩
theorem V1 (r:Rg) (H:Qa):Qe prog YO [.agg r.cells.toArray] H fun u H'=>u=.int .i64 (Z8 r)∧∃k,H'=H.up k:=by
 refine Qqu fun hw=>?_
 have q:=Z5 r
 have hv:=@Qzt r
 unfold Z8
 obtain⟨v,ev⟩:∃v,Yu r=v:=⟨_,rfl⟩
 rw[ev]at q hv ⊢
 obtain⟨c,n⟩:=r
 simp only[Rg.cells]at q
 simp only[Rg.cells,Qj9,sxA,sxB,Nat.reduceBEq,Nat.reduceEqDiff,reduceCtorEq,mxA,mxB,Nat.reduceAdd,reduceIte,Nat.reduceLeDiff,splice]
 refine(q _).thenW ?_
 rintro _ _ hn hw2 ⟨rfl,k,rfl⟩
 simp only[Qa.next_push,Qa.next_up]at hn
 cases v with
 | false=>
  simp only[sxA,sxB,Nat.reduceBEq,Nat.reduceEqDiff,reduceCtorEq,mxA,mxB,Nat.reduceAdd,reduceIte,Nat.reduceLeDiff,splice,Bool.not_false,Qik]
  exact .ext hw (((Ext.refl H).push _).up (by rw[Qa.next_push];exact hn)) ⟨by simp,_,rfl⟩
 | true=>
  have hb:=hv rfl
  simp only[sxA,sxB,Nat.reduceBEq,Nat.reduceEqDiff,reduceCtorEq,mxA,mxB,Nat.reduceAdd,reduceIte,Nat.reduceLeDiff,splice,Bool.not_true,Qik]
  have e:IntKind.i64.wrap (n.tdiv 8)=n / 8:=by
   rw[Int.tdiv_eq_ediv_of_nonneg hb.1]
   have hb':0≤n∧n<16:=hb
   exact w64 (show I64 (n / 8) by unfold I64;omega)
  exact⟨by decide,.ext hw (((Ext.refl H).push _).up (by rw[Qa.next_push];exact hn)) ⟨by rw[e],_,rfl⟩⟩
def QoZ (r:Rg):Bool:=(r.c==1)&&decide (4≤r.n)&&decide (r.n≤7)
def Qty (r:Rg):Bool:=(r.c==2)&&Yu r
theorem QqB (r:Rg) (H:Qa):Qe prog Qeg [.agg r.cells.toArray] H fun u H'=>u=.bool (QoZ r)∧∃k,H'=H.up k:=by
 refine QoT fun hw=>?_
 obtain⟨c,n⟩:=r
 unfold QoZ
 simp only[Rg.cells,Qiq,sxA,sxB,Nat.reduceBEq,Nat.reduceEqDiff,reduceCtorEq,mxA,mxB,Nat.reduceAdd,reduceIte,Nat.reduceLeDiff,splice]
 cases h:c==1<;>cases h2:decide (4≤n)<;>simp only[sxA,sxB,Nat.reduceBEq,Nat.reduceEqDiff,reduceCtorEq,mxA,mxB,Nat.reduceAdd,reduceIte,Nat.reduceLeDiff,splice,h,h2,Qnd]
 all_goals exact .ext hw ((Ext.refl H).push _) ⟨by simp,_,rfl⟩
theorem Qst (r:Rg) (H:Qa):Qe prog Qgt [.agg r.cells.toArray] H fun u H'=>u=.bool (Qty r)∧∃k,H'=H.up k:=by
 refine Qqx fun hw=>?_
 have q:=Z5 r
 unfold Qty
 obtain⟨v,ev⟩:∃v,Yu r=v:=⟨_,rfl⟩
 rw[ev]at q ⊢
 obtain⟨c,n⟩:=r
 simp only[Rg.cells]at q
 simp only[Rg.cells,Qkc,sxA,sxB,Nat.reduceBEq,Nat.reduceEqDiff,reduceCtorEq,mxA,mxB,Nat.reduceAdd,reduceIte,Nat.reduceLeDiff,splice]
 cases h:c==2 with
 | false=>
  simp only[sxA,sxB,Nat.reduceBEq,Nat.reduceEqDiff,reduceCtorEq,mxA,mxB,Nat.reduceAdd,reduceIte,Nat.reduceLeDiff,splice,h,Qir]
  exact .ext hw ((Ext.refl H).push _) ⟨rfl,_,rfl⟩
 | true=>
  simp only[sxA,sxB,Nat.reduceBEq,Nat.reduceEqDiff,reduceCtorEq,mxA,mxB,Nat.reduceAdd,reduceIte,Nat.reduceLeDiff,splice,h]
  refine(q _).thenW ?_
  rintro _ _ hn hw2 ⟨rfl,k,rfl⟩
  simp only[Qa.next_push,Qa.next_up]at hn
  simp only[sxA,sxB,Nat.reduceBEq,Nat.reduceEqDiff,reduceCtorEq,mxA,mxB,Nat.reduceAdd,reduceIte,Nat.reduceLeDiff,splice,Qir]
  exact .ext hw (((Ext.refl H).push _).up (by rw[Qa.next_push];exact hn)) ⟨rfl,_,rfl⟩
def QI (h m l:Int):Int:=h * 64+m * 8+l
theorem Qwi:∀h:Fin 4,∀m:Fin 8,∀l:Fin 8,IntKind.u8.wrap (IntKind.i64.wrap (BitVec.ofInt IntKind.i64.bits (IntKind.i64.wrap (BitVec.ofInt IntKind.i64.bits (IntKind.i64.wrap ((h:Nat) * 2 ^ min ((6:Int)).toNat IntKind.i64.bits)) ||| BitVec.ofInt IntKind.i64.bits (IntKind.i64.wrap ((m:Nat) * 2 ^ min ((3:Int)).toNat IntKind.i64.bits))).toNat) ||| BitVec.ofInt IntKind.i64.bits ((l:Nat):Int)).toNat)=QI (h:Nat) (m:Nat) (l:Nat):=by decide +kernel
theorem Xz (h m l:Int) (hh:0≤h∧h<4) (hm:0≤m∧m<8) (hl:0≤l∧l<8) (H:Qa):Qe prog Wq [.int .i64 h,.int .i64 m,.int .i64 l] H fun u H'=>u=.int .u8 (QI h m l)∧H'=H:=by
 refine Qm7 fun hw=>?_
 simp only[QfS,sxA,sxB,Nat.reduceBEq,Nat.reduceEqDiff,reduceCtorEq,mxA,mxB,Nat.reduceAdd,reduceIte,Nat.reduceLeDiff,splice,Ql1]
 have e:=Qwi ⟨h.toNat,by omega⟩ ⟨m.toNat,by omega⟩ ⟨l.toNat,by omega⟩
 simp only[Int.toNat_of_nonneg hh.1,Int.toNat_of_nonneg hm.1,Int.toNat_of_nonneg hl.1]at e
 refine⟨by decide,by decide,.mk (Nat.le_refl _) ⟨?_,rfl⟩⟩
 rw[← e]
theorem Qa3 (n sz:Int) (hn:I64 n) (H:Qa):Qe prog YS [.int .i64 n,.int .i64 sz] H fun v H'=>Gx 1 5 H H' v (Ky n sz).1.length (bys (Ky n sz).1)∧Ext H H':=by
 refine QoQ fun hw=>?_
 simp only[Qio,sxA,sxB,Nat.reduceBEq,Nat.reduceEqDiff,reduceCtorEq,mxA,mxB,Nat.reduceAdd,reduceIte,Nat.reduceLeDiff,splice]
 refine(Qkd n sz hn H).thenW ?_
 rintro _ H1 _ hw1 ⟨v,rfl,hv,hx⟩
 simp only[sxA,sxB,Nat.reduceBEq,Nat.reduceEqDiff,reduceCtorEq,mxA,mxB,Nat.reduceAdd,reduceIte,Nat.reduceLeDiff,splice,Qna]
 exact .mk hx.next ⟨hv,hx⟩
def noK:CallF:=fun _ _ _=>none
theorem Qwj:CallOk prog noK:=fun _ _ _ _ _ h=>by cases h
def isW (u:Value):Option (Value×Qa)→Bool
 | some (v,_)=>QbA 6 u v
 | none=>false
theorem QqC {F G k:Nat} {f:FuncId} {args:List Value} {u:Value} (he:entered prog f=true) (ha:args.all Ab.plain=true) (hu:Ab.plain u=true) (h:isW u ((run prog noK F G k).fn f args (H0 prog))=true) (H:Qa):Qe prog f args H fun v H'=>v=u∧H'=H:=by
 unfold isW at h
 split at h
 ·rename_i v H1 hr
  have hd:=((QiX Qwj k).fn f args _ _ H1 hr).does he
  have e:u=v:=Qai 6 _ _ h
  subst e
  exact QmO he (Qv2 hd ha hu H)
 ·cases h
def KA (n:Int):Int:=if n=2 then 1 else if n=4 then 2 else if n=8 then 3 else 0
theorem QqD (n:Int):0≤KA n∧KA n<4:=by unfold KA;repeat' (split<;>try omega)
theorem Qsu:(([1,2,4,8]:List Int).all fun n=>isW (.int .i64 (KA n)) ((run prog noK 100 5 10).fn KM [.int .i64 n] (H0 prog)))=true:=by kernel_rfl
theorem QfZ (n:Int) (hn:WZ n=true) (H:Qa):Qe prog KM [.int .i64 n] H fun u H'=>u=.int .i64 (KA n)∧H'=H:=by
 have hm:n∈([1,2,4,8]:List Int):=by
  unfold WZ at hn
  simp only[Bool.or_eq_true,beq_iff_eq]at hn
  simp only[List.mem_cons,List.not_mem_nil,or_false]
  omega
 exact QqC (by kernel_rfl) rfl rfl (List.all_eq_true.1 Qsu n hm) H
structure Ld where
 b:List Int
 x:Int
 h:Int
 deriving DecidableEq
def LdV (H0 H:Qa) (w:Ld) (v:Value):Prop:=∃s,v=.agg #[s,.int .i64 w.x,.int .i64 w.h]∧Gx 1 5 H0 H s w.b.length (bys w.b)
theorem QeK (n sz:Int) (h:sz≤8):(Ky n sz).1.length≤8:=by
 unfold Ky
 split
 ·simp
 ·split
  ·simp
  ·simp[QgY];omega
def Qc2 (mid:Int) (ix:Rg) (f d:Int):Ld:=⟨[QI 0 mid 4,bif isR ix 0 0 then QI 0 4 5 else QI (KA f) (W6 ix) 5]++(Ky d 4).1,Z8 ix,0⟩
theorem Qf0 (mid:Int) (ix:Rg) (f d:Int) (hm:0≤mid∧mid<8) (hf:isR ix 0 0=false→WZ f=true) (hd:I64 d) (H:Qa):
  Qe prog KL [.int .i64 mid,.agg ix.cells.toArray,.int .i64 f,.int .i64 d] H fun v H'=>LdV H H' (Qc2 mid ix f d) v∧Ext H H':=by
 refine Ql5 fun hw=>?_
 have hl:=QoY ix
 have hsc:=QqD f
 have q1:=Kz ix
 have q2:=V1 ix
 have hpl:=QeK d 4 (by decide)
 have he:(ix.c==0&&ix.n==0)=isR ix 0 0:=rfl
 have j45:QI 0 4 5=37:=rfl
 obtain⟨w,ew⟩:∃w,w=Qc2 mid ix f d:=⟨_,rfl⟩
 rw[← ew]
 unfold Qc2 at ew
 obtain⟨lo,elo⟩:∃lo,W6 ix=lo:=⟨_,rfl⟩
 obtain⟨hi,ehi⟩:∃hi,Z8 ix=hi:=⟨_,rfl⟩
 rw[elo]at q1 hl ew
 rw[ehi]at q2 ew
 clear elo ehi
 obtain⟨c,n⟩:=ix
 simp only[Rg.cells]at q1 q2
 simp only[Rg.cells,QeD,QBD,simprocAttr]
 generalize hH1:Qa.push (Qa.push H _) _=H1
 have hx1:Ext H H1:=by rw[← hH1];exact((Ext.refl H).push _).push _
 have hw1:H1.Wf:=by rw[← hH1];exact(hw.push _).push _
 have g0:H1.get H.next=some (.cells [.int .i64 c,.int .i64 n] QM false):=by rw[← hH1,Qa.get_push,if_neg (by rw[Qa.next_push];omega),Qa.get_push,if_pos rfl]
 have g1:H1.get (H.next+1)=some (.cells [.slice none 0 0,.int .i64 0,.int .i64 0] Qm false):=by rw[← hH1,Qa.get_push,if_pos (by rw[Qa.next_push])]
 have hn1:H1.next=H.next+2:=by rw[← hH1];rfl
 clear hH1
 refine(Xz 0 4 5 (by decide) (by decide) (by decide) H1).thenW ?_
 rintro _ H1 _ _ ⟨rfl,rfl⟩
 -- the end,of any byte of SIB
 have hend:∀ (sib:Int) (A:Env) (H2:Qa),Ext H1 H2→H2.Wf→w=⟨[QI 0 mid 4,sib]++(Ky d 4).1,hi,0⟩→A 0=.int .i64 mid→A 3=.int .i64 d→A 5=.pointer (some ⟨H.next,0,none⟩)→A 8=.pointer (some ⟨H.next+1,0,none⟩)→A 9=.int .u8 sib→
   Qp prog (.seq (.ops [Om 20 (t 0),Ow 21 (.call Wq [(Ci 0),(t 20),(Ci 4)]),Om 22 (t 9),Ow 23 (.bslice 5 1 2 [.int .u8 0,.int .u8 0] [(0,(t 21)),(1,(t 22))]),Om 24 (t 3),Ow 25 (.call YS [(t 24),(Ci 4)]),Ow 26 (.app 5 1 1 (t 23) (t 25)),Om 10 (t 26)]) (.seq (.ops [Om 27 (t 10),Ow 28 (.ld true 2 (t 5)),Ow 29 (.call YO [(t 28)]),Ow 30 (.build [.slice none 0 0,.int .i64 0,.int .i64 0] [(0,1,(t 27)),(1,1,(t 29))]),Ov (.st 3 (t 8) (t 30))]) .ret)) ⟨Rt prog QfW H fun v H'=>LdV H H' w v∧Ext H H',YH⟩ (Rt prog QfW H fun v H'=>LdV H H' w v∧Ext H H') A H2:=by
  intro sib A H2 hx2 hw2 e r0 r3 r5 r8 r9
  simp only[QBD,simprocAttr,r0,r3,r5,r8,r9]
  refine(Xz 0 mid 4 (by decide) hm (by decide) H2).thenW ?_
  rintro _ H2 _ _ ⟨rfl,rfl⟩
  simp only[QBD,simprocAttr,r0,r3,r5,r8,r9]
  have hx3:=(Ext.refl H2).push (.cells [.int .u8 (QI 0 mid 4),.int .u8 sib] 5 false)
  have hw3:=hw2.push (.cells [.int .u8 (QI 0 mid 4),.int .u8 sib] 5 false)
  have hs3:Gx 1 5 H2 (H2.push (.cells [.int .u8 (QI 0 mid 4),.int .u8 sib] 5 false)) (.slice (some ⟨H2.next,0,none⟩) 2 2) 2 (bys [QI 0 mid 4,sib]):=.inr ⟨_,_,rfl,Nat.le_refl _,by rw[Qa.get_push,if_pos rfl];rfl,rfl,.inl rfl⟩
  generalize H2.push _=H3 at *
  refine(Qa3 d 4 hd H3).thenW ?_
  rintro v4 H4 _ hw4 ⟨hv4,hx4⟩
  simp only[QBD,simprocAttr]
  refine Qbn (hs3.go hw3 hx4) (hx3.trans hx4) hw4 hv4.src (Qa2 _) (by rw[YE,Nat.mul_one]) (by omega) (by omega) ?_
  intro v5 H5 hg5 hk5
  have k0:H5.get H.next=some (.cells [.int .i64 c,.int .i64 n] QM false):=by rw[(hx2.trans hk5.x).get _ (by omega)];exact g0
  simp only[QBD,simprocAttr,r5,k0]
  refine(q2 H5).thenW ?_
  rintro _ _ hn6 hw6 ⟨rfl,k,rfl⟩
  simp only[Qa.next_up]at hn6
  have hx6:=(hx2.trans hk5.x).up hn6
  have k1:H5.get (H.next+1)=some (.cells [.slice none 0 0,.int .i64 0,.int .i64 0] Qm false):=by rw[(hx2.trans hk5.x).get _ (by omega)];exact g1
  obtain⟨a5,c5,rfl⟩:=hg5.slc
  simp only[QBD,simprocAttr,r8,k1,Qky]
  have hx7:=hx1.trans hx6
  have hx8:=hx7.set (i:=H.next+1) (by omega) (.cells [.slice a5 (2+(Ky d 4).1.length) c5,.int .i64 hi,.int .i64 0] Qm false)
  refine .mk hx8.next ⟨⟨_,by rw[e],?_⟩,hx8⟩
  have hl9:w.b.length=2+(Ky d 4).1.length:=by rw[e];simp only[List.length_append,List.length_cons,List.length_nil]
  have hb9:bys w.b=bys [QI 0 mid 4,sib]++bys (Ky d 4).1:=by rw[e,Vd]
  have hle:=hx1.next
  have hle2:=hx2.next
  rw[hl9,hb9]
  refine(hg5.down (H0:=H) (by omega)).ext fun id hid=>?_
  have hlo:=hg5.low hk5.w hid
  rw[Qa.get_set,if_neg (by omega),Qa.get_up]
 simp only[QBD,simprocAttr,g0,Qu,cond_true,he]
 cases hz:isR ⟨c,n⟩ 0 0 with
 | true=>
  rw[hz,cond_true]at ew
  simp only[Bool.not_true,Qgm,Qlv]
  refine hend 37 _ H1 (.refl _) hw1 ?_ ?_ ?_ ?_ ?_ ?_
  ·rw[ew,j45]
  all_goals simp only[QBE,simprocAttr,j45]
 | false=>
  rw[hz,cond_false]at ew
  simp only[Bool.not_false,Qtn,QBD,simprocAttr]
  refine⟨by omega,?_⟩
  refine(QfZ f (hf hz) H1).thenW ?_
  rintro _ H1 _ _ ⟨rfl,rfl⟩
  simp only[QBD,simprocAttr,g0]
  refine⟨fun _ _=>rfl,by simp[Qj,Ab.plain],?_⟩
  refine(q1 H1).thenW ?_
  rintro _ _ hn3 hw3 ⟨rfl,k,rfl⟩
  simp only[Qa.next_up]at hn3
  simp only[QBD,simprocAttr]
  refine(Xz (KA f) lo 5 hsc hl (by decide) _).thenW ?_
  rintro _ _ _ hw4 ⟨rfl,rfl⟩
  simp only[Qhu,QcC,QbD,Qe2,Qto]
  refine hend _ _ (H1.up k) ((Ext.refl H1).up hn3) hw3 ew ?_ ?_ ?_ ?_ ?_
  all_goals simp only[QBE,simprocAttr]
def Qzu (pre:Int):List Int:=(if pre % 2=1 then[102] else[])++((if pre / 2 % 2=1 then[242] else[])++(if pre / 4 % 2=1 then[243] else[]))
def Qcf (pre rx:Int):List Int:=Qzu pre++(if 0≤rx then[64+rx] else[])
def QAs:Option (Value×Qa)→Nat
 | some (.tuple xs,_)=>match xs.toList with | .slice (some a) _ _::_=>a.block | _=>0
 | _=>0
def Qtz (bs:List Int) (e:Int):Value:=.tuple #[bif bs.isEmpty then .slice none 0 0 else .slice (some ⟨prog.globals.size,0,none⟩) bs.length (UNK+1),.int .i64 e]
def QtA (r:Option (Value×Qa)) (bs:List Int):List Row:=bif bs.isEmpty then[] else[⟨QAs r,bys bs,5,false⟩]
def Qwk (f:FuncId) (args:List Value):Option (Value×Qa):=(run prog noK 2000 5 20).fn f args (Yf prog.globals.size [])
theorem Qo0 {f:FuncId} {args:List Value} {bs:List Int} {e:Int} (he:entered prog f=true) (ha:args.all W3=true) (h:QlM prog.globals.size (Qtz bs e) (QtA (Qwk f args) bs) (Qwk f args)=true) (H:Qa):Qe prog f args H fun u H'=>∃v,u=.tuple #[v,.int .i64 e]∧Gx 1 5 H H' v bs.length (bys bs)∧Ext H H':=by
 have hd:=Qv1 Qwj (tabs:=[]) he ha rfl h H rfl
 intro hw
 cases hb:bs.isEmpty with
 | true=>
  have hbs:bs=[]:=List.isEmpty_iff.1 hb
  subst hbs
  exact⟨_,_,.inl ⟨he,hd⟩,Nat.le_refl _,hw,.slice none 0 0,rfl,.inl ⟨rfl,rfl,rfl⟩,.refl _⟩
 | false=>
  have hx:Ext H (H.push (.cells (bys bs) 5 false)):=(Ext.refl H).push _
  refine⟨.tuple #[.slice (some ⟨H.next,0,none⟩) bs.length (UNK+1),.int .i64 e],H.push (.cells (bys bs) 5 false),.inl ⟨he,?_⟩,hx.next,hw.push _,_,rfl,.inr ⟨_,_,rfl,Nat.le_refl _,by rw[Qa.get_push,if_pos rfl],by rw[YE,Nat.mul_one],.inr ⟨rfl,by cases bs with | nil=>cases hb | cons=>simp⟩⟩,hx⟩
  by_cases hG:prog.globals.size≤H.next
  ·have e1:shV prog.globals.size (H.next - prog.globals.size) 6 (Qtz bs e)=.tuple #[.slice (some ⟨H.next,0,none⟩) bs.length (UNK+1),.int .i64 e]:=by
    have hs:shN prog.globals.size (H.next - prog.globals.size) prog.globals.size=H.next:=by
     unfold shN
     have:Nat.blt prog.globals.size prog.globals.size=false:=by
      cases hq:Nat.blt prog.globals.size prog.globals.size with
      | false=>rfl
      | true=>rw[Nat.blt_eq]at hq;omega
     rw[this,cond_false];omega
    unfold Qtz
    rw[hb,cond_false]
    show Value.tuple #[.slice (some ⟨shN prog.globals.size (H.next - prog.globals.size) prog.globals.size,0,none⟩) bs.length (UNK+1),.int .i64 e]=_
    rw[hs]
   have e2:QmV prog.globals.size (QtA (Qwk f args) bs) H=H.push (.cells (bys bs) 5 false):=by
    have e3:(bys bs).map (shV prog.globals.size (H.next - prog.globals.size) 6)=bys bs:=by
     unfold bys
     rw[List.map_map]
     rfl
    unfold QtA
    rw[hb,cond_false]
    show H.push (.cells ((bys bs).map (shV prog.globals.size (H.next - prog.globals.size) 6)) 5 false)=_
    rw[e3]
   rw[e1,e2]at hd
   exact hd
  ·intro ρ w args' hs _
   exfalso
   obtain⟨i,hi,_⟩:=hs.glob H.next (by omega)
   rw[hs.none_next]at hi
   cases hi
def Qo1:List (Int×Int):=([0,1,2,3,4,5]:List Int).flatMap fun p=>((List.range 17).map fun(k:Nat)=>(p,(k:Int) - 1))
theorem Qwl:(Qo1.all fun p=>QlM prog.globals.size (Qtz (Qcf p.1 p.2) 0) (QtA (Qwk Qe5 [.int .i64 p.1,.int .i64 p.2]) (Qcf p.1 p.2)) (Qwk Qe5 [.int .i64 p.1,.int .i64 p.2]))=true:=by kernel_rfl
theorem QuO (pre rx:Int) (hp:0≤pre∧pre≤5) (hr:-1≤rx∧rx≤15) (H:Qa):Qe prog Qe5 [.int .i64 pre,.int .i64 rx] H fun u H'=>∃v,u=.tuple #[v,.int .i64 0]∧Gx 1 5 H H' v (Qcf pre rx).length (bys (Qcf pre rx))∧Ext H H':=by
 have hm:(pre,rx)∈Qo1:=by
  unfold Qo1
  rw[List.mem_flatMap]
  refine⟨pre,?_,List.mem_map.2 ⟨(rx+1).toNat,List.mem_range.2 (by omega),?_⟩⟩
  ·simp only[List.mem_cons,List.not_mem_nil,or_false];omega
  ·have:((rx+1).toNat:Int) - 1=rx:=by omega
   rw[this]
 exact Qo0 (by kernel_rfl) rfl (List.all_eq_true.1 Qwl _ hm) H
def QyE (n:Int) (p:Int×Int):Int:=IntKind.i64.wrap (BitVec.ofInt IntKind.i64.bits (IntKind.i64.wrap (n * 2 ^ (min p.2.toNat IntKind.i64.bits))) ||| BitVec.ofInt IntKind.i64.bits p.1).toNat
def Qmb (ps:List (Int×Int)):Int:=ps.foldl QyE 0
def prs (ps:List (Int×Int)):List Value:=ps.flatMap fun p=>[.int .i64 p.1,.int .i64 p.2]
theorem QtB:∀ps:List (Int×Int),(prs ps).length=ps.length * 2
 | []=>rfl
 | p::ps=>by
  have:=QtB ps
  unfold prs at *
  rw[List.flatMap_cons,List.length_append,this]
  simp;omega
theorem Qwm:∀ (ps:List (Int×Int)) (i:Nat) (p:Int×Int),ps[i]? = some p→((prs ps).drop (i * 2)).take 2=[.int .i64 p.1,.int .i64 p.2]
 | [],i,p,h=>by simp at h
 | q::ps,0,p,h=>by simp at h;subst h;rfl
 | q::ps,i+1,p,h=>by
  have:=Qwm ps i p (by simpa using h)
  have e:prs (q::ps)=[.int .i64 q.1,.int .i64 q.2]++prs ps:=rfl
  rw[e,show(i+1) * 2=2+i * 2 by omega,← List.drop_drop]
  exact this
theorem QnW (ps:List (Int×Int)) (hp:∀p∈ps,0≤p.2) (hl:ps.length≤100) {b cap:Nat} {e:TypeId} {ro:Bool} (H:Qa) (hg:H.get b=some (.cells (prs ps) e ro)):Qe prog QbE [.slice (some ⟨b,0,none⟩) ps.length cap] H fun u H'=>u=.int .i64 (Qmb ps)∧Ext H H':=by
 refine Qss fun hw=>?_
 have hlt:=hw.lt hg
 simp only[Ql6,sxA,sxB,Nat.reduceBEq,Nat.reduceEqDiff,reduceCtorEq,mxA,mxB,Nat.reduceAdd,reduceIte,Nat.reduceLeDiff,splice,Qw]
 refine Qy (fun m A' H'=>∃i:Nat,i≤ps.length∧m=ps.length - i∧H'.Wf∧Ext H H'∧A' 3=.int .i64 (Qmb (ps.take i))∧A' 6=.slice (some ⟨b,0,none⟩) ps.length cap∧A' 7=.int .i64 ps.length∧A' 8=.int .i64 i) ps.length ?_ ?_
 ·refine⟨0,Nat.zero_le _,by omega,hw,.refl _,?_,?_,?_,?_⟩
  all_goals simp only[uxA,uxB,Nat.reduceBEq]
  all_goals rfl
 ·rintro m A' H' ⟨i,hi,rfl,hw',hx,r3,r6,r7,r8⟩
  simp only[sxA,sxB,Nat.reduceBEq,Nat.reduceEqDiff,reduceCtorEq,mxA,mxB,Nat.reduceAdd,reduceIte,Nat.reduceLeDiff,splice,r7,r8]
  refine Qg (fun h2=>?_) (fun h2=>?_)
  ·have h2:i<ps.length:=by have:=of_decide_eq_true h2;omega
   obtain⟨p,hpi⟩:∃p,ps[i]? = some p:=⟨_,List.getElem?_eq_getElem h2⟩
   have h0:=hp p (List.mem_of_getElem? hpi)
   have d1:(0:Int)≤i∧(i:Int)<ps.length:=by omega
   have d3:(i:Int).toNat=i:=by omega
   have ei:IntKind.i64.wrap ((i:Int)+1)=((i+1:Nat):Int):=by rw[w64 (by unfold I64;omega)];omega
   have hle:i * 2+2≤(prs ps).length:=by rw[QtB];omega
   have hgb:H'.get b=some (.cells (prs ps) e ro):=by rw[hx.get _ hlt];exact hg
   have htk:=Qwm ps i p hpi
   have htl:Qmb (ps.take (i+1))=QyE (Qmb (ps.take i)) p:=by
    unfold Qmb
    rw[List.take_add_one,hpi,List.foldl_append];rfl
   simp only[sxA,sxB,Nat.reduceBEq,Nat.reduceEqDiff,reduceCtorEq,mxA,mxB,Nat.reduceAdd,reduceIte,Nat.reduceLeDiff,splice,r3,r6,r8,d1,d3,hgb,htk,h0]
   refine⟨hle,?_⟩
   refine⟨ps.length - (i+1),by omega,i+1,by omega,rfl,?_,((hx.push _).set (by have:=hx.next;omega) _),?_,?_,?_,?_⟩
   ·exact(hw'.push _).set (b0:=.cells [.int .i64 0,.int .i64 0] X3 false) (by rw[Qa.get_push,if_pos rfl]) _
   ·rw[htl];simp only[uxA,uxB,Nat.reduceBEq];rfl
   all_goals simp only[uxA,uxB,Nat.reduceBEq,r6,r7,r8,ei]
  ·have h2:i=ps.length:=by have:=of_decide_eq_false h2;omega
   subst h2
   rw[List.take_length]at r3
   simp only[sxA,sxB,Nat.reduceBEq,Nat.reduceEqDiff,reduceCtorEq,mxA,mxB,Nat.reduceAdd,reduceIte,Nat.reduceLeDiff,splice,r3,Qqv]
   exact .mk hx.next ⟨rfl,hx⟩
structure Vx where
 r:Int
 x:Int
 b:Int
 mp:Int
 w:Int
 v:Int
 l:Int
 pre:Int
def Vx.cells (y:Vx):List Value:=[.int .i64 y.r,.int .i64 y.x,.int .i64 y.b,.int .i64 y.mp,.int .i64 y.w,.int .i64 y.v,.int .i64 y.l,.int .i64 y.pre]
structure Vx.Ok (y:Vx):Prop where
 r:0≤y.r∧y.r<2
 x:0≤y.x∧y.x<2
 b:0≤y.b∧y.b<2
 mp:1≤y.mp∧y.mp<4
 w:0≤y.w∧y.w<2
 v:0≤y.v∧y.v<16
 l:0≤y.l∧y.l<2
 pre:y.pre=0∨y.pre=1∨y.pre=2∨y.pre=4
def V2 (n:Int):Int:=if n=1 then 1 else if n=4 then 2 else if n=2 then 3 else 0
theorem QtC (n:Int):0≤V2 n∧V2 n<4:=by unfold V2;repeat' (split<;>try omega)
theorem Qiw (n:Int) (H:Qa):Qe prog G8 [.int .i64 n] H fun u H'=>u=.int .i64 (V2 n)∧H'=H:=by
 refine Qnc fun hw=>?_
 simp only[QfX,sxA,sxB,Nat.reduceBEq,Nat.reduceEqDiff,reduceCtorEq,mxA,mxB,Nat.reduceAdd,reduceIte,Nat.reduceLeDiff,splice]
 unfold V2
 repeat' (first
  | (refine Qg (fun h=>?_) (fun h=>?_)<;>(try simp only[beq_iff_eq,beq_eq_false_iff_ne,ne_eq]at h)<;>simp only[sxA,sxB,Nat.reduceBEq,Nat.reduceEqDiff,reduceCtorEq,h,Ql7,if_true,if_false])
  | fail)
 all_goals exact .mk (Nat.le_refl _) ⟨rfl,rfl⟩
def vb2 (y:Vx):Int:=(1 - y.r) * 128+(15 - y.v) * 8+y.l * 4+V2 y.pre
def vbm (y:Vx):Int:=(1 - y.r) * 128+(1 - y.x) * 64+(1 - y.b) * 32+y.mp
def vbn (y:Vx):Int:=y.w * 128+(15 - y.v) * 8+y.l * 4+V2 y.pre
def Qcg (y:Vx):List Int:=[196,vbm y,vbn y]
theorem QxU:∀r:Fin 2,∀v:Fin 16,∀l:Fin 2,∀p:Fin 4,IntKind.u8.wrap (IntKind.i64.wrap (BitVec.ofInt IntKind.i64.bits (Qmb [((r:Nat),1),((v:Nat),4),((l:Nat),1),((p:Nat),2)]) ^^^ BitVec.ofInt IntKind.i64.bits 248).toNat)=(1 - (r:Nat):Int) * 128+(15 - (v:Nat):Int) * 8+(l:Nat) * 4+(p:Nat):=by decide +kernel
theorem QxV:∀r:Fin 2,∀v:Fin 16,∀l:Fin 2,∀p:Fin 4,IntKind.u8.wrap (IntKind.i64.wrap (BitVec.ofInt IntKind.i64.bits (Qmb [((r:Nat),1),((v:Nat),4),((l:Nat),1),((p:Nat),2)]) ^^^ BitVec.ofInt IntKind.i64.bits 120).toNat)=((r:Nat):Int) * 128+(15 - (v:Nat):Int) * 8+(l:Nat) * 4+(p:Nat):=by decide +kernel
theorem QxW:∀r:Fin 2,∀x:Fin 2,∀b:Fin 2,∀m:Fin 4,IntKind.u8.wrap (IntKind.i64.wrap (BitVec.ofInt IntKind.i64.bits (Qmb [((r:Nat),1),((x:Nat),1),((b:Nat),1),((m:Nat),5)]) ^^^ BitVec.ofInt IntKind.i64.bits 224).toNat)=(1 - (r:Nat):Int) * 128+(1 - (x:Nat):Int) * 64+(1 - (b:Nat):Int) * 32+(m:Nat):=by decide +kernel
theorem Qzv {y:Vx} (h:y.Ok):IntKind.u8.wrap (IntKind.i64.wrap (BitVec.ofInt IntKind.i64.bits (Qmb [(y.r,1),(y.v,4),(y.l,1),(V2 y.pre,2)]) ^^^ BitVec.ofInt IntKind.i64.bits 248).toNat)=vb2 y:=by
 have hp:=QtC y.pre
 have hr:=h.r
 have hv:=h.v
 have hl:=h.l
 have e:=QxU ⟨y.r.toNat,by omega⟩ ⟨y.v.toNat,by omega⟩ ⟨y.l.toNat,by omega⟩ ⟨(V2 y.pre).toNat,by omega⟩
 simp only[Int.toNat_of_nonneg hr.1,Int.toNat_of_nonneg hv.1,Int.toNat_of_nonneg hl.1,Int.toNat_of_nonneg hp.1]at e
 exact e
theorem Qzw {y:Vx} (h:y.Ok):IntKind.u8.wrap (IntKind.i64.wrap (BitVec.ofInt IntKind.i64.bits (Qmb [(y.w,1),(y.v,4),(y.l,1),(V2 y.pre,2)]) ^^^ BitVec.ofInt IntKind.i64.bits 120).toNat)=vbn y:=by
 have hp:=QtC y.pre
 have hr:=h.w
 have hv:=h.v
 have hl:=h.l
 have e:=QxV ⟨y.w.toNat,by omega⟩ ⟨y.v.toNat,by omega⟩ ⟨y.l.toNat,by omega⟩ ⟨(V2 y.pre).toNat,by omega⟩
 simp only[Int.toNat_of_nonneg hr.1,Int.toNat_of_nonneg hv.1,Int.toNat_of_nonneg hl.1,Int.toNat_of_nonneg hp.1]at e
 exact e
theorem Qzx {y:Vx} (h:y.Ok):IntKind.u8.wrap (IntKind.i64.wrap (BitVec.ofInt IntKind.i64.bits (Qmb [(y.r,1),(y.x,1),(y.b,1),(y.mp,5)]) ^^^ BitVec.ofInt IntKind.i64.bits 224).toNat)=vbm y:=by
 have hr:=h.r
 have hx:=h.x
 have hb:=h.b
 have hm:=h.mp
 have hm0:0≤y.mp:=by omega
 have e:=QxW ⟨y.r.toNat,by omega⟩ ⟨y.x.toNat,by omega⟩ ⟨y.b.toNat,by omega⟩ ⟨y.mp.toNat,by omega⟩
 simp only[Int.toNat_of_nonneg hr.1,Int.toNat_of_nonneg hx.1,Int.toNat_of_nonneg hb.1,Int.toNat_of_nonneg hm0]at e
 exact e
theorem Qmc {y:Vx} (h:y.Ok) (H:Qa):Qe prog QcQ [.agg y.cells.toArray] H fun v H'=>Gx 1 5 H H' v 3 (bys (Qcg y))∧Ext H H'∧∃a,v=.slice a 3 3:=by
 refine Qqw fun hw=>?_
 have em:=Qzx h
 have en:=Qzw h
 unfold Qcg
 generalize vbm y=zm at *
 generalize vbn y=zn at *
 have hlay:=fun(ps:List (Int×Int)) hp hl (b cap:Nat) e ro (H:Qa)=>QnW (cap:=cap) (b:=b) (e:=e) (ro:=ro) ps hp hl H
 obtain⟨r,x,b,mp,w,v,l,pre⟩:=y
 simp only at em en
 simp only[Vx.cells,Qkb,sxA,sxB,Nat.reduceBEq,Nat.reduceEqDiff,reduceCtorEq,mxA,mxB,Nat.reduceAdd,reduceIte,Nat.reduceLeDiff,splice,Nat.reduceMul]
 generalize hH1:Qa.push (Qa.push H _) _=H1
 have hx1:Ext H H1:=by rw[← hH1];exact((Ext.refl H).push _).push _
 have g1:H1.get (H.next+1)=some (.cells (prs [(r,1),(x,1),(b,1),(mp,5)]) X3 false):=by rw[← hH1,Qa.get_push,if_pos (by rw[Qa.next_push])];rfl
 have g0:H1.get H.next=some (.cells [.int .i64 r,.int .i64 x,.int .i64 b,.int .i64 mp,.int .i64 w,.int .i64 v,.int .i64 l,.int .i64 pre] Q3 false):=by rw[← hH1,Qa.get_push,if_neg (by rw[Qa.next_push];omega),Qa.get_push,if_pos rfl]
 have hn1:H1.next=H.next+2:=by rw[← hH1];rfl
 clear hH1
 refine(hlay [(r,1),(x,1),(b,1),(mp,5)] (by simp) (by simp) _ _ _ _ H1 g1).thenW ?_
 rintro _ H2 _ hw2 ⟨rfl,hx2⟩
 have k0:=(hx2.get H.next (by omega)).trans g0
 simp only[sxA,sxB,Nat.reduceBEq,Nat.reduceEqDiff,reduceCtorEq,mxA,mxB,Nat.reduceAdd,reduceIte,Nat.reduceLeDiff,splice,k0]
 refine⟨by simp[Qj,Ab.plain],by simp[Qj,Ab.plain],by simp[Qj,Ab.plain],?_⟩
 refine(Qiw pre H2).thenW ?_
 rintro _ H2 _ _ ⟨rfl,rfl⟩
 simp only[sxA,sxB,Nat.reduceBEq,Nat.reduceEqDiff,reduceCtorEq,mxA,mxB,Nat.reduceAdd,reduceIte,Nat.reduceLeDiff,splice,Nat.reduceMul]
 refine⟨fun _ _=>rfl,?_⟩
 generalize hH3:Qa.push H2 _=H3
 have hx3:Ext H2 H3:=by rw[← hH3];exact(Ext.refl H2).push _
 have g3:H3.get H2.next=some (.cells (prs [(w,1),(v,4),(l,1),(V2 pre,2)]) X3 false):=by rw[← hH3,Qa.get_push,if_pos rfl];rfl
 clear hH3
 refine(hlay [(w,1),(v,4),(l,1),(V2 pre,2)] (by simp) (by simp) _ _ _ _ H3 g3).thenW ?_
 rintro _ H4 _ hw4 ⟨rfl,hx4⟩
 simp only[sxA,sxB,Nat.reduceBEq,Nat.reduceEqDiff,reduceCtorEq,mxA,mxB,Nat.reduceAdd,reduceIte,Nat.reduceLeDiff,splice,em,en,QoS]
 have hx5:=(((hx1.trans hx2).trans hx3).trans hx4)
 have hx6:=hx5.push (.cells [.int .u8 196,.int .u8 zm,.int .u8 zn] 5 false)
 exact .mk hx6.next ⟨.inr ⟨_,_,rfl,hx5.next,by rw[Qa.get_push,if_pos rfl];rfl,rfl,.inl rfl⟩,hx6,_,rfl⟩
theorem QqE {y:Vx} (h:y.Ok) (H:Qa):Qe prog Qef [.agg y.cells.toArray] H fun u H'=>u=.int .i64 0∧Ext H H':=by
 refine QoR fun hw=>?_
 have hh:=h
 obtain⟨h1,h2,h3,h4,h5,h6,h7,h8⟩:=h
 obtain⟨r,x,b,mp,w,v,l,pre⟩:=y
 simp only at h1 h2 h3 h4 h5 h6 h7 h8
 simp only[Vx.cells,Qip,sxA,sxB,Nat.reduceBEq,Nat.reduceEqDiff,reduceCtorEq,mxA,mxB,Nat.reduceAdd,reduceIte,Nat.reduceLeDiff,splice,Qw]
 generalize hH1:Qa.push (Qa.push H _) _=H1
 have hx1:Ext H H1:=by rw[← hH1];exact((Ext.refl H).push _).push _
 have g1:H1.get (H.next+1)=some (.cells (ints [r,x,b,w,l]) 3 false):=by rw[← hH1,Qa.get_push,if_pos (by rw[Qa.next_push])];rfl
 have g0:H1.get H.next=some (.cells [.int .i64 r,.int .i64 x,.int .i64 b,.int .i64 mp,.int .i64 w,.int .i64 v,.int .i64 l,.int .i64 pre] Q3 false):=by rw[← hH1,Qa.get_push,if_neg (by rw[Qa.next_push];omega),Qa.get_push,if_pos rfl]
 clear hH1
 refine Qy (fun m A' H'=>∃i:Nat,i≤5∧m=5 - i∧H'=H1∧A' 1=.pointer (some ⟨H.next,0,none⟩)∧A' 15=.slice (some ⟨H.next+1,0,none⟩) 5 5∧A' 16=.int .i64 5∧A' 17=.int .i64 i) 5 ?_ ?_
 ·refine⟨0,by omega,rfl,rfl,?_,?_,?_,?_⟩
  all_goals simp only[uxA,uxB,Nat.reduceBEq]
  all_goals rfl
 ·rintro m A' H' ⟨i,hi,rfl,rfl,r1,r15,r16,r17⟩
  simp only[QeI,sxA,sxB,Nat.reduceBEq,Nat.reduceEqDiff,reduceCtorEq,mxA,mxB,Nat.reduceAdd,reduceIte,Nat.reduceLeDiff,splice,r16,r17]
  refine Qg (fun h2=>?_) (fun h2=>?_)
  ·have h2:i<5:=by have:=of_decide_eq_true h2;omega
   obtain⟨z,hz,hz2⟩:∃z,(ints [r,x,b,w,l])[i]? = some (.int .i64 z)∧0≤z∧z<2:=by
    rcases i with _ | _ | _ | _ | _ | i
    ·exact⟨r,rfl,h1⟩
    ·exact⟨x,rfl,by assumption⟩
    ·exact⟨b,rfl,h3⟩
    ·exact⟨w,rfl,h5⟩
    ·exact⟨l,rfl,h7⟩
    ·omega
   have d1:(0:Int)≤i∧(i:Int)<(5:Nat):=by omega
   have d3:(i:Int).toNat=i:=by omega
   have ei:IntKind.i64.wrap ((i:Int)+1)=((i+1:Nat):Int):=by rw[w64 (by unfold I64;omega)];omega
   simp only[QeH,sxA,sxB,Nat.reduceBEq,Nat.reduceEqDiff,reduceCtorEq,mxA,mxB,Nat.reduceAdd,reduceIte,Nat.reduceLeDiff,splice,r15,r17,d1,d3,g1,hz]
   rcases(show z=0∨z=1 by omega) with rfl | rfl
   ·simp only[sxA,sxB,Nat.reduceBEq,Nat.reduceEqDiff,reduceCtorEq,mxA,mxB,Nat.reduceAdd,reduceIte,Nat.reduceLeDiff,splice,beq_self_eq_true,Bool.not_true,r17,ei]
    refine⟨5 - (i+1),by omega,i+1,by omega,rfl,rfl,?_,?_,?_,?_⟩
    all_goals simp only[uxA,uxB,Nat.reduceBEq,r1,r15,r16]
   ·have e10:((1:Int)==0)=false:=rfl
    simp only[sxA,sxB,Nat.reduceBEq,Nat.reduceEqDiff,reduceCtorEq,mxA,mxB,Nat.reduceAdd,reduceIte,Nat.reduceLeDiff,splice,e10,beq_self_eq_true,Bool.not_false,Bool.not_true,r17,ei]
    refine⟨5 - (i+1),by omega,i+1,by omega,rfl,rfl,?_,?_,?_,?_⟩
    all_goals simp only[uxA,uxB,Nat.reduceBEq,r1,r15,r16]
  ·have e1:decide (mp<1)=false:=decide_eq_false (by omega)
   have e2:decide (3<mp)=false:=decide_eq_false (by omega)
   have e3:decide (v<0)=false:=decide_eq_false (by omega)
   have e4:decide (15<v)=false:=decide_eq_false (by omega)
   simp only[QeG,sxA,sxB,Nat.reduceBEq,Nat.reduceEqDiff,reduceCtorEq,mxA,mxB,Nat.reduceAdd,reduceIte,Nat.reduceLeDiff,splice,r1,g0,e1,e2,e3,e4,gt_iff_lt]
   rcases h8 with rfl | rfl | rfl | rfl
   all_goals simp only[QeF,QeE,sxA,sxB,Nat.reduceBEq,Nat.reduceEqDiff,reduceCtorEq,mxA,mxB,Nat.reduceAdd,reduceIte,Nat.reduceLeDiff,splice,r1,g0,beq_self_eq_true,Int.reduceBEq,Qnb]
   all_goals exact .mk hx1.next ⟨rfl,hx1⟩
structure JM (e:TypeId) (H0 H:Qa) (v:Value) (bss:List (List Int)):Prop where
 ne:e≠5
 it:∃ss:List Value,ss.length=bss.length∧Gx 1 e H0 H v bss.length ss∧∀ (j:Nat) s bs,ss[j]? = some s→bss[j]? = some bs→Gx 1 5 H0 H s bs.length (bys bs)
theorem JM.nil {e:TypeId} (he:e≠5) (H0 H:Qa):JM e H0 H (.slice none 0 0) []:=⟨he,[],rfl,.inl ⟨rfl,rfl,rfl⟩,fun j s w h=>by simp at h⟩
theorem JM.go {e:TypeId} {H0 H H':Qa} {v:Value} {ws:List (List Int)} (h:JM e H0 H v ws) (hw:H.Wf) (hx:Ext H H'):JM e H0 H' v ws:=by
 obtain⟨ss,h1,h2,h3⟩:=h.it
 exact⟨h.ne,ss,h1,h2.go hw hx,fun j s w hs hw'=>(h3 j s w hs hw').go hw hx⟩
theorem JM.down {e:TypeId} {H0 H1 H:Qa} {v:Value} {ws:List (List Int)} (h:JM e H1 H v ws) (hx:H0.next≤H1.next):JM e H0 H v ws:=by
 obtain⟨ss,h1,h2,h3⟩:=h.it
 exact⟨h.ne,ss,h1,h2.down hx,fun j s w hs hw'=>(h3 j s w hs hw').down hx⟩
theorem JM.slc {e:TypeId} {H0 H:Qa} {v:Value} {ws:List (List Int)} (h:JM e H0 H v ws):∃a c,v=.slice a ws.length c:=by
 obtain⟨ss,h1,h2,h3⟩:=h.it
 exact h2.slc
theorem Qo2 {e bytes:Nat} {H0 H:Qa} {v s x:Value} {bs:List Int} {ws:List (List Int)} {k:Value→Qa→Prop} (hl:JM e H0 H v ws) (hx:Ext H0 H) (hw:H.Wf) (hs:Gx 1 5 H0 H s bs.length (bys bs)) (hsrc:Jh 1 x H=some (1,[s])) (hb:(ws.length+1) * bytes≤140737488355328) (hn:ws.length+1≤9223372036854775807)
  (h:∀v' H',JM e H0 H' v' (ws++[bs])→GK v v' H0 H H'→k v' H'):Qhv e 1 bytes v x H k:=by
 obtain⟨ss,h1,h2,h3⟩:=hl.it
 have hone:([s]:List Value).all (·.oneCell')=true:=by
  obtain⟨a,c,rfl⟩:=hs.slc
  rfl
 refine Qbn h2 hx hw hsrc hone rfl hb hn ?_
 intro v' H' hg hk
 refine h v' H' ⟨hl.ne,ss++[s],by simp[h1],?_,fun j s' w' hs' hw'=>?_⟩ hk
 ·rw[List.length_append];exact hg
 ·have hnot:∀id c',H.get id=some (.cells c' 5 false)→¬inB v id:=fun id c' hc hi=>by
   obtain⟨o,n',c,rfl⟩:=hi
   rcases h2 with⟨h,_,_⟩ | ⟨b,c,h,q2,q3,q4⟩
   ·cases h
   ·cases h
    rw[q3]at hc
    cases hc
    exact hl.ne rfl
  have key:∀ {s:Value} {bs:List Int},Gx 1 5 H0 H s bs.length (bys bs)→Gx 1 5 H0 H' s bs.length (bys bs):=fun hq=>by
   rcases hq with h2 | ⟨b,c,rfl,q2,q3,q4⟩
   ·exact .inl h2
   ·exact .inr ⟨b,c,rfl,q2,by rw[hk.keep b (hw.lt q3) (hnot b _ q3)];exact q3,q4⟩
  rcases Nat.lt_trichotomy j ss.length with hj | hj | hj
  ·rw[List.getElem?_append_left hj]at hs'
   rw[List.getElem?_append_left (by omega)]at hw'
   exact key (h3 j s' w' hs' hw')
  ·rw[List.getElem?_append_right (by omega)]at hs' hw'
   rw[hj,Nat.sub_self]at hs'
   rw[hj,h1,Nat.sub_self]at hw'
   cases hs'
   cases hw'
   exact key hs
  ·have:=(List.getElem?_eq_some_iff.1 hs').1
   simp at this
   omega
def Qsv (y:Vx) (any:Bool):List (List Int):=
 (if(y.x=0∧y.b=0∧(any=true∨y.w=0))∧y.mp=1 then[[197,vb2 y]] else[])++([Qcg (bif any then {y with w:=0} else y)]++(bif any then[Qcg {y with w:=1}] else[]))
theorem Vx.Ok.setW {y:Vx} (h:y.Ok) (n:Int) (hn:0≤n∧n<2):Vx.Ok {y with w:=n}:=⟨h.r,h.x,h.b,h.mp,hn,h.v,h.l,h.pre⟩
section
variable {H:Qa} {W:List (List Int)}
abbrev KV (H:Qa) (W:List (List Int)):Env→Qa→Prop:=Rt prog QuN H fun u H'=>∃v,u=.tuple #[v,.int .i64 0]∧JM WT H H' v W∧Ext H H'
theorem QkX (H:Qa) (s:Value):Jh 1 (.slice (some ⟨H.next,0,none⟩) 1 1) (H.push (.cells [s] WT false))=some (1,[s]):=Qqg (by rw[Qa.get_push,if_pos rfl])
theorem JM.keep {e:TypeId} {H0 H H':Qa} {v:Value} {ws:List (List Int)} (h:JM e H0 H v ws) (hk:∀id,H0.next≤id→H'.get id=H.get id):JM e H0 H' v ws:=by
 obtain⟨ss,h1,h2,h3⟩:=h.it
 have key:∀ {e:TypeId} {v:Value} {n:Nat} {cs:List Value},Gx 1 e H0 H v n cs→Gx 1 e H0 H' v n cs:=fun hq=>by
  rcases hq with h2 | ⟨b,c,rfl,q2,q3,q4⟩
  ·exact .inl h2
  ·exact .inr ⟨b,c,rfl,q2,by rw[hk b q2];exact q3,q4⟩
 exact⟨h.ne,ss,h1,key h2,fun j s w a b=>key (h3 j s w a b)⟩
theorem QAt {y:Vx} (h:y.Ok) (any:Bool) {ws:List (List Int)} (hl:ws.length≤5) {v:Value} {A:Env} {Hb H1:Qa} (hnb:Hb.next=H.next+1) (hv:JM WT Hb H1 v ws) (hxb:Ext Hb H1) (hx:Ext H H1) (hw:H1.Wf) (hg:H1.get H.next=some (.cells y.cells Q3 false)) (r1:A 1=.bool any) (r2:A 2=.pointer (some ⟨H.next,0,none⟩)) (r7:A 7=v) (eW:W=ws++([Qcg y]++(bif any then[Qcg {y with w:=1}] else[]))):
  Qp prog JD ⟨KV H W,YH⟩ (KV H W) A H1:=by
 have hnx:=hxb.next
 have q1:=Qmc h
 have q2:=Qmc (h.setW 1 (by decide))
 obtain⟨y1,ey1⟩:∃y1,y1=Qcg y:=⟨_,rfl⟩
 obtain⟨y2,ey2⟩:∃y2,y2=Qcg {y with w:=1}:=⟨_,rfl⟩
 have ly1:y1.length=3:=by rw[ey1];rfl
 have ly2:y2.length=3:=by rw[ey2];rfl
 rw[← ey1]at q1 eW
 rw[← ey2]at q2 eW
 clear ey1 ey2
 obtain⟨r,x,b,mp,w,vv,l,pre⟩:=y
 simp only[Vx.cells]at hg q1 q2
 simp only[JD,QBD,simprocAttr,r1,r2,r7,hg]
 refine(q1 H1).thenW ?_
 rintro s2 H2 hn2 hw2 ⟨hs2,hx2,a2,rfl⟩
 replace hs2:Gx 1 5 H1 H2 (.slice a2 3 3) y1.length (bys y1):=by rw[ly1];exact hs2
 simp only[QBD,simprocAttr]
 refine Qo2 (H0:=Hb) (bs:=y1) ((hv.go hw hx2).go hw2 ((Ext.refl H2).push _)) ((hxb.trans hx2).push _) (hw2.push _) ((hs2.go hw2 ((Ext.refl H2).push _)).down (by omega)) (QkX H2 _) (by omega) (by omega) ?_
 intro v4 H4 hv4 hk4
 have hg4:H4.get H.next=some (.cells [.int .i64 r,.int .i64 x,.int .i64 b,.int .i64 mp,.int .i64 w,.int .i64 vv,.int .i64 l,.int .i64 pre] Q3 false):=by rw[(hk4.x).get _ (by omega),← hxb.get _ (by omega)];exact hg
 have hx4:Ext H H4:=⟨by have:=hk4.x.next;omega,fun id hid=>by rw[hk4.x.get id (by omega),← hxb.get id (by omega)];exact hx.get id hid⟩
 cases any with
 | false=>
  rw[cond_false,List.append_nil]at eW
  simp only[QBD,simprocAttr,r1,Qka]
  exact .mk hx4.next ⟨v4,rfl,by rw[eW];exact hv4.down (by omega),hx4⟩
 | true=>
  rw[cond_true]at eW
  simp only[QBD,simprocAttr,r1,r2,hg4]
  generalize hH5:Qa.set H4 _ _=H5
  have hx5:Ext H H5:=by rw[← hH5];exact hx4.set (Nat.le_refl _) _
  have hw5:H5.Wf:=by rw[← hH5];exact hk4.w.set hg4 _
  have k5:∀id,Hb.next≤id→H5.get id=H4.get id:=fun id hid=>by rw[← hH5,Qa.get_set,if_neg (by omega)]
  have hv5:=hv4.keep k5
  have hn5:H5.next=H4.next:=by rw[← hH5];rfl
  have hn4:=hk4.x.next
  clear hH5
  refine(q2 H5).thenW ?_
  rintro s6 H6 hn6 hw6 ⟨hs6,hx6,a6,rfl⟩
  replace hs6:Gx 1 5 H5 H6 (.slice a6 3 3) y2.length (bys y2):=by rw[ly2];exact hs6
  simp only[QBD,simprocAttr]
  have hz:∃Hz:Qa,Ext Hz H5∧Hz.next=Hb.next:=⟨⟨Hb.next,H5.tr⟩,⟨by show Hb.next≤H5.next;omega,fun id _=>rfl⟩,rfl⟩
  obtain⟨Hz,hxz,hnz⟩:=hz
  refine Qo2 (H0:=Hz) (bs:=y2) (((hv5.go hw5 hx6).go hw6 ((Ext.refl H6).push _)).down (by omega)) ((hxz.trans hx6).push _) (hw6.push _) ((hs6.go hw6 ((Ext.refl H6).push _)).down (by omega)) (QkX H6 _) (by rw[List.length_append,List.length_singleton];omega) (by rw[List.length_append,List.length_singleton];omega) ?_
  intro v7 H7 hv7 hk7
  have hx7:Ext H H7:=⟨by have:=hk7.x.next;omega,fun id hid=>by rw[hk7.x.get id (by omega),← hxz.get id (by omega)];exact hx5.get id hid⟩
  simp only[QBD,simprocAttr,Qka]
  exact .mk hx7.next ⟨v7,rfl,by rw[eW,← List.append_assoc];exact hv7.down (by omega),hx7⟩
theorem QAu {y:Vx} (h:y.Ok) (any:Bool) {A:Env} {Hb H1:Qa} (hnb:Hb.next=H.next+1) (hxb:Ext Hb H1) (hx:Ext H H1) (hw:H1.Wf) (hg:H1.get H.next=some (.cells y.cells Q3 false)) (r1:A 1=.bool any) (r2:A 2=.pointer (some ⟨H.next,0,none⟩)) (eW:W=(if(y.x=0∧y.b=0∧y.w=0)∧y.mp=1 then[[197,vb2 y]] else[])++([Qcg y]++(bif any then[Qcg {y with w:=1}] else[]))):
  Qp prog Qc0 ⟨KV H W,YH⟩ (KV H W) A H1:=by
 have hnx:=hxb.next
 have hg0:=hg
 have eb:=Qzv h
 have hlay:=fun(ps:List (Int×Int)) hp hl (b cap:Nat) e ro (H:Qa)=>QnW (cap:=cap) (b:=b) (e:=e) (ro:=ro) ps hp hl H
 have h1:=fun A=>QAt (H:=H) (W:=W) (A:=A) h any (ws:=[]) (by simp) hnb (JM.nil (e:=WT) (by decide) Hb H1) hxb hx hw hg
 have hne:∀A,A 1=.bool any→A 2=.pointer (some ⟨H.next,0,none⟩)→A 7=.slice none 0 0→¬ ((y.x=0∧y.b=0∧y.w=0)∧y.mp=1)→Qp prog JD ⟨KV H W,YH⟩ (KV H W) A H1:=fun A a1 a2 a7 hno=>h1 A a1 a2 a7 (by rw[eW,if_neg hno])
 obtain⟨z2,ez2⟩:∃z2,z2=vb2 y:=⟨_,rfl⟩
 have hyes:(y.x=0∧y.b=0∧y.w=0)∧y.mp=1→∀ (A:Env) (H4:Qa) (v4:Value),JM WT Hb H4 v4 [[197,z2]]→Ext Hb H4→Ext H H4→H4.Wf→A 1=.bool any→A 2=.pointer (some ⟨H.next,0,none⟩)→A 7=v4→Qp prog JD ⟨KV H W,YH⟩ (KV H W) A H4:=by
  intro hy A H4 v4 hv4 hx4b hx4 hw4 a1 a2 a7
  refine QAt h any (ws:=[[197,z2]]) (by simp) hnb hv4 hx4b hx4 hw4 (by rw[hx4b.get _ (by omega),← hxb.get _ (by omega)];exact hg0) a1 a2 a7 (by rw[eW,if_pos hy,ez2])
 rw[← ez2]at eb
 clear ez2 eW h1 hg0 h
 obtain⟨r,x,b,mp,w,v,l,pre⟩:=y
 simp only[Vx.cells]at hg
 simp only at hyes hne eb
 simp only[Qc0,QBD,simprocAttr,r1,r2,hg]
 cases ex:x==0 with
 | false=>
  have hx0:¬x=0:=by simpa using ex
  simp only[QBD,simprocAttr,ex]
  refine hne _ ?_ ?_ ?_ (fun h=>hx0 h.1.1)
  all_goals simp only[QBE,simprocAttr,r1,r2]
 | true=>
  have hx0:x=0:=by simpa using ex
  simp only[QBD,simprocAttr,r2,hg]
  cases e2:b==0 with
  | false=>
   have hb0:¬b=0:=by simpa using e2
   simp only[QBD,simprocAttr,e2]
   refine hne _ ?_ ?_ ?_ (fun h=>hb0 h.1.2.1)
   all_goals simp only[QBE,simprocAttr,r1,r2]
  | true=>
   have hb0:b=0:=by simpa using e2
   simp only[QBD,simprocAttr,r2,hg]
   cases e3:w==0 with
   | false=>
    have hw0:¬w=0:=by simpa using e3
    simp only[QBD,simprocAttr,e3]
    refine hne _ ?_ ?_ ?_ (fun h=>hw0 h.1.2.2)
    all_goals simp only[QBE,simprocAttr,r1,r2]
   | true=>
    have hw0:w=0:=by simpa using e3
    simp only[QBD,simprocAttr,r2,hg]
    cases e4:mp==1 with
    | false=>
     have hm0:¬mp=1:=by simpa using e4
     simp only[QBD,simprocAttr,e4]
     refine hne _ ?_ ?_ ?_ (fun h=>hm0 h.2)
     all_goals simp only[QBE,simprocAttr,r1,r2]
    | true=>
     have hm0:mp=1:=by simpa using e4
     simp only[Qil,QBD,simprocAttr,e4,r2,hg]
     refine⟨by simp[Qj,Ab.plain],by simp[Qj,Ab.plain],by simp[Qj,Ab.plain],?_⟩
     refine(Qiw pre H1).thenW ?_
     rintro _ H1 _ _ ⟨rfl,rfl⟩
     simp only[QBD,simprocAttr,Nat.reduceMul]
     refine⟨fun _ _=>rfl,?_⟩
     generalize hH3:Qa.push H1 _=H3
     have hx3:Ext H1 H3:=by rw[← hH3];exact(Ext.refl H1).push _
     have g3:H3.get H1.next=some (.cells (prs [(r,1),(v,4),(l,1),(V2 pre,2)]) X3 false):=by rw[← hH3,Qa.get_push,if_pos rfl];rfl
     clear hH3
     refine(hlay [(r,1),(v,4),(l,1),(V2 pre,2)] (by simp) (by simp) _ _ _ _ H3 g3).thenW ?_
     rintro _ H4 _ hw4 ⟨rfl,hx4⟩
     simp only[QBD,simprocAttr,eb]
     have hx14:=hx3.trans hx4
     have hx5:=(Ext.refl H4).push (.cells [.int .u8 197,.int .u8 z2] 5 false)
     have hw5:=hw4.push (.cells [.int .u8 197,.int .u8 z2] 5 false)
     have hg5:Gx 1 5 H4 (H4.push (.cells [.int .u8 197,.int .u8 z2] 5 false)) (.slice (some ⟨H4.next,0,none⟩) 2 2) 2 (bys [197,z2]):=.inr ⟨_,_,rfl,Nat.le_refl _,by rw[Qa.get_push,if_pos rfl];rfl,rfl,.inl rfl⟩
     have hn14:=hx14.next
     have hn5:(H4.push (.cells [.int .u8 197,.int .u8 z2] 5 false)).next=H4.next+1:=rfl
     generalize H4.push (.cells [.int .u8 197,.int .u8 z2] 5 false)=H5 at *
     have hx15:=hx14.trans hx5
     have hx6:=(Ext.refl H5).push (.cells [.slice (some ⟨H4.next,0,none⟩) 2 2] WT false)
     refine Qo2 (H0:=Hb) (bs:=[197,z2]) (JM.nil (e:=WT) (by decide) Hb _) ((hxb.trans hx15).trans hx6) (hw5.push _) ((hg5.go hw5 hx6).down (by omega)) (by rw[← hn5];exact QkX H5 _) (by simp) (by simp) ?_
     intro v7 H7 hv7 hk7
     have hx7:Ext H H7:=⟨by have:=hk7.x.next;omega,fun id hid=>by rw[hk7.x.get id (by omega),← hxb.get id (by omega)];exact hx.get id hid⟩
     simp only[Qhu,QcC,QbD,Qe2,Qto]
     refine hyes ⟨⟨hx0,hb0,hw0⟩,hm0⟩ _ H7 v7 hv7 hk7.x hx7 hk7.w ?_ ?_ ?_
     all_goals simp only[QBE,simprocAttr,r1,r2]
end
theorem QxX (y:Vx) (any:Bool) (y':Vx) (h:y'=bif any then {y with w:=0} else y):Qsv y any=(if(y'.x=0∧y'.b=0∧y'.w=0)∧y'.mp=1 then[[197,vb2 y']] else[])++([Qcg y']++(bif any then[Qcg {y' with w:=1}] else[])):=by
 subst h
 unfold Qsv
 cases any with
 | true=>simp only[cond_true,true_or,and_true,vb2]
 | false=>simp only[cond_false,Bool.false_eq_true,false_or]
theorem QuP {y:Vx} (h:y.Ok) (any:Bool) (H:Qa):Qe prog Qi2 [.agg y.cells.toArray,.bool any] H fun u H'=>∃v,u=.tuple #[v,.int .i64 0]∧JM WT H H' v (Qsv y any)∧Ext H H':=by
 refine Qsr fun hw=>?_
 obtain⟨y',ey⟩:∃y':Vx,y'=bif any then {y with w:=0} else y:=⟨_,rfl⟩
 have hy':y'.Ok:=by rw[ey];cases any with | true=>exact h.setW 0 (by decide) | false=>exact h
 have eL:=QxX y any y' ey
 have ec:y'.cells=bif any then[.int .i64 y.r,.int .i64 y.x,.int .i64 y.b,.int .i64 y.mp,.int .i64 0,.int .i64 y.v,.int .i64 y.l,.int .i64 y.pre] else y.cells:=by rw[ey];cases any<;>rfl
 have qc:=QqE h
 have hx1:=(Ext.refl H).push (.cells y.cells Q3 false)
 have hw1:=hw.push (.cells y.cells Q3 false)
 have hg1:(H.push (.cells y.cells Q3 false)).get H.next=some (.cells y.cells Q3 false):=by rw[Qa.get_push,if_pos rfl]
 have hn1:(H.push (.cells y.cells Q3 false)).next=H.next+1:=rfl
 obtain⟨W,eW⟩:∃W,W=Qsv y any:=⟨_,rfl⟩
 rw[← eW]at eL ⊢
 clear eW ey h
 obtain⟨r,x,b,mp,w,v,l,pre⟩:=y
 simp only[Vx.cells]at hx1 hw1 hg1 hn1 qc ec
 simp only[Vx.cells,Ql4,QBD,simprocAttr]
 generalize H.push _=H1 at *
 refine(qc H1).thenW ?_
 rintro _ H2 hn2 hw2 ⟨rfl,hx2⟩
 have hg2:=(hx2.get H.next (by omega)).trans hg1
 have hx12:=hx1.trans hx2
 simp only[QBD,simprocAttr,beq_self_eq_true,Bool.not_true]
 cases any with
 | true=>
  rw[cond_true]at ec
  simp only[Qc1,QBD,simprocAttr,hg2]
  generalize hH3:Qa.set H2 _ _=H3
  have hx3:Ext H H3:=by rw[← hH3];exact hx12.set (Nat.le_refl _) _
  have hw3:H3.Wf:=by rw[← hH3];exact hw2.set hg2 _
  have hg3:H3.get H.next=some (.cells y'.cells Q3 false):=by rw[← hH3,Qa.get_set,if_pos rfl];exact congrArg (fun c=>some (Blk.cells c Q3 false)) ec.symm
  have hn3:H3.next=H2.next:=by rw[← hH3];rfl
  clear hH3
  refine QAu (H:=H) (Hb:=⟨H.next+1,H3.tr⟩) hy' true rfl ⟨by show H.next+1≤H3.next;omega,fun id _=>rfl⟩ hx3 hw3 hg3 ?_ ?_ eL
  all_goals simp only[QBE,simprocAttr]
 | false=>
  rw[cond_false]at ec
  simp only[Qc1,QBD,simprocAttr]
  refine QAu (H:=H) (Hb:=⟨H.next+1,H2.tr⟩) hy' false rfl ⟨by show H.next+1≤H2.next;omega,fun id _=>rfl⟩ hx12 hw2 (by rw[hg2];exact congrArg (fun c=>some (Blk.cells c Q3 false)) ec.symm) ?_ ?_ eL
  all_goals simp only[QBE,simprocAttr]
def Qc3 (m:Int):List Int:=if(m==1)=true then[15] else if(m==2)=true then[15,56] else if(m==3)=true then[15,58] else[]
theorem Qkz (m:Int) (H:Qa):Qe prog Gp [.int .i64 m] H fun v H'=>Gx 1 5 H H' v (Qc3 m).length (bys (Qc3 m))∧Ext H H':=by
 refine Qjn fun hw=>?_
 have hg:∀bs:List Int,Gx 1 5 H (H.push (.cells (bys bs) 5 false)) (.slice (some ⟨H.next,0,none⟩) bs.length bs.length) bs.length (bys bs):=fun bs=>.inr ⟨_,_,rfl,Nat.le_refl _,by rw[Qa.get_push,if_pos rfl],by rw[YE,Nat.mul_one],.inl rfl⟩
 simp only[Qca,QBD,simprocAttr]
 unfold Qc3
 cases h1:m==1 with
 | true=>
  simp only[QBD,simprocAttr,h1,YD]
  exact .mk ((Ext.refl H).push _).next ⟨hg [15],(Ext.refl H).push _⟩
 | false=>
  simp only[QBD,simprocAttr,h1]
  cases h2:m==2 with
  | true=>
   simp only[QBD,simprocAttr,h2,YD]
   exact .mk ((Ext.refl H).push _).next ⟨hg [15,56],(Ext.refl H).push _⟩
  | false=>
   simp only[QBD,simprocAttr,h2]
   cases h3:m==3 with
   | true=>
    simp only[QBD,simprocAttr,h3,YD]
    exact .mk ((Ext.refl H).push _).next ⟨hg [15,58],(Ext.refl H).push _⟩
   | false=>
    simp only[QBD,simprocAttr,h3,YD]
    exact .mk (Nat.le_refl _) ⟨.inl ⟨rfl,rfl,rfl⟩,.refl _⟩
def Qmd (w r x b:Int):Int:=w * 8+r * 4+x * 2+b
def Qwn:List (Int×Int×Int×Int):=([0,1]:List Int).flatMap fun w=>([0,1]:List Int).flatMap fun r=>([0,1]:List Int).flatMap fun x=>([0,1]:List Int).map fun b=>(w,r,x,b)
theorem QuQ:(Qwn.all fun p=>isW (.int .i64 (Qmd p.1 p.2.1 p.2.2.1 p.2.2.2)) ((run prog noK 200 5 10).fn Qi3 [.int .i64 p.1,.int .i64 p.2.1,.int .i64 p.2.2.1,.int .i64 p.2.2.2] (H0 prog)))=true:=by kernel_rfl
theorem QuR (w r x b:Int) (hw:0≤w∧w<2) (hr:0≤r∧r<2) (hx:0≤x∧x<2) (hb:0≤b∧b<2) (H:Qa):Qe prog Qi3 [.int .i64 w,.int .i64 r,.int .i64 x,.int .i64 b] H fun u H'=>u=.int .i64 (Qmd w r x b)∧H'=H:=by
 have m2:∀n:Int,0≤n∧n<2→n∈([0,1]:List Int):=fun n hn=>by
  simp only[List.mem_cons,List.not_mem_nil,or_false];omega
 have hm:(w,r,x,b)∈Qwn:=by
  unfold Qwn
  rw[List.mem_flatMap]
  refine⟨w,m2 w hw,List.mem_flatMap.2 ⟨r,m2 r hr,List.mem_flatMap.2 ⟨x,m2 x hx,List.mem_map.2 ⟨b,m2 b hb,rfl⟩⟩⟩⟩
 exact QqC (by kernel_rfl) rfl rfl (List.all_eq_true.1 QuQ _ hm) H
def Qix (f:Fm) (l:List Ar) (s:Int):Int:=if 0≤QB f.slots s then Z8 ((l[(QB f.slots s).toNat]?.getD WE).r) else 0
theorem QtD (x:Int):∀ (l:List Int) (k:Nat),JF l x k<k+l.length
 | [],k=>by show(-1:Int)<_;simp;omega
 | y::l,k=>by
  unfold JF
  split
  ·simp;omega
  ·have:=QtD x l (k+1)
   simp at this ⊢;omega
theorem QqF (l:List Int) (x:Int):QB l x<l.length:=by
 have:=QtD x l 0
 simpa[QB] using this
theorem Qc4 {l:List Ar} {i:Nat} {a:Ar} (h:l[i]? = some a):((Qi l).drop (i * 11+1)).take 2=[.int .i64 a.r.c,.int .i64 a.r.n]:=by
 have h1:=XS l i a h
 have h2:(((Qi l).drop (i * 11)).take 11).drop 1=a.cells.drop 1:=by rw[h1]
 rw[← List.drop_drop]
 have h3:((((Qi l).drop (i * 11)).drop 1).take 2)=((((Qi l).drop (i * 11)).take 11).drop 1).take 2:=by
  rw[List.drop_take,List.take_take];rfl
 rw[h3,h2];rfl
theorem Qf1 (x:Lf) (op:Int) (va:Value) (l:List Ar) (s:Int) (H:Qa) (hx:x.At H) (hv:QS H va l) (hl:l.length≤1000) (hn:x.f.slots.length=l.length):Qe prog KK [.agg x.cells.toArray,.agg #[.int .i64 op,va],.int .i64 s] H fun u H'=>u=.int .i64 (Qix x.f l s)∧Ext H H':=by
 refine Ql3 fun hw=>?_
 have ex:(Value.agg x.cells.toArray).cells.toList=x.cells:=rfl
 have e10:x.cells.take 10=x.cells:=rfl
 have l10:10≤x.cells.length:=Nat.le_refl _
 obtain⟨a0,cap,rfl,h1⟩:=hv
 have hxx:Ext H (H.push (.cells x.cells Qc false)):=(Ext.refl H).push _
 simp only[QeB,ex,QBG,simprocAttr]
 generalize hH1:Qa.push H _=H1
 have g1:H1.get H.next=some (.cells x.cells Qc false):=by rw[← hH1,Qa.get_push,if_pos rfl]
 have hx1:Ext H H1:=by rw[← hH1];exact hxx
 have hn1:H1.next=H.next+1:=by rw[← hH1];rfl
 have hw1:H1.Wf:=by rw[← hH1];exact hw.push _
 clear hH1 hxx
 simp only[QBD,simprocAttr]
 generalize hH2:Qa.push H1 _=H2
 have hx2:Ext H H2:=by rw[← hH2];exact hx1.push _
 have g2:H2.get H.next=some (.cells x.cells Qc false):=by rw[← hH2,Qa.get_push,if_neg (by omega)];exact g1
 have g2i:H2.get H1.next=some (.cells [.int .i64 op,.slice a0 l.length cap] Qb false):=by rw[← hH2,Qa.get_push,if_pos rfl]
 have hn2:H2.next=H1.next+1:=by rw[← hH2];rfl
 clear hH2
 have nz:¬H.next=H1.next:=by omega
 simp only[QBD,simprocAttr,nz,if_false,g1,List.drop_zero,e10]
 refine⟨l10,?_⟩
 refine(QU x s H2 (hx.ext hw hx2)).thenW ?_
 rintro _ _ hn3 hw3 ⟨rfl,k,rfl⟩
 simp only[Qa.next_up]at hn3
 have hx3:=hx2.up hn3
 have g3i:(H2.up k).get H1.next=some (.cells [.int .i64 op,.slice a0 l.length cap] Qb false):=by rw[Qa.get_up];exact g2i
 generalize H2.up k=H3 at *
 have hlt:=QqF x.f.slots s
 simp only[QBD,simprocAttr]
 unfold Qix
 refine Qg (fun h=>?_) (fun h=>?_)
 ·have h0:0≤QB x.f.slots s:=of_decide_eq_true h
  rw[if_pos h0]
  obtain⟨i,hi⟩:∃i:Nat,QB x.f.slots s=i:=⟨(QB x.f.slots s).toNat,by omega⟩
  rw[hi]at hlt ⊢
  have hil:i<l.length:=by omega
  obtain⟨a,ha⟩:∃a,l[i]? = some a:=⟨_,List.getElem?_eq_getElem hil⟩
  obtain⟨b,e,ro,rfl,hgb0⟩:=h1 (by omega)
  have hgb:H3.get b=some (.cells (Qi l) e ro):=by rw[hx3.get b (hw.lt hgb0)];exact hgb0
  have hrg:=Qc4 ha
  have hle:i * 11+1+2≤(Qi l).length:=by rw[QV];omega
  have d1:(0:Int)≤i∧(i:Int)<l.length:=by omega
  have d3:(i:Int).toNat=i:=by omega
  have hgd:(l[i]?.getD WE).r=a.r:=by rw[ha];rfl
  have q:=V1 a.r H3
  simp only[Rg.cells]at q
  simp only[QBD,simprocAttr,g3i,d1,d3,hgb,hrg,hgd]
  refine⟨hle,?_⟩
  refine q.thenW ?_
  rintro _ _ hn4 hw4 ⟨rfl,k4,rfl⟩
  simp only[Qa.next_up]at hn4
  simp only[QBD,simprocAttr,QdA]
  exact .mk (hx3.up hn4).next ⟨rfl,hx3.up hn4⟩
 ·rw[if_neg (by have:=of_decide_eq_false h;omega)]
  simp only[QBD,simprocAttr,QdA]
  exact .mk hx3.next ⟨rfl,hx3⟩
def Qf2 (l:List Ar):Bool:=l.any fun a=>a.k==1&&QoZ a.r
def Qme (l:List Ar):Bool:=l.any fun a=>a.k==1&&Qty a.r
def chF (bits:Int) (l:List Ar):List Int:=if(decide (0<bits)||Qf2 l)=true then(if Qme l=true then[] else[bits]) else if Qme l=true then[-1] else[-1,0]
theorem Qjq (op bits:Int) (va:Value) (l:List Ar) (H:Qa) (hv:QS H va l) (hl:l.length≤1000):Qe prog Kr [.agg #[.int .i64 op,va],.int .i64 bits] H fun v H'=>Gx 1 3 H H' v (chF bits l).length (ints (chF bits l))∧Ext H H':=by
 refine Qim fun hw=>?_
 obtain⟨a0,cap,rfl,h1⟩:=hv
 simp only[QaV,QBD,simprocAttr,Qw]
 generalize hH1:Qa.push H _=H1
 have hx1:Ext H H1:=by rw[← hH1];exact(Ext.refl H).push _
 have hw1:H1.Wf:=by rw[← hH1];exact hw.push _
 clear hH1
 refine Qy (fun m A' H'=>∃i:Nat,i≤l.length∧m=l.length - i∧H'.Wf∧Ext H H'∧A' 1=.int .i64 bits∧A' 5=.bool (decide (0<bits)||Qf2 (l.take i))∧A' 6=.bool (Qme (l.take i))∧A' 12=.slice a0 l.length cap∧A' 13=.int .i64 l.length∧A' 14=.int .i64 i) l.length ?_ ?_
 ·refine⟨0,Nat.zero_le _,by omega,hw1,hx1,?_,?_,?_,?_,?_,?_⟩
  all_goals simp only[QBE,simprocAttr]
  all_goals simp[Qf2,Qme]
 ·rintro m A' H' ⟨i,hi,rfl,hw',hx,r1,r5,r6,r12,r13,r14⟩
  simp only[GR,QBD,simprocAttr,r13,r14]
  refine Qg (fun h2=>?_) (fun h2=>?_)
  ·have h2:i<l.length:=by have:=of_decide_eq_true h2;omega
   obtain⟨a,ha⟩:∃a,l[i]? = some a:=⟨_,List.getElem?_eq_getElem h2⟩
   obtain⟨b,e,ro,rfl,hgb0⟩:=h1 (by omega)
   have hgb:H'.get b=some (.cells (Qi l) e ro):=by rw[hx.get b (hw.lt hgb0)];exact hgb0
   have htk:=XS l i a ha
   have hle:i * 11+11≤(Qi l).length:=by rw[QV];omega
   have d1:(0:Int)≤i∧(i:Int)<l.length:=by omega
   have d3:(i:Int).toNat=i:=by omega
   have ei:IntKind.i64.wrap ((i:Int)+1)=((i+1:Nat):Int):=by rw[w64 (by unfold I64;omega)];omega
   have htl:l.take (i+1)=l.take i++[a]:=by rw[List.take_add_one,ha];rfl
   have hN:Qf2 (l.take (i+1))=(Qf2 (l.take i)||(a.k==1&&QoZ a.r)):=by unfold Qf2;rw[htl,List.any_append];simp
   have hB:Qme (l.take (i+1))=(Qme (l.take i)||(a.k==1&&Qty a.r)):=by unfold Qme;rw[htl,List.any_append];simp
   have q1:=QqB a.r
   have q2:=Qst a.r
   obtain⟨ak,⟨rc,rn⟩,⟨⟨bc,bn⟩,⟨ic,nn⟩,sc,d,sz⟩,n⟩:=a
   simp only[Rg.cells]at q1 q2
   simp only[Ar.cells]at htk
   simp only at hN hB
   generalize Qf2 (l.take i)=N at *
   generalize Qme (l.take i)=B at *
   simp only[GQ,QBD,simprocAttr,r5,r6,r12,r14,d1,d3,hgb,htk]
   refine⟨hle,?_⟩
   generalize hH2:(Qa.push H' _).set _ _=H2
   have hx2:Ext H H2:=by rw[← hH2];exact(hx.push _).set (by have:=hx.next;omega) _
   have hw2:H2.Wf:=by rw[← hH2];exact(hw'.push _).set (b0:=.cells [.int .i64 0,.int .i64 0,.int .i64 0,.int .i64 0,.int .i64 0,.int .i64 0,.int .i64 0,.int .i64 0,.int .i64 0,.int .i64 0,.int .i64 0] Qd false) (by rw[Qa.get_push,if_pos rfl]) _
   have g2:H2.get H'.next=some (.cells [.int .i64 ak,.int .i64 rc,.int .i64 rn,.int .i64 bc,.int .i64 bn,.int .i64 ic,.int .i64 nn,.int .i64 sc,.int .i64 d,.int .i64 sz,.int .i64 n] Qd false):=by rw[← hH2,Qa.get_set,if_pos rfl]
   clear hH2
   -- the end of a round
   have hend:∀ (A2:Env) (H3:Qa),Ext H H3→H3.Wf→A2 1=.int .i64 bits→A2 5=.bool (decide (0<bits)||Qf2 (l.take (i+1)))→A2 6=.bool (Qme (l.take (i+1)))→A2 12=.slice (some ⟨b,0,none⟩) l.length cap→A2 13=.int .i64 l.length→A2 14=.int .i64 ((i+1:Nat):Int)→Qqf (fun m A' H'=>∃i:Nat,i≤l.length∧m=l.length - i∧H'.Wf∧Ext H H'∧A' 1=.int .i64 bits∧A' 5=.bool (decide (0<bits)||Qf2 (l.take i))∧A' 6=.bool (Qme (l.take i))∧A' 12=.slice (some ⟨b,0,none⟩) l.length cap∧A' 13=.int .i64 l.length∧A' 14=.int .i64 i) (l.length - i) A2 H3:=
    fun A2 H3 e1 e2 p1 p5 p6 p12 p13 p14=>⟨l.length - (i+1),by omega,i+1,by omega,rfl,e2,e1,p1,p5,p6,p12,p13,p14⟩
   rw[hN,hB]at hend
   cases hk:ak==1 with
   | false=>
    rw[hk,Bool.false_and,Bool.or_false,Bool.false_and,Bool.or_false]at hend
    simp only[QBD,simprocAttr,r14,ei]
    refine hend _ H2 hx2 hw2 ?_ ?_ ?_ ?_ ?_ ?_
    all_goals simp only[QBE,simprocAttr,r1,r5,r6,r12,r13]
   | true=>
    rw[hk,Bool.true_and,Bool.true_and,← Bool.or_assoc]at hend
    obtain⟨N',eN⟩:∃N',N'=(decide (0<bits)||N):=⟨_,rfl⟩
    rw[← eN]at hend r5
    cases N' with
    | true=>
     rw[Bool.true_or]at hend
     cases B with
     | true=>
      rw[Bool.true_or]at hend
      simp only[XL,QBD,simprocAttr,r5,r6,r14,ei]
      refine hend _ H2 hx2 hw2 ?_ ?_ ?_ ?_ ?_ ?_
      all_goals simp only[QBE,simprocAttr,r1,r12,r13]
     | false=>
      rw[Bool.false_or]at hend
      simp only[XL,QBD,simprocAttr,r5,r6,r14,ei,g2]
      refine(q2 H2).thenW ?_
      rintro _ _ hn4 hw4 ⟨rfl,k4,rfl⟩
      simp only[Qa.next_up]at hn4
      simp only[QBD,simprocAttr,r14,ei]
      refine hend _ _ (hx2.up hn4) hw4 ?_ ?_ ?_ ?_ ?_ ?_
      all_goals simp only[QBE,simprocAttr,r1,r12,r13]
    | false=>
     rw[Bool.false_or]at hend
     simp only[XL,QBD,simprocAttr,r5,r6,r14,ei,g2]
     refine(q1 H2).thenW ?_
     rintro _ _ hn3 hw3 ⟨rfl,k3,rfl⟩
     simp only[Qa.next_up]at hn3
     have hx3:=hx2.up hn3
     have g3:=g2
     rw[← Qa.get_up H2 k3]at g3
     generalize H2.up k3=H3 at *
     cases B with
     | true=>
      rw[Bool.true_or]at hend
      simp only[QBD,simprocAttr,r6,r14,ei]
      refine hend _ H3 hx3 hw3 ?_ ?_ ?_ ?_ ?_ ?_
      all_goals simp only[QBE,simprocAttr,r1,r12,r13]
     | false=>
      rw[Bool.false_or]at hend
      simp only[QBD,simprocAttr,r6,r14,ei,g3]
      refine(q2 H3).thenW ?_
      rintro _ _ hn4 hw4 ⟨rfl,k4,rfl⟩
      simp only[Qa.next_up]at hn4
      simp only[QBD,simprocAttr,r14,ei]
      refine hend _ _ (hx3.up hn4) hw4 ?_ ?_ ?_ ?_ ?_ ?_
      all_goals simp only[QBE,simprocAttr,r1,r12,r13]
  ·have h2:i=l.length:=by have:=of_decide_eq_false h2;omega
   subst h2
   rw[List.take_length]at r5 r6
   have hb1:∀z:Int,Gx 1 3 H (H'.push (.cells [.int .i64 z] 3 false)) (.slice (some ⟨H'.next,0,none⟩) 1 1) 1 (ints [z]):=fun z=>.inr ⟨_,_,rfl,hx.next,by rw[Qa.get_push,if_pos rfl];rfl,rfl,.inl rfl⟩
   have hb2:Gx 1 3 H (H'.push (.cells [.int .i64 (-1),.int .i64 0] 3 false)) (.slice (some ⟨H'.next,0,none⟩) 2 2) 2 (ints [-1,0]):=.inr ⟨_,_,rfl,hx.next,by rw[Qa.get_push,if_pos rfl];rfl,rfl,.inl rfl⟩
   unfold chF
   generalize (decide (0<bits)||Qf2 l)=N at *
   generalize Qme l=B at *
   cases N<;>cases B<;>simp only[GP,GO,QBD,simprocAttr,r1,r5,r6,QgP,if_true,if_false,Bool.false_eq_true]
   ·exact .mk (hx.push _).next ⟨hb2,hx.push _⟩
   ·exact .mk (hx.push _).next ⟨hb1 (-1),hx.push _⟩
   ·exact .mk (hx.push _).next ⟨hb1 bits,hx.push _⟩
   ·exact .mk hx.next ⟨.inl ⟨rfl,rfl,rfl⟩,hx⟩
structure FOk (f:Fm):Prop where
 pre:0≤f.pre∧f.pre≤5
 map:0≤f.map∧f.map≤3
 w:f.vex=false→f.w=0∨f.w=1
 vx:f.vex=true→f.map≠0∧(f.pre=0∨f.pre=1∨f.pre=2∨f.pre=4)∧(-1≤f.w∧f.w≤1)∧(f.l=0∨f.l=1)
def Qng (f:Fm) (l:List Ar) (s:Int):Int:=if 0≤QB f.slots s then((l[(QB f.slots s).toNat]?.getD WE).r).n else 0
def hB (f:Fm) (l:List Ar) (h:Int):Int:=if 0≤QB f.slots 4 then Qix f l 4 else h
def QqG (w:Int):Int:=if 0>w then 0 else w
def vxF (f:Fm) (l:List Ar) (x h:Int):Vx:=⟨Qix f l 1,x,hB f l h,f.map,QqG f.w,Qng f l 3,f.l,f.pre⟩
def Qc5 (f:Fm) (l:List Ar) (x h:Int):List (List Int):=
 if f.vex=true then Qsv (vxF f l x h) (f.w==-1)
 else(chF (Qmd f.w (Qix f l 1) x (hB f l h)) l).map fun n=>Qcf f.pre n++Qc3 f.map
theorem QkY (f:Fm) (l:List Ar) (s:Int):0≤Qix f l s∧Qix f l s<2:=by
 unfold Qix
 split
 ·exact Qiv _
 ·omega
section
variable {x:Lf} {op:Int} {va:Value} {l:List Ar} {H:Qa}
abbrev KH (H:Qa) (W:List (List Int)):Env→Qa→Prop:=Rt prog QlZ H fun v H'=>JM WT H H' v W∧Ext H H'
structure HdF (H H':Qa) (x:Lf) (op:Int) (va:Value) (A:Env):Prop where
 xt:Ext H H'
 w:H'.Wf
 g3:H'.get H.next=some (.cells x.cells Qc false)
 g4:H'.get (H.next+1)=some (.cells [.int .i64 op,va] Qb false)
 lt:H.next+2≤H'.next
 r3:A 3=.pointer (some ⟨H.next,0,none⟩)
 r4:A 4=.pointer (some ⟨H.next+1,0,none⟩)
theorem HdF.go {H' H'':Qa} {A B:Env} (h:HdF H H' x op va A) (hx:Ext H' H'') (hw:H''.Wf) (e3:B 3=A 3) (e4:B 4=A 4):HdF H H'' x op va B:=
 ⟨h.xt.trans hx,hw,by rw[hx.get _ (by have:=h.lt;omega)];exact h.g3,by rw[hx.get _ (by have:=h.lt;omega)];exact h.g4,by have:=h.lt;have:=hx.next;omega,e3.trans h.r3,e4.trans h.r4⟩
theorem QBk (hf:FOk x.f) (hv:x.f.vex=false) (hw:H.Wf) (hx:x.At H) (ha:QS H va l) (hva:∀n,H.next≤n→Qj n 6 (.agg #[.int .i64 op,va])=true) (hl:l.length≤1000) {r xx b:Int} (hr:0≤r∧r<2) (hxx:0≤xx∧xx<2) (hb:0≤b∧b<2) {W:List (List Int)} (eW:W=(chF (Qmd x.f.w r xx b) l).map fun n=>Qcf x.f.pre n++Qc3 x.f.map) {A:Env} {H1:Qa} (hF:HdF H H1 x op va A) (r7:A 7=.int .i64 r) (r8:A 8=.int .i64 xx) (r9:A 9=.int .i64 b):
  Qp prog Jz ⟨KH H W,YH⟩ (KH H W) A H1:=by
 obtain⟨a0,cap,rfl,ha1⟩:=id ha
 have hF0:=hF
 obtain⟨hx1,hw1,g3,g4,hlt,r3,r4⟩:=hF
 have e7:x.cells[7]? = some (.int .i64 x.f.w):=rfl
 have hwv:=hf.w hv
 simp only[Jz,QBD,simprocAttr,r3,r4,r7,r8,r9,g3,g4,e7]
 have hnx:=hx1.next
 refine⟨hva _ hnx,?_⟩
 refine(QuR x.f.w r xx b (by omega) hr hxx hb H1).thenW ?_
 rintro _ H1 _ _ ⟨rfl,rfl⟩
 simp only[QBD,simprocAttr]
 refine⟨fun _ _=>rfl,?_⟩
 refine(Qjq op (Qmd x.f.w r xx b) _ l H1 (ha.ext hw hx1) hl).thenW ?_
 rintro v2 H2 _ hw2 ⟨hg2,hx2⟩
 have hbn:0≤Qmd x.f.w r xx b∧Qmd x.f.w r xx b≤15:=by unfold Qmd;omega
 have hch:∀n∈chF (Qmd x.f.w r xx b) l,-1≤n∧n≤15:=by
  intro n hn
  unfold chF at hn
  split at hn
  ·split at hn
   ·cases hn
   ·simp at hn;omega
  ·split at hn
   ·simp at hn;omega
   ·simp at hn;omega
 have hcl:(chF (Qmd x.f.w r xx b) l).length≤2:=by
  unfold chF
  split
  ·split<;>simp
  ·split<;>simp
 generalize chF (Qmd x.f.w r xx b) l=C at *
 have hsl:=hg2.sl
 obtain⟨av,cv,rfl,hav⟩:=hsl
 simp only[QBD,simprocAttr,Qw]
 have e3:x.cells[3]? = some (.int .i64 x.f.pre):=rfl
 have e4:x.cells[4]? = some (.int .i64 x.f.map):=rfl
 have hF2:∀B:Env,B 3=A 3→B 4=A 4→HdF H H2 x op (.slice a0 l.length cap) B:=fun B h3 h4=>hF0.go hx2 hw2 h3 h4
 have hx12:=hx1.trans hx2
 have hn12:=hx12.next
 refine Qy (fun m A' H'=>∃ (i:Nat) (v:Value),i≤C.length∧m=C.length - i∧Ext H2 H'∧JM WT H2 H' v ((C.take i).map fun n=>Qcf x.f.pre n++Qc3 x.f.map)∧H'.Wf∧A' 3=.pointer (some ⟨H.next,0,none⟩)∧A' 14=v∧A' 77=.slice av C.length cv∧A' 78=.int .i64 C.length∧A' 79=.int .i64 i) C.length ?_ ?_
 ·refine⟨0,.slice none 0 0,Nat.zero_le _,by omega,.refl _,JM.nil (by decide) _ _,hw2,?_,?_,?_,?_,?_⟩
  all_goals simp only[QBE,simprocAttr,r3]
  all_goals rfl
 ·rintro m A' H' ⟨i,v,hi,rfl,hxa,hla,hwa,q3,q14,q77,q78,q79⟩
  simp only[QaU,QBD,simprocAttr,q78,q79]
  refine Qg (fun h2=>?_) (fun h2=>?_)
  ·have h2:i<C.length:=by have:=of_decide_eq_true h2;omega
   obtain⟨n,hn⟩:∃n,C[i]? = some n:=⟨_,List.getElem?_eq_getElem h2⟩
   have hnb:=hch n (List.mem_of_getElem? hn)
   obtain⟨b',e',ro',rfl,hgb0⟩:=hav (by omega)
   have hgb:H'.get b'=some (.cells (ints C) e' ro'):=by rw[hxa.get b' (hw2.lt hgb0)];exact hgb0
   have hcell:(ints C)[i]? = some (.int .i64 n):=by unfold ints;rw[List.getElem?_map,hn];rfl
   have d1:(0:Int)≤i∧(i:Int)<C.length:=by omega
   have d3:(i:Int).toNat=i:=by omega
   have ei:IntKind.i64.wrap ((i:Int)+1)=((i+1:Nat):Int):=by rw[w64 (by unfold I64;omega)];omega
   have ga3:H'.get H.next=some (.cells x.cells Qc false):=by rw[(hx2.trans hxa).get _ (by omega)];exact g3
   simp only[QaT,QBD,simprocAttr,q3,q14,q77,q79,d1,d3,hgb,hcell,ga3,e3]
   refine(QuO x.f.pre n hf.pre hnb H').thenW ?_
   rintro _ H3 _ hw3 ⟨v3,rfl,hg3',hx3⟩
   have gb3:H3.get H.next=some (.cells x.cells Qc false):=by rw[hx3.get _ (hwa.lt ga3)];exact ga3
   simp only[QBD,simprocAttr,beq_self_eq_true,Bool.not_true,q3,q14,gb3,e4]
   refine(Qkz x.f.map H3).thenW ?_
   rintro v4 H4 _ hw4 ⟨hg4',hx4⟩
   have hle5:(Qc3 x.f.map).length≤2:=by unfold Qc3;repeat' (split<;>try simp)
   have hle6:(Qcf x.f.pre n).length≤4:=by
    unfold Qcf Qzu
    simp only[List.length_append]
    have h1:(if x.f.pre % 2=1 then([102]:List Int) else[]).length≤1:=by split<;>simp
    have h2:(if x.f.pre / 2 % 2=1 then([242]:List Int) else[]).length≤1:=by split<;>simp
    have h3:(if x.f.pre / 4 % 2=1 then([243]:List Int) else[]).length≤1:=by split<;>simp
    have h4:(if 0≤n then([64+n]:List Int) else[]).length≤1:=by split<;>simp
    omega
   simp only[QBD,simprocAttr]
   refine Qbn (hg3'.go hw3 hx4) (hx3.trans hx4) hw4 hg4'.src (Qa2 _) (by rw[YE,Nat.mul_one]) (by omega) (by omega) ?_
   intro v5 H5 hg5 hk5
   obtain⟨a5,c5,rfl⟩:=hg5.slc
   simp only[QBD,simprocAttr]
   have hx6:=(Ext.refl H5).push (.cells [.slice a5 ((Qcf x.f.pre n).length+(Qc3 x.f.map).length) c5] WT false)
   have hxa6:=hk5.x.trans hx6
   have hnb5:=hxa.next
   have hg5':Gx 1 5 H2 (H5.push (.cells [.slice a5 ((Qcf x.f.pre n).length+(Qc3 x.f.map).length) c5] WT false)) (.slice a5 ((Qcf x.f.pre n).length+(Qc3 x.f.map).length) c5) (Qcf x.f.pre n++Qc3 x.f.map).length (bys (Qcf x.f.pre n++Qc3 x.f.map)):=by
    rw[List.length_append,Vd]
    exact(hg5.go hk5.w hx6).down hnb5
   have hct:((C.take i).map fun n=>Qcf x.f.pre n++Qc3 x.f.map).length≤2:=by rw[List.length_map,List.length_take];omega
   refine Qo2 (hla.go hwa hxa6) (hxa.trans hxa6) (hk5.w.push _) hg5' (QkX H5 _) (by omega) (by omega) ?_
   intro v7 H7 hv7 hk7
   simp only[QBD,simprocAttr,q79,ei]
   refine⟨C.length - (i+1),by omega,i+1,v7,by omega,rfl,hk7.x,?_,hk7.w,?_,?_,?_,?_,?_⟩
   ·have:(C.take (i+1)).map (fun n=>Qcf x.f.pre n++Qc3 x.f.map)=(C.take i).map (fun n=>Qcf x.f.pre n++Qc3 x.f.map)++[Qcf x.f.pre n++Qc3 x.f.map]:=by
     rw[List.take_add_one,hn,List.map_append];rfl
    rw[this];exact hv7
   all_goals simp only[QBE,simprocAttr,q3,q77,q78]
  ·have h2:i=C.length:=by have:=of_decide_eq_false h2;omega
   subst h2
   rw[List.take_length]at hla
   simp only[QBD,simprocAttr,q14,Qb9]
   have hxf:=hx12.trans hxa
   exact .mk hxf.next ⟨by rw[eW];exact hla.down hn12,hxf⟩
theorem Qke {l:List Ar} {i:Nat} {a:Ar} (h:l[i]? = some a):(Qi l)[i * 11+1+1]? = some (.int .i64 a.r.n):=by
 have h1:=Qc4 h
 have:=congrArg (·[1]?) h1
 simp only[List.getElem?_take,List.getElem?_drop]at this
 simpa using this
theorem QBl (hw:H.Wf) (hx:x.At H) (ha:QS H va l) (hl:l.length≤1000) (hn:x.f.slots.length=l.length) {r xx b:Int} {y:Vx} (hy:y.Ok) (ey:y=⟨r,xx,b,x.f.map,QqG x.f.w,Qng x.f l 3,x.f.l,x.f.pre⟩) {W:List (List Int)} (eW:W=Qsv y (x.f.w==-1)) {A:Env} {H1:Qa} (hF:HdF H H1 x op va A) (r7:A 7=.int .i64 r) (r8:A 8=.int .i64 xx) (r9:A 9=.int .i64 b) (ks:Kp) (hks:ks=⟨KH H W,YH⟩) (k:Env→Qa→Prop):
  Qp prog JB ks k A H1:=by
 subst hks
 obtain⟨a0,cap,rfl,ha1⟩:=id ha
 obtain⟨hx1,hw1,g3,g4,hlt,r3,r4⟩:=hF
 have e3:x.cells[3]? = some (.int .i64 x.f.pre):=rfl
 have e4:x.cells[4]? = some (.int .i64 x.f.map):=rfl
 have e7:x.cells[7]? = some (.int .i64 x.f.w):=rfl
 have e9:x.cells[9]? = some (.int .i64 x.f.l):=rfl
 have e10:x.cells.take 10=x.cells:=rfl
 have l10:10≤x.cells.length:=Nat.le_refl _
 have hidx:=QqF x.f.slots 3
 simp only[JB,QBD,simprocAttr,r3,r4,r7,r8,r9,g3,e3,e4,e7,e9]
 rw[QxM (ik:=.i64) (a:=x.f.w) (b:=0) (by simp only[QBE,simprocAttr]) (by simp only[QBE,simprocAttr])]
 simp only[QBD,simprocAttr,r3,r4,r7,r8,r9,g3,e3,e4,e7,e9]
 generalize hH2:(Qa.push H1 _).set _ _=H2
 have hx2:Ext H1 H2:=by rw[← hH2];exact((Ext.refl H1).push _).set (Nat.le_refl _) _
 have hw2:H2.Wf:=by rw[← hH2];exact(hw1.push _).set (b0:=.cells [.int .i64 0,.int .i64 0,.int .i64 0,.int .i64 0,.int .i64 0,.int .i64 0,.int .i64 0,.int .i64 0] Q3 false) (by rw[Qa.get_push,if_pos rfl]) _
 have g2:H2.get H1.next=some (.cells [.int .i64 r,.int .i64 xx,.int .i64 b,.int .i64 x.f.map,.int .i64 (QqG x.f.w),.int .i64 0,.int .i64 x.f.l,.int .i64 x.f.pre] Q3 false):=by rw[← hH2,Qa.get_set,if_pos rfl];rfl
 have g23:H2.get H.next=some (.cells x.cells Qc false):=by rw[hx2.get _ (by omega)];exact g3
 clear hH2
 have nz:¬H.next=H1.next:=by omega
 simp only[QBD,simprocAttr,nz,if_false,List.drop_zero,e10]
 refine⟨l10,?_⟩
 refine(QU x 3 H2 (hx.ext hw (hx1.trans hx2))).thenW ?_
 rintro _ _ hn3 hw3 ⟨rfl,k3,rfl⟩
 simp only[Qa.next_up]at hn3
 have hx3:=(hx1.trans hx2).up hn3
 have hlt2:=hw2.lt g2
 have g3v:=g2
 have g33:=g23
 rw[← Qa.get_up H2 k3]at g3v g33
 have g34:(H2.up k3).get (H.next+1)=some (.cells [.int .i64 op,.slice a0 l.length cap] Qb false):=by rw[Qa.get_up,hx2.get _ (by omega)];exact g4
 have hlt3:H1.next<(H2.up k3).next:=by rw[Qa.next_up];omega
 generalize H2.up k3=H3 at *
 -- the end: the VEX stands in its block
 have hend:∀ (A2:Env) (H4:Qa),Ext H H4→H4.Wf→H4.get H1.next=some (.cells y.cells Q3 false)→H4.get H.next=some (.cells x.cells Qc false)→A2 3=.pointer (some ⟨H.next,0,none⟩)→A2 10=.pointer (some ⟨H1.next,0,none⟩)→Qp prog JA ⟨KH H W,YH⟩ k A2 H4:=by
  intro A2 H4 hx4 hw4 gv gf p3 p10
  have qa:=QuP hy (x.f.w==-1) H4
  have ev8:y.cells.take 8=y.cells:=rfl
  have lv8:8≤y.cells.length:=Nat.le_refl _
  simp only[JA,QBD,simprocAttr,p3,p10,gv,gf,List.drop_zero,ev8,e7]
  refine⟨lv8,?_⟩
  refine qa.thenW ?_
  rintro _ H5 _ hw5 ⟨v,rfl,hv,hx5⟩
  simp only[QBD,simprocAttr,beq_self_eq_true,Bool.not_true,Qb9]
  have hx6:=hx4.trans hx5
  exact .mk hx6.next ⟨by rw[eW];exact hv.down hx4.next,hx6⟩
 simp only[QBD,simprocAttr]
 refine Qg (fun h=>?_) (fun h=>?_)
 ·have h0:0≤QB x.f.slots 3:=of_decide_eq_true h
  have er:Qng x.f l 3=((l[(QB x.f.slots 3).toNat]?.getD WE).r).n:=by unfold Qng;rw[if_pos h0]
  obtain⟨i,hi⟩:∃i:Nat,QB x.f.slots 3=i:=⟨(QB x.f.slots 3).toNat,by omega⟩
  rw[hi]at hidx er ⊢
  have hil:i<l.length:=by omega
  obtain⟨a,hai⟩:∃a,l[i]? = some a:=⟨_,List.getElem?_eq_getElem hil⟩
  obtain⟨b',e,ro,rfl,hgb0⟩:=ha1 (by omega)
  have hgb:H3.get b'=some (.cells (Qi l) e ro):=by rw[hx3.get b' (hw.lt hgb0)];exact hgb0
  have hrg:=Qke hai
  have d1:(0:Int)≤i∧(i:Int)<l.length:=by omega
  have d3:(i:Int).toNat=i:=by omega
  have er2:Qng x.f l 3=a.r.n:=by rw[er,d3,hai];rfl
  have ec:y.cells=[.int .i64 r,.int .i64 xx,.int .i64 b,.int .i64 x.f.map,.int .i64 (QqG x.f.w),.int .i64 a.r.n,.int .i64 x.f.l,.int .i64 x.f.pre]:=by rw[ey,er2];rfl
  simp only[QBD,simprocAttr,r3,r4,g34,d1,d3,hgb,hrg,g3v]
  refine hend _ _ (hx3.set (by omega) _) (hw3.set g3v _) ?_ ?_ ?_ ?_
  ·rw[Qa.get_set,if_pos rfl,ec]
  ·rw[Qa.get_set,if_neg nz];exact g33
  all_goals simp only[QBE,simprocAttr,r3]
 ·have h0:¬0≤QB x.f.slots 3:=of_decide_eq_false h
  have er:Qng x.f l 3=0:=by unfold Qng;rw[if_neg h0]
  have ec:y.cells=[.int .i64 r,.int .i64 xx,.int .i64 b,.int .i64 x.f.map,.int .i64 (QqG x.f.w),.int .i64 0,.int .i64 x.f.l,.int .i64 x.f.pre]:=by rw[ey,er];rfl
  simp only[QBD,simprocAttr]
  refine hend _ H3 hx3 hw3 (by rw[ec];exact g3v) g33 ?_ ?_
  all_goals simp only[QBE,simprocAttr,r3]
end
theorem Qmf {x:Lf} {op:Int} {va:Value} {l:List Ar} (hf:FOk x.f) (H:Qa) (hx:x.At H) (ha:QS H va l) (hva:∀n,H.next≤n→Qj n 6 (.agg #[.int .i64 op,va])=true) (hl:l.length≤1000) (hn:x.f.slots.length=l.length) {lx lh:Int} (hlx:0≤lx∧lx<2) (hlh:0≤lh∧lh<2) (hy:x.f.vex=true→(vxF x.f l lx lh).Ok) {sa:Option Addr} {sn sc:Nat}:
  Qe prog Vo [.agg x.cells.toArray,.agg #[.int .i64 op,va],.agg #[.slice sa sn sc,.int .i64 lx,.int .i64 lh]] H fun v H'=>JM WT H H' v (Qc5 x.f l lx lh)∧Ext H H':=by
 refine Qkw fun hw=>?_
 have ex:(Value.agg x.cells.toArray).cells.toList=x.cells:=rfl
 have e10:x.cells.take 10=x.cells:=rfl
 have e8:x.cells[8]? = some (.bool x.f.vex):=rfl
 have l10:10≤x.cells.length:=Nat.le_refl _
 obtain⟨W,eW⟩:∃W,W=Qc5 x.f l lx lh:=⟨_,rfl⟩
 rw[← eW]
 obtain⟨a0,cap,rfl⟩:=QY ha
 simp only[Qdy,ex,QBG,simprocAttr]
 generalize hH1:Qa.push H (.cells x.cells Qc false)=H1
 have g1:H1.get H.next=some (.cells x.cells Qc false):=by rw[← hH1,Qa.get_push,if_pos rfl]
 have hx1:Ext H H1:=by rw[← hH1];exact(Ext.refl H).push _
 have hn1:H1.next=H.next+1:=by rw[← hH1];rfl
 have hw1:H1.Wf:=by rw[← hH1];exact hw.push _
 clear hH1
 simp only[QBD,simprocAttr,hn1]
 generalize hH2:Qa.push (Qa.push H1 _) _=H2
 have hx2:Ext H H2:=by rw[← hH2];exact(hx1.push _).push _
 have hw2:H2.Wf:=by rw[← hH2];exact(hw1.push _).push _
 have g23:H2.get H.next=some (.cells x.cells Qc false):=by rw[← hH2,Qa.get_push,if_neg (by rw[Qa.next_push];omega),Qa.get_push,if_neg (by omega)];exact g1
 have g24:H2.get (H.next+1)=some (.cells [.int .i64 op,.slice a0 l.length cap] Qb false):=by rw[← hH2,Qa.get_push,if_neg (by rw[Qa.next_push];omega),Qa.get_push,if_pos (by omega)]
 have g25:H2.get (H.next+2)=some (.cells [.slice sa sn sc,.int .i64 lx,.int .i64 lh] Qm false):=by rw[← hH2,Qa.get_push,if_pos (by rw[Qa.next_push];omega)]
 have hn2:H2.next=H.next+3:=by rw[← hH2,Qa.next_push,Qa.next_push,hn1]
 clear hH2
 have nz:¬H.next=H.next+1+1:=by omega
 have nz2:¬H.next+1=H.next+1+1:=by omega
 have hb1:=QkY x.f l 1
 have hb4:=QkY x.f l 4
 simp only[QBD,simprocAttr,nz,nz2,if_false,g1,g23,g24,g25,List.drop_zero,e10]
 refine⟨l10,⟨by omega,by omega⟩,?_⟩
 refine(Qf1 x op _ l 1 H2 (hx.ext hw hx2) (ha.ext hw hx2) hl hn).thenW ?_
 rintro _ H3 hn3 hw3 ⟨rfl,hx3⟩
 have hx13:=hx2.trans hx3
 have g33:=(hx3.get H.next (by omega)).trans g23
 have g34:=(hx3.get (H.next+1) (by omega)).trans g24
 have g35:=(hx3.get (H.next+2) (by omega)).trans g25
 have hx3e:=hx3.eqB
 simp only[QBD,simprocAttr,g33,g34,g35,List.drop_zero,e10]
 refine⟨hx3e,by simp[Qj,Ab.plain],by simp[Qj,Ab.plain],l10,?_⟩
 refine(QU x 4 H3 (hx.ext hw hx13)).thenW ?_
 rintro _ _ hn4 hw4 ⟨rfl,k4,rfl⟩
 simp only[Qa.next_up]at hn4
 have hx4:=hx13.up hn4
 have g43:=g33
 have g44:=g34
 rw[← Qa.get_up H3 k4]at g43 g44
 have hn4':H.next+3≤(H3.up k4).next:=by rw[Qa.next_up];have:=hx3.next;omega
 generalize H3.up k4=H4 at *
 -- the last part,with the bit that the opcode's register may give
 have hend:∀ (A:Env) (H5:Qa) (b:Int),Ext H4 H5→H5.Wf→b=hB x.f l lh→A 3=.pointer (some ⟨H.next,0,none⟩)→A 4=.pointer (some ⟨H.next+1,0,none⟩)→A 7=.int .i64 (Qix x.f l 1)→A 8=.int .i64 lx→A 9=.int .i64 b→Qp prog JC ⟨KH H W,YH⟩ (KH H W) A H5:=by
  intro A H5 b hx5 hw5 eb p3 p4 p7 p8 p9
  subst eb
  have hF:HdF H H5 x op (.slice a0 l.length cap) A:=⟨hx4.trans hx5,hw5,by rw[hx5.get _ (by omega)];exact g43,by rw[hx5.get _ (by omega)];exact g44,by have:=hx5.next;omega,p3,p4⟩
  have hbb:0≤hB x.f l lh∧hB x.f l lh<2:=by unfold hB;split;exact hb4;exact hlh
  simp only[JC,QBD,simprocAttr,p3,hF.g3,e8]
  cases hv:x.f.vex with
  | true=>
   simp only[QBG,simprocAttr]
   refine QBl (y:=vxF x.f l lx lh) hw hx ha hl hn (hy hv) rfl (by rw[eW];unfold Qc5;rw[if_pos hv]) (hF.go (.refl _) hw5 ?_ ?_) ?_ ?_ ?_ _ rfl _
   all_goals simp only[QBE,simprocAttr,p7,p8,p9]
  | false=>
   simp only[QBG,simprocAttr]
   refine QBk hf hv hw hx ha hva hl hb1 hlx hbb (by rw[eW];unfold Qc5;rw[if_neg (by simp[hv])]) (hF.go (.refl _) hw5 ?_ ?_) ?_ ?_ ?_
   all_goals simp only[QBE,simprocAttr,p7,p8,p9]
 simp only[QBD,simprocAttr]
 refine Qg (fun h=>?_) (fun h=>?_)
 ·have h0:0≤QB x.f.slots 4:=of_decide_eq_true h
  simp only[QBD,simprocAttr,g43,g44,List.drop_zero,e10]
  refine⟨l10,?_⟩
  refine(Qf1 x op _ l 4 H4 (hx.ext hw hx4) (ha.ext hw hx4) hl hn).thenW ?_
  rintro _ H5 hn5 hw5 ⟨rfl,hx5⟩
  simp only[Qhu,QcC,QbD,Qe2,Qto]
  refine hend _ H5 _ hx5 hw5 (by unfold hB;rw[if_pos h0]) ?_ ?_ ?_ ?_ ?_
  all_goals simp only[QBE,simprocAttr]
 ·have h0:¬0≤QB x.f.slots 4:=of_decide_eq_false h
  simp only[Qgm,Qlv]
  refine hend _ H4 _ (.refl _) hw4 (by unfold hB;rw[if_neg h0]) ?_ ?_ ?_ ?_ ?_
  all_goals simp only[QBE,simprocAttr]
theorem Ze (f:Fn) (a b:Array Value):(Value.func f a b).cells.toList=[.func f a b]:=Eq.trans rfl rfl
theorem Yh (f:Fn) (a b:Array Value):(Value.func f a b).oneCell'=true:=Eq.trans rfl rfl
theorem Qfc {l:Nat} {args:List Value} {H:Qa} {k k':Value→Qa→Prop} (h:YQ prog l args H k) (hk:∀v H',H.next≤H'.next→H'.Wf→k v H'→k' v H'):YQ prog l args H k':=by
 intro hw
 obtain⟨v,H',h1,h2,h3,h4⟩:=h hw
 exact⟨v,H',h1,h2,h3,hk v H' h2 h3 h4⟩
structure CK (Own:Qa→Nat→Prop) (H H':Qa):Prop where
 next:H.next≤H'.next
 w:H'.Wf
 keep:∀id,id<H.next→¬Own H id→H'.get id=H.get id
 own:∀id,Own H' id→Own H id∨H.next≤id
theorem CK.trans {Own:Qa→Nat→Prop} {H H' H'':Qa} (h:CK Own H H') (h':CK Own H' H''):CK Own H H'':=by
 have n1:=h.next
 have n2:=h'.next
 refine⟨by omega,h'.w,fun id h1 h2=>?_,fun id h1=>?_⟩
 ·rw[h'.keep id (by omega) (fun h3=>by rcases h.own id h3 with h4 | h4;exact h2 h4;omega),h.keep id h1 h2]
 ·rcases h'.own id h1 with h2 | h2
  ·exact h.own id h2
  ·exact .inr (by omega)
structure Cns {α:Type} (base:Nat) (l:Nat) (items:List α) (It:Qa→Qa→α→Value→Prop) (R:Nat→Qa→Prop) (Own:Qa→Nat→Prop):Prop where
 ext:∀j H H',R j H→H.Wf→Ext H H'→R j H'∧∀id,Own H' id→Own H id
 low:∀j H id,R j H→Own H id→id<H.next
 go:∀j w H0 H v,items[j]? = some w→R j H→It H0 H w v→base≤H0.next→Ext H0 H→(∀id,Own H id→Own H0 id)→YQ prog l [v] H fun u H'=>u=.bool true∧R (j+1) H'∧CK Own H H'
theorem Cns.ck {α:Type} {base l:Nat} {items:List α} {It:Qa→Qa→α→Value→Prop} {R:Nat→Qa→Prop} {Own:Qa→Nat→Prop} (h:Cns base l items It R Own) {j:Nat} {H H':Qa} (hR:R j H) (hw:H.Wf) (hx:Ext H H') (hw':H'.Wf):CK Own H H':=
 ⟨hx.next,hw',fun id hid _=>hx.get id hid,fun id hid=>.inl ((h.ext j H H' hR hw hx).2 id hid)⟩
def Qzy (md:Nat) (m:Mm):Bool:=if md=0 then(m.d==0)&&!(W6 m.b==5) else if md=1 then Qtw m.d 8 else true
def QgZ (md:Nat) (m:Mm):List Int:=if md=0 then[] else if md=1 then(Ky m.d 1).1 else(Ky m.d 4).1
def Zm (mid rm:Int) (sib:List Int) (m:Mm) (md:Nat):List Ld:=if Qzy md m=true then[⟨[QI md mid rm]++sib++QgZ md m,Z8 m.i,Z8 m.b⟩] else[]
def YG (mid rm:Int) (sib:List Int) (m:Mm):List Ld:=(List.range 3).flatMap (Zm mid rm sib m)
def QiB:List Value:=[.func (.func Yx) #[] #[],.func (.func Yy) #[] #[],.func (.func Yz) #[] #[],.func (.func YA) #[] #[],.func (.func YB) #[] #[],.func (.func YC) #[] #[]]
theorem QkC (H:Qa):Qe prog Gq [] H fun u H'=>u=.slice (some ⟨H.next,0,none⟩) 3 3∧H'=H.push (.cells QiB Ws false):=by
 refine Qjp fun hw=>?_
 simp only[Qcd,sxA,sxB,Nat.reduceBEq,Nat.reduceEqDiff,reduceCtorEq,mxA,mxB,Nat.reduceAdd,reduceIte,Nat.reduceLeDiff,splice,Ze,Yh,Nat.reduceMul,Qis]
 exact .mk (by rw[Qa.next_push];omega) ⟨rfl,rfl⟩
theorem Qzz (d lo:Int) (H:Qa):Qe prog Yx [.int .i64 d,.int .i64 lo] H fun u H'=>u=.bool ((d==0)&&!(lo==5))∧H'=H:=by
 refine QgQ fun hw=>?_
 simp only[VV,sxA,sxB,Nat.reduceBEq,Nat.reduceEqDiff,reduceCtorEq,mxA,mxB,Nat.reduceAdd,reduceIte,Nat.reduceLeDiff,splice]
 cases h:d==0<;>simp only[sxA,sxB,Nat.reduceBEq,Nat.reduceEqDiff,reduceCtorEq,mxA,mxB,Nat.reduceAdd,reduceIte,Nat.reduceLeDiff,splice,h,Qfl]
 all_goals exact .mk (Nat.le_refl _) ⟨rfl,rfl⟩
theorem QzA (d lo:Int) (H:Qa):Qe prog Yz [.int .i64 d,.int .i64 lo] H fun u H'=>u=.bool (Qtw d 8)∧H'=H:=by
 refine QgS fun hw=>?_
 simp only[VX,sxA,sxB,Nat.reduceBEq,Nat.reduceEqDiff,reduceCtorEq,mxA,mxB,Nat.reduceAdd,reduceIte,Nat.reduceLeDiff,splice]
 refine(QoX d 8 H).thenW ?_
 rintro _ H _ _ ⟨rfl,rfl⟩
 simp only[sxA,sxB,Nat.reduceBEq,Nat.reduceEqDiff,reduceCtorEq,mxA,mxB,Nat.reduceAdd,reduceIte,Nat.reduceLeDiff,splice,Qfn]
 exact .mk (Nat.le_refl _) ⟨rfl,rfl⟩
theorem QzB (d lo:Int) (H:Qa):Qe prog YB [.int .i64 d,.int .i64 lo] H fun u H'=>u=.bool true∧H'=H:=by
 refine QgU fun hw=>?_
 simp only[VZ,sxA,sxB,Nat.reduceBEq,Nat.reduceEqDiff,reduceCtorEq,mxA,mxB,Nat.reduceAdd,reduceIte,Nat.reduceLeDiff,splice,Qfp]
 exact .mk (Nat.le_refl _) ⟨rfl,rfl⟩
theorem QzC (d:Int) (H:Qa):Qe prog Yy [.int .i64 d] H fun v H'=>Gx 1 5 H H' v 0 []∧Ext H H':=by
 refine QgR fun hw=>?_
 simp only[VW,sxA,sxB,Nat.reduceBEq,Nat.reduceEqDiff,reduceCtorEq,mxA,mxB,Nat.reduceAdd,reduceIte,Nat.reduceLeDiff,splice,Qfm]
 exact .mk (Nat.le_refl _) ⟨.inl ⟨rfl,rfl,rfl⟩,.refl _⟩
theorem QzD (d:Int) (hd:I64 d) (H:Qa):Qe prog YA [.int .i64 d] H fun v H'=>Gx 1 5 H H' v (Ky d 1).1.length (bys (Ky d 1).1)∧Ext H H':=by
 refine QgT fun hw=>?_
 simp only[VY,sxA,sxB,Nat.reduceBEq,Nat.reduceEqDiff,reduceCtorEq,mxA,mxB,Nat.reduceAdd,reduceIte,Nat.reduceLeDiff,splice]
 refine(Qa3 d 1 hd H).thenW ?_
 rintro v H1 _ _ ⟨hv,hx⟩
 simp only[sxA,sxB,Nat.reduceBEq,Nat.reduceEqDiff,reduceCtorEq,mxA,mxB,Nat.reduceAdd,reduceIte,Nat.reduceLeDiff,splice,Qfo]
 exact .mk hx.next ⟨hv,hx⟩
theorem QzE (d:Int) (hd:I64 d) (H:Qa):Qe prog YC [.int .i64 d] H fun v H'=>Gx 1 5 H H' v (Ky d 4).1.length (bys (Ky d 4).1)∧Ext H H':=by
 refine QgV fun hw=>?_
 simp only[V0,sxA,sxB,Nat.reduceBEq,Nat.reduceEqDiff,reduceCtorEq,mxA,mxB,Nat.reduceAdd,reduceIte,Nat.reduceLeDiff,splice]
 refine(Qa3 d 4 hd H).thenW ?_
 rintro v H1 _ _ ⟨hv,hx⟩
 simp only[sxA,sxB,Nat.reduceBEq,Nat.reduceEqDiff,reduceCtorEq,mxA,mxB,Nat.reduceAdd,reduceIte,Nat.reduceLeDiff,splice,Qfq]
 exact .mk hx.next ⟨hv,hx⟩
theorem QzF (md:Nat) (h:md<3) (m:Mm) (hd:I64 m.d):∃f g:FuncId,(QiB.drop (md * 2)).take 2=[.func (.func f) #[] #[],.func (.func g) #[] #[]]∧(∀H,Qe prog f [.int .i64 m.d,.int .i64 (W6 m.b)] H fun u H'=>u=.bool (Qzy md m)∧H'=H)∧(∀H,Qe prog g [.int .i64 m.d] H fun v H'=>Gx 1 5 H H' v (QgZ md m).length (bys (QgZ md m))∧Ext H H'):=by
 rcases md with _ | _ | _ | md
 ·exact⟨_,_,rfl,Qzz m.d (W6 m.b),QzC m.d⟩
 ·exact⟨_,_,rfl,QzA m.d (W6 m.b),QzD m.d hd⟩
 ·exact⟨_,_,rfl,QzB m.d (W6 m.b),QzE m.d hd⟩
 ·omega
theorem QqK (md:Nat) (m:Mm):(QgZ md m).length≤8:=by
 unfold QgZ
 split
 ·simp
 ·split
  ·exact QeK _ _ (by decide)
  ·exact QeK _ _ (by decide)
theorem QeS (mid rm:Int) (sib:List Int) (m:Mm) (md:Nat):(List.range (md+1)).flatMap (Zm mid rm sib m)=(List.range md).flatMap (Zm mid rm sib m)++Zm mid rm sib m md:=by
 rw[List.range_succ,List.flatMap_append];simp
theorem Qmm {base l:Nat} {items:List Ld} {R:Nat→Qa→Prop} {Own:Qa→Nat→Prop} (hc:Cns base l items LdV R Own) (mid rm:Int) (hmid:0≤mid∧mid<8) (hrm:0≤rm∧rm<8) {sib:List Int} (hsl:sib.length≤8) {sv:Value} (m:Mm) (hd:I64 m.d) (j0:Nat) {Hs H:Qa} (hbase:base≤H.next) (hR:R j0 H) (hs:Gx 1 5 Hs H sv sib.length (bys sib)) (hso:∀id,inB sv id→¬Own H id)
  (hit:∀i w,(YG mid rm sib m)[i]? = some w→items[j0+i]? = some w):
  Qe prog Wr [.func (.yield l) #[] #[],.int .i64 mid,.int .i64 rm,sv,.agg m.cells.toArray] H fun u H'=>u=.bool true∧R (j0+(YG mid rm sib m).length) H'∧CK Own H H':=by
 refine Qcc fun hw=>?_
 have qx:=QzF
 have hbs:sv=sv:=rfl
 obtain⟨bc,bn⟩:∃bc:Value,bc=.agg m.cells.toArray:=⟨_,rfl⟩
 have ex:(Value.agg m.cells.toArray).cells.toList=m.cells:=rfl
 simp only[Z7,ex,sxA,sxB,Nat.reduceBEq,Nat.reduceEqDiff,reduceCtorEq]
 have hx1:=(Ext.refl H).push (.cells m.cells QJ false)
 have hw1:=hw.push (.cells m.cells QJ false)
 have hg1:(H.push (.cells m.cells QJ false)).get H.next=some (.cells m.cells QJ false):=by rw[Qa.get_push,if_pos rfl]
 generalize H.push (.cells m.cells QJ false)=H1 at *
 refine(QkC H1).thenW ?_
 rintro _ Hb hnb hwb ⟨rfl,hHb⟩
 have hxb:Ext H1 Hb:=by rw[hHb];exact(Ext.refl H1).push _
 have hgb:Hb.get H1.next=some (.cells QiB Ws false):=by rw[hHb,Qa.get_push,if_pos rfl]
 have hg1b:Hb.get H.next=some (.cells m.cells QJ false):=by rw[hxb.get _ (hw1.lt hg1)];exact hg1
 clear hHb
 have hxab:=hx1.trans hxb
 obtain⟨hRb,hOb⟩:=hc.ext _ _ _ hR hw hxab
 have hlow:=hc.low j0 H
 have hsb:=hs.go hw hxab
 simp only[sxA,sxB,Nat.reduceBEq,Nat.reduceEqDiff,reduceCtorEq,Qw]
 refine Qy (fun k A' H'=>∃md:Nat,md≤3∧k=3 - md∧R (j0+((List.range md).flatMap (Zm mid rm sib m)).length) H'∧CK Own Hb H'∧A' 0=.func (.yield l) #[] #[]∧A' 1=.int .i64 mid∧A' 2=.int .i64 rm∧A' 3=sv∧A' 9=.pointer (some ⟨H.next,0,none⟩)∧A' 14=.slice (some ⟨H1.next,0,none⟩) 3 3∧A' 15=.int .i64 3∧A' 16=.int .i64 md) 3 ?_ ?_
 ·refine⟨0,by omega,rfl,hRb,hc.ck hRb hwb (.refl _) hwb,?_,?_,?_,?_,?_,?_,?_,?_⟩
  all_goals simp only[uxA,uxB,Nat.reduceBEq]
  all_goals rfl
 ·rintro k A' Ha ⟨md,hmd,rfl,hRa,hka,r0,r1,r2,r3,r9,r14,r15,r16⟩
  have hwa:=hka.w
  have hna:=hka.next
  have ho1:¬Own Hb H.next:=fun h=>by have:=hlow _ hR (hOb _ h);omega
  have ho2:¬Own Hb H1.next:=fun h=>by have:=hlow _ hR (hOb _ h);have:=hx1.next;omega
  have ga:Ha.get H.next=some (.cells m.cells QJ false):=by rw[hka.keep _ (hwb.lt hg1b) ho1];exact hg1b
  have gx:Ha.get H1.next=some (.cells QiB Ws false):=by rw[hka.keep _ (hwb.lt hgb) ho2];exact hgb
  simp only[Zh,sxA,sxB,Nat.reduceBEq,Nat.reduceEqDiff,reduceCtorEq,mxA,mxB,Nat.reduceAdd,reduceIte,Nat.reduceLeDiff,splice,r15,r16]
  refine Qg (fun h2=>?_) (fun h2=>?_)
  ·have h2:md<3:=by have:=of_decide_eq_true h2;omega
   obtain⟨f,g,hfg,qf,qg⟩:=qx md h2 m hd
   have d1:(0:Int)≤md∧(md:Int)<(3:Nat):=by omega
   have d3:(md:Int).toNat=md:=by omega
   have ei:IntKind.i64.wrap ((md:Int)+1)=((md+1:Nat):Int):=by rw[w64 (by unfold I64;omega)];omega
   have hle:md * 2+2≤QiB.length:=by show md * 2+2≤6;omega
   simp only[Zg,sxA,sxB,Nat.reduceBEq,Nat.reduceEqDiff,reduceCtorEq,mxA,mxB,Nat.reduceAdd,reduceIte,Nat.reduceLeDiff,splice,r0,r1,r2,r3,r9,r14,r15,r16,d1,d3,gx,hfg,Ze,Yh]
   have hltb:=hwb.lt hg1b
   have nz:¬H.next=Ha.next:=by omega
   have ga':=ga
   simp only[Mm.cells]at ga'
   refine⟨hle,by simp[Qj,Ab.plain],?_⟩
   simp only[sxA,sxB,Nat.reduceBEq,Nat.reduceEqDiff,reduceCtorEq,mxA,mxB,Nat.reduceAdd,reduceIte,Nat.reduceLeDiff,splice,r9,nz,if_false,ga']
   generalize hH3:(Ha.push _).set Ha.next _=H3
   have hx3:Ext Ha H3:=by rw[← hH3];exact((Ext.refl Ha).push _).set (Nat.le_refl _) _
   have hw3:H3.Wf:=by rw[← hH3];exact(hwa.push _).set (b0:=.cells [.nilFunc,.nilFunc] Ws false) (by rw[Qa.get_push,if_pos rfl]) _
   have g3e:H3.get Ha.next=some (.cells [.func (.func f) #[] #[],.func (.func g) #[] #[]] Ws false):=by rw[← hH3,Qa.get_set,if_pos rfl]
   clear hH3
   have hlt3:=hw3.lt g3e
   refine⟨by simp[Qj,Ab.plain],?_⟩
   refine(Kz m.b H3).thenW ?_
   rintro _ _ hn4 hw4 ⟨rfl,k,rfl⟩
   simp only[Qa.next_up]at hn4
   have hx4:=hx3.up hn4
   simp only[sxA,sxB,Nat.reduceBEq,Nat.reduceEqDiff,reduceCtorEq,mxA,mxB,Nat.reduceAdd,reduceIte,Nat.reduceLeDiff,splice,KX]
   refine⟨((Ext.refl H3).up hn4).eqB,?_⟩
   have g4e:(H3.up k).get Ha.next=some (.cells [.func (.func f) #[] #[],.func (.func g) #[] #[]] Ws false):=by rw[Qa.get_up];exact g3e
   generalize H3.up k=H4 at *
   refine(qf H4).thenW ?_
   rintro _ H4 _ _ ⟨rfl,rfl⟩
   obtain⟨hR4,hO4⟩:=hc.ext _ _ _ hRa hwa hx4
   have hk4:CK Own Hb H4:=hka.trans (hc.ck hRa hwa hx4 hw4)
   cases hm:Qzy md m with
   | false=>
    simp only[sxA,sxB,Nat.reduceBEq,Nat.reduceEqDiff,reduceCtorEq,mxA,mxB,Nat.reduceAdd,reduceIte,Nat.reduceLeDiff,splice,Bool.not_false,r16,ei]
    have hl0:Zm mid rm sib m md=[]:=by unfold Zm;rw[if_neg (by simp[hm])]
    refine⟨3 - (md+1),by omega,md+1,by omega,rfl,?_,hk4,?_,?_,?_,?_,?_,?_,?_,?_⟩
    ·rw[QeS,hl0,List.append_nil];exact hR4
    all_goals simp only[uxA,uxB,Nat.reduceBEq,r0,r1,r2,r3,r9,r14,r15]
   | true=>
    simp only[Zf,sxA,sxB,Nat.reduceBEq,Nat.reduceEqDiff,reduceCtorEq,mxA,mxB,Nat.reduceAdd,reduceIte,Nat.reduceLeDiff,splice,Bool.not_true,r0,r1,r2,r3,r9,r14,r15,r16]
    refine(Xz md mid rm (by omega) hmid hrm H4).thenW ?_
    rintro _ H4 _ _ ⟨rfl,rfl⟩
    simp only[sxA,sxB,Nat.reduceBEq,Nat.reduceEqDiff,reduceCtorEq,mxA,mxB,Nat.reduceAdd,reduceIte,Nat.reduceLeDiff,splice,r0,r1,r2,r3,r9,r14,r15,r16]
    have hsa:Gx 1 5 Hs Ha sv sib.length (bys sib):=hsb.ext fun id hid=>hka.keep id (by have:=hsb.low hwb hid;omega) (fun h=>hso id hid (hOb id h))
    have hs4:=hsa.go hwa hx4
    have hx5:=(Ext.refl H4).push (.cells [.int .u8 (QI md mid rm)] 5 false)
    have hw5:=hw4.push (.cells [.int .u8 (QI md mid rm)] 5 false)
    have hg5:Gx 1 5 H4 (H4.push (.cells [.int .u8 (QI md mid rm)] 5 false)) (.slice (some ⟨H4.next,0,none⟩) 1 1) 1 (bys [QI md mid rm]):=.inr ⟨_,_,rfl,Nat.le_refl _,by rw[Qa.get_push,if_pos rfl];rfl,rfl,.inl rfl⟩
    have hs5:=hs4.go hw4 hx5
    generalize H4.push _=H5 at *
    have hll:=QqK md m
    refine Qbn hg5 hx5 hw5 hs5.src (Qa2 _) (by rw[YE,Nat.mul_one]) (by omega) (by omega) ?_
    intro v6 H6 hg6 hk6
    have g6e:H6.get Ha.next=some (.cells [.func (.func f) #[] #[],.func (.func g) #[] #[]] Ws false):=by rw[hk6.x.get _ (hw4.lt g4e)];exact g4e
    have hx46:=hx4.trans hk6.x
    have g6m:H6.get H.next=some (.cells m.cells QJ false):=by rw[hx46.get _ (by omega)];exact ga
    simp only[Mm.cells]at g6m
    simp only[sxA,sxB,Nat.reduceBEq,Nat.reduceEqDiff,reduceCtorEq,mxA,mxB,Nat.reduceAdd,reduceIte,Nat.reduceLeDiff,splice,g6e,g6m,KX,r0,r1,r2,r3,r9,r14,r15,r16]
    refine(qg H6).thenW ?_
    rintro v7 H7 hn7 hw7 ⟨hg7,hx7⟩
    simp only[sxA,sxB,Nat.reduceBEq,Nat.reduceEqDiff,reduceCtorEq,mxA,mxB,Nat.reduceAdd,reduceIte,Nat.reduceLeDiff,splice]
    refine Qbn (hg6.go hk6.w hx7) (hk6.x.trans hx7) hw7 hg7.src (Qa2 _) (by rw[YE,Nat.mul_one]) (by omega) (by omega) ?_
    intro v8 H8 hg8 hk8
    obtain⟨a8,c8,rfl⟩:=hg8.slc
    have hx48:=hx4.trans hk8.x
    have g8m:H8.get H.next=some (.cells m.cells QJ false):=by rw[hx48.get _ (by omega)];exact ga
    simp only[Mm.cells]at g8m
    have hw8:=hk8.w
    simp only[sxA,sxB,Nat.reduceBEq,Nat.reduceEqDiff,reduceCtorEq,mxA,mxB,Nat.reduceAdd,reduceIte,Nat.reduceLeDiff,splice,g8m,r0,r9]
    have hle8:=hx48.next
    refine⟨by omega,?_⟩
    refine(V1 m.i H8).thenW ?_
    rintro _ _ hn9 hw9 ⟨rfl,k9,rfl⟩
    simp only[Qa.next_up]at hn9
    have hx9:=hx48.up hn9
    have g9m:(H8.up k9).get H.next=some (.cells m.cells QJ false):=by rw[hx9.get _ (by omega)];exact ga
    simp only[Mm.cells]at g9m
    have heq9:=((Ext.refl H8).up hn9).eqB
    have hg9:=hg8.go hw8 ((Ext.refl H8).up hn9)
    generalize H8.up k9=H9 at *
    simp only[sxA,sxB,Nat.reduceBEq,Nat.reduceEqDiff,reduceCtorEq,mxA,mxB,Nat.reduceAdd,reduceIte,Nat.reduceLeDiff,splice,g9m,r0,r9]
    refine⟨heq9,by simp[Qj,Ab.plain],?_⟩
    refine(V1 m.b H9).thenW ?_
    rintro _ _ hn10 hw10 ⟨rfl,k10,rfl⟩
    simp only[Qa.next_up]at hn10
    have hx10:=hx9.up hn10
    have hg10:=hg9.go hw9 ((Ext.refl H9).up hn10)
    obtain⟨hR10,hO10⟩:=hc.ext _ _ _ hRa hwa hx10
    generalize H9.up k10=H10 at *
    simp only[sxA,sxB,Nat.reduceBEq,Nat.reduceEqDiff,reduceCtorEq,mxA,mxB,Nat.reduceAdd,reduceIte,Nat.reduceLeDiff,splice,r0,Vj]
    have hone:Zm mid rm sib m md=[⟨[QI md mid rm]++sib++QgZ md m,Z8 m.i,Z8 m.b⟩]:=by unfold Zm;rw[if_pos hm]
    have hi0:items[j0+((List.range md).flatMap (Zm mid rm sib m)).length]? = some ⟨[QI md mid rm]++sib++QgZ md m,Z8 m.i,Z8 m.b⟩:=by
     refine hit _ _ ?_
     unfold YG
     have h3:List.range 3=List.range (md+1)++(List.range 3).drop (md+1):=by
      rcases md with _ | _ | _ | md
      ·rfl
      ·rfl
      ·rfl
      ·omega
     rw[h3,List.flatMap_append,QeS,hone,List.append_assoc,List.getElem?_append_right (Nat.le_refl _),Nat.sub_self]
     rfl
    have hIt:LdV Ha H10 ⟨[QI md mid rm]++sib++QgZ md m,Z8 m.i,Z8 m.b⟩ (.agg #[.slice a8 (1+sib.length+(QgZ md m).length) c8,.int .i64 (Z8 m.i),.int .i64 (Z8 m.b)]):=by
     have e1:([QI md mid rm]++sib++QgZ md m).length=1+sib.length+(QgZ md m).length:=by simp only[List.length_append,List.length_cons,List.length_nil]
     have e2:bys ([QI md mid rm]++sib++QgZ md m)=bys [QI md mid rm]++bys sib++bys (QgZ md m):=by rw[Vd,Vd]
     refine⟨_,rfl,?_⟩
     show Gx 1 5 Ha H10 _ ([QI md mid rm]++sib++QgZ md m).length (bys ([QI md mid rm]++sib++QgZ md m))
     rw[e1,e2]
     exact hg10.down hx4.next
    refine Qfc (hc.go _ _ Ha H10 _ hi0 hR10 hIt (by have:=hxab.next;omega) hx10 hO10) ?_
    rintro _ H11 hn11 hw11 ⟨rfl,hR11,hk11⟩
    simp only[sxA,sxB,Nat.reduceBEq,Nat.reduceEqDiff,reduceCtorEq,mxA,mxB,Nat.reduceAdd,reduceIte,Nat.reduceLeDiff,splice,Bool.not_true,r16,ei]
    refine⟨3 - (md+1),by omega,md+1,by omega,rfl,?_,?_,?_,?_,?_,?_,?_,?_,?_,?_⟩
    ·rw[QeS,hone,List.length_append];exact hR11
    ·exact(hka.trans (hc.ck hRa hwa hx10 hw10)).trans hk11
    all_goals simp only[uxA,uxB,Nat.reduceBEq,r0,r1,r2,r3,r9,r14,r15]
  ·have h2:md=3:=by have:=of_decide_eq_false h2;omega
   subst h2
   simp only[sxA,sxB,Nat.reduceBEq,Nat.reduceEqDiff,reduceCtorEq,mxA,mxB,Nat.reduceAdd,reduceIte,Nat.reduceLeDiff,splice,Qbm]
   have hkk:CK Own H Ha:=(hc.ck hR hw hxab hwb).trans hka
   exact .mk hkk.next ⟨rfl,hRa,hkk⟩
def Qf7 (mid:Int) (m:Mm):List Ld:=
 if(m.b.c==8)=true then[⟨[QI 0 mid 5]++(Ky m.d 4).1,0,0⟩]
 else if isR m.b 0 0=true then[Qc2 mid m.i m.sc m.d]
 else if isR m.i 0 0=false then YG mid 4 [QI (KA m.sc) (W6 m.i) (W6 m.b)] m
 else(if(W6 m.b==4)=true then[] else YG mid (W6 m.b) [] m)++(YG mid 4 [QI 0 4 (W6 m.b)] m++(if(m.b.n==4)=true then[] else[Qc2 mid m.b 1 m.d]))
theorem Qmp (H:Qa) (b:Int):Gx 1 5 H (H.push (.cells [.int .u8 b] 5 false)) (.slice (some ⟨H.next,0,none⟩) 1 1) 1 (bys [b]):=.inr ⟨_,_,rfl,Nat.le_refl _,by rw[Qa.get_push,if_pos rfl];rfl,rfl,.inl rfl⟩
section
variable {base l:Nat} {R:Nat→Qa→Prop} {Own:Qa→Nat→Prop} {mid:Int} {m:Mm} {H:Qa} {bm bi:Nat}
theorem Qno (hc:Cns base l (Qf7 mid m) LdV R Own) (hbase:base≤H.next) (hmid:0≤mid∧mid<8) (hd:I64 m.d) (hf:isR m.i 0 0=false→WZ m.sc=true) (hR:R 0 H) (gm:H.get bm=some (.cells m.cells QJ false)) (gi:H.get bi=some (.cells [.int .i64 mid] 3 false)) (om:¬Own H bm) (oi:¬Own H bi):
  Qe prog YP [.func (.yield l) #[] #[],.pointer (some ⟨bm,0,none⟩),.pointer (some ⟨bi,0,none⟩)] H fun u H'=>R (Qf7 mid m).length H'∧CK Own H H':=by
 refine Qkx fun hw=>?_
 have hlow:=QoY m.b
 have hlowi:=QoY m.i
 have hsc:=QqD m.sc
 have hlm:=hw.lt gm
 have hli:=hw.lt gi
 have ql:=Kz m.b
 have qli:=Kz m.i
 have he1:(m.b.c==0&&m.b.n==0)=isR m.b 0 0:=rfl
 have he2:(m.i.c==0&&m.i.n==0)=isR m.i 0 0:=rfl
 have gm':=gm
 simp only[Mm.cells]at gm'
 simp only[Rg.cells]at ql qli
 simp only[QdB,QBD,simprocAttr,gm']
 refine(ql H).thenW ?_
 rintro _ _ hn1 hw1 ⟨rfl,k1,rfl⟩
 simp only[Qa.next_up]at hn1
 have nz:¬bm=k1:=by omega
 simp only[QBD,simprocAttr,nz,if_false,gm']
 generalize hH2:((H.up k1).push _).set k1 _=H2
 have hx2:Ext H H2:=by rw[← hH2];exact(((Ext.refl H).up hn1).push _).set (by omega) _
 have hw2:H2.Wf:=by rw[← hH2];exact(hw1.push _).set (b0:=.cells [.int .i64 0,.int .i64 0] QM false) (by rw[Qa.get_push,if_pos (by rw[Qa.next_up])]) _
 have hk2:k1<H2.next:=by rw[← hH2,Qa.next_set,Qa.next_push,Qa.next_up];omega
 have g2z:H2.get k1=some (.cells [.int .i64 0,.int .i64 0] QM false):=by rw[← hH2,Qa.get_set,if_pos rfl]
 have g2m:H2.get bm=some (.cells m.cells QJ false):=by rw[hx2.get _ hlm];exact gm
 have g2i:H2.get bi=some (.cells [.int .i64 mid] 3 false):=by rw[hx2.get _ hli];exact gi
 clear hH2
 obtain⟨hR2,hO2⟩:=hc.ext _ _ _ hR hw hx2
 have hck2:=hc.ck hR hw hx2 hw2
 have o2m:¬Own H2 bm:=fun h=>om (hO2 _ h)
 have o2i:¬Own H2 bi:=fun h=>oi (hO2 _ h)
 have o2z:¬Own H2 k1:=fun h=>by have:=hc.low _ _ _ hR (hO2 _ h);omega
 obtain⟨W,eW⟩:∃W,W=Qf7 mid m:=⟨_,rfl⟩
 rw[← eW]at hc ⊢
 unfold Qf7 at eW
 have g2m':=g2m
 simp only[Mm.cells]at g2m'
 cases h8:m.b.c==8 with
 | true=>
  rw[h8,if_pos rfl]at eW
  simp only[QBD,simprocAttr,g2i]
  refine⟨by omega,?_⟩
  refine(Xz 0 mid 5 (by decide) hmid (by decide) H2).thenW ?_
  rintro _ H2 _ _ ⟨rfl,rfl⟩
  have hx3:=(Ext.refl H2).push (.cells [.int .u8 (QI 0 mid 5)] 5 false)
  have hw3:=hw2.push (.cells [.int .u8 (QI 0 mid 5)] 5 false)
  have hg3:=Qmp H2 (QI 0 mid 5)
  have g3m:(H2.push (.cells [.int .u8 (QI 0 mid 5)] 5 false)).get bm=some (.cells m.cells QJ false):=by rw[hx3.get _ (by have:=hw2.lt g2m;omega)];exact g2m
  have nb:¬bm=H2.next:=by have:=hw2.lt g2m;omega
  simp only[Mm.cells]at g3m
  simp only[QBD,simprocAttr,nb,if_false,g2m']
  generalize H2.push _=H3 at *
  refine⟨fun _ _=>rfl,by simp[Qj,Ab.plain],?_⟩
  refine(Qa3 m.d 4 hd H3).thenW ?_
  rintro v4 H4 _ hw4 ⟨hg4,hx4⟩
  have hpl:=QeK m.d 4 (by decide)
  simp only[QBD,simprocAttr]
  refine⟨hx4.eqB,?_⟩
  refine Qbn (hg3.go hw3 hx4) (hx3.trans hx4) hw4 hg4.src (Qa2 _) (by rw[YE,Nat.mul_one]) (by omega) (by omega) ?_
  intro v5 H5 hg5 hk5
  obtain⟨a5,c5,rfl⟩:=hg5.slc
  obtain⟨hR5,hO5⟩:=hc.ext _ _ _ hR2 hw2 hk5.x
  have hck5:=hck2.trans (hc.ck hR2 hw2 hk5.x hk5.w)
  simp only[QBD,simprocAttr,Vj]
  refine Qfc (hc.go 0 ⟨[QI 0 mid 5]++(Ky m.d 4).1,0,0⟩ H2 H5 _ (by rw[eW];rfl) hR5 ⟨_,rfl,?_⟩ (by have:=hx2.next;omega) hk5.x hO5) ?_
  ·show Gx 1 5 H2 H5 _ ([QI 0 mid 5]++(Ky m.d 4).1).length (bys ([QI 0 mid 5]++(Ky m.d 4).1))
   rw[Vd,List.length_append];exact hg5
  rintro _ H6 hn6 hw6 ⟨rfl,hR6,hk6⟩
  have hk7:=hck5.trans hk6
  simp only[QBD,simprocAttr,XT]
  exact .mk hk7.next ⟨by rw[eW];exact hR6,hk7⟩
 | false=>
  rw[h8,if_neg (by simp)]at eW
  simp only[Qa1,QBD,simprocAttr,g2m',g2z,Qu,cond_false,he1]
  cases hb0:isR m.b 0 0 with
  | true=>
   rw[hb0,if_pos rfl]at eW
   simp only[QBD,simprocAttr,g2m',g2i]
   refine(Qf0 mid m.i m.sc m.d hmid hf hd H2).thenW ?_
   rintro v3 H3 _ hw3 ⟨hv3,hx3⟩
   obtain⟨hR3,hO3⟩:=hc.ext _ _ _ hR2 hw2 hx3
   have hck3:=hck2.trans (hc.ck hR2 hw2 hx3 hw3)
   simp only[QBD,simprocAttr,Vj]
   refine Qfc (hc.go 0 _ H2 H3 _ (by rw[eW];rfl) hR3 hv3 (by have:=hx2.next;omega) hx3 hO3) ?_
   rintro _ H6 hn6 hw6 ⟨rfl,hR6,hk6⟩
   have hk7:=hck3.trans hk6
   simp only[QBD,simprocAttr,XT]
   exact .mk hk7.next ⟨by rw[eW];exact hR6,hk7⟩
  | false=>
   rw[hb0,if_neg (by simp)]at eW
   simp only[Qa0,QBD,simprocAttr,g2m',g2z,Qu,cond_true,he2]
   cases hi0:isR m.i 0 0 with
   | false=>
    rw[hi0,if_pos rfl]at eW
    simp only[QaX,QBD,simprocAttr,g2m',Bool.not_false]
    refine⟨by omega,?_⟩
    refine(QfZ m.sc (hf hi0) H2).thenW ?_
    rintro _ H2 _ _ ⟨rfl,rfl⟩
    simp only[QBD,simprocAttr,g2m']
    refine⟨fun _ _=>rfl,by simp[Qj,Ab.plain],?_⟩
    refine(qli H2).thenW ?_
    rintro _ _ hn3 hw3 ⟨rfl,k3,rfl⟩
    simp only[Qa.next_up]at hn3
    have hx3:=(Ext.refl H2).up hn3
    have g3m:(H2.up k3).get bm=some (.cells m.cells QJ false):=by rw[Qa.get_up];exact g2m
    have g3i:(H2.up k3).get bi=some (.cells [.int .i64 mid] 3 false):=by rw[Qa.get_up];exact g2i
    simp only[Mm.cells]at g3m
    obtain⟨hR3,hO3⟩:=hc.ext _ _ _ hR2 hw2 hx3
    have hck3:=hck2.trans (hc.ck hR2 hw2 hx3 hw3)
    generalize H2.up k3=H3 at *
    simp only[QBD,simprocAttr]
    refine(Xz _ _ _ hsc hlowi hlow H3).thenW ?_
    rintro _ H3 _ _ ⟨rfl,rfl⟩
    simp only[QBD,simprocAttr,g3i]
    have hl3:=hw3.lt g3m
    have nb3:¬bm=H3.next:=by omega
    simp only[QBD,simprocAttr,nb3,if_false,g3m]
    have hx4:=(Ext.refl H3).push (.cells [.int .u8 (QI (KA m.sc) (W6 m.i) (W6 m.b))] 5 false)
    have hw4:=hw3.push (.cells [.int .u8 (QI (KA m.sc) (W6 m.i) (W6 m.b))] 5 false)
    have hg4:=Qmp H3 (QI (KA m.sc) (W6 m.i) (W6 m.b))
    generalize H3.push _=H4 at *
    obtain⟨hR4,hO4⟩:=hc.ext _ _ _ hR3 hw3 hx4
    have hck4:=hck3.trans (hc.ck hR3 hw3 hx4 hw4)
    refine(Qmm hc mid 4 hmid (by decide) (sib:=[QI (KA m.sc) (W6 m.i) (W6 m.b)]) (by simp) m hd 0 (by have:=hx2.next;have:=hx3.next;have:=hx4.next;omega) hR4 hg4 (fun id ⟨o,n,c,e⟩ h=>by cases e;have:=hc.low _ _ _ hR3 (hO4 _ h);omega) (fun i w h=>by rw[eW,Nat.zero_add];exact h)).thenW ?_
    rintro _ H6 hn6 hw6 ⟨rfl,hR6,hk6⟩
    have hk7:=hck4.trans hk6
    simp only[QBD,simprocAttr,XT]
    exact .mk hk7.next ⟨by rw[eW];rw[Nat.zero_add]at hR6;exact hR6,hk7⟩
   | true=>
    rw[hi0,if_neg (by simp)]at eW
    -- the last two ways,behind what is told
    have hthree:∀ (pre:List Ld) (Hx:Qa) (A:Env),W=pre++(YG mid 4 [QI 0 4 (W6 m.b)] m++(if(m.b.n==4)=true then[] else[Qc2 mid m.b 1 m.d]))→R pre.length Hx→CK Own H2 Hx→A 0=.func (.yield l) #[] #[]→A 1=.pointer (some ⟨bm,0,none⟩)→A 2=.pointer (some ⟨bi,0,none⟩)→A 5=.int .i64 (W6 m.b)→
      Qp prog JE ⟨Rt prog VU H fun u H'=>R W.length H'∧CK Own H H',exK 0 (Rt prog VU H fun u H'=>R W.length H'∧CK Own H H') YH⟩ (Rt prog VU H fun u H'=>R W.length H'∧CK Own H H') A Hx:=by
     intro pre Hx A eW2 hRx hkx r0 r1 r2 r5
     have hwx:=hkx.w
     have gxm:Hx.get bm=some (.cells m.cells QJ false):=by rw[hkx.keep _ (hw2.lt g2m) o2m];exact g2m
     have gxi:Hx.get bi=some (.cells [.int .i64 mid] 3 false):=by rw[hkx.keep _ (hw2.lt g2i) o2i];exact g2i
     have gxm':=gxm
     simp only[Mm.cells]at gxm'
     have hlx:=hwx.lt gxm
     have hlxi:=hwx.lt gxi
     simp only[JE,QBD,simprocAttr,r0,r1,r2,r5,gxi]
     refine⟨by simp[Qj,Ab.plain],by omega,?_⟩
     refine(Xz 0 4 _ (by decide) (by decide) hlow Hx).thenW ?_
     rintro _ Hx _ _ ⟨rfl,rfl⟩
     have nbx:¬bm=Hx.next:=by omega
     simp only[QBD,simprocAttr,nbx,if_false,r0,r1,r2,r5,gxm']
     have hx4:=(Ext.refl Hx).push (.cells [.int .u8 (QI 0 4 (W6 m.b))] 5 false)
     have hw4:=hwx.push (.cells [.int .u8 (QI 0 4 (W6 m.b))] 5 false)
     have hg4:=Qmp Hx (QI 0 4 (W6 m.b))
     obtain⟨hR4,hO4⟩:=hc.ext _ _ _ hRx hwx hx4
     have hck4:=(hck2.trans hkx).trans (hc.ck hRx hwx hx4 hw4)
     refine⟨fun _ _=>rfl,by simp[Qj,Ab.plain],?_⟩
     generalize Hx.push _=H4 at *
     have hsp:∀i w,(YG mid 4 [QI 0 4 (W6 m.b)] m)[i]? = some w→W[pre.length+i]? = some w:=fun i w h=>by
      have hi:=(List.getElem?_eq_some_iff.1 h).1
      rw[eW2,List.getElem?_append_right (Nat.le_add_right _ _),Nat.add_sub_cancel_left,List.getElem?_append_left hi];exact h
     refine(Qmm hc mid 4 hmid (by decide) (sib:=[QI 0 4 (W6 m.b)]) (by simp) m hd pre.length (by have:=hx2.next;have:=hkx.next;have:=hx4.next;omega) hR4 hg4 (fun id ⟨o,n,c,e⟩ h=>by cases e;have:=hc.low _ _ _ hRx (hO4 _ h);omega) hsp).thenW ?_
     rintro _ H6 hn6 hw6 ⟨rfl,hR6,hk6⟩
     have hk7:=hck4.trans hk6
     have hkx6:=(hkx.trans (hc.ck hRx hwx hx4 hw4)).trans hk6
     have g6m:H6.get bm=some (.cells m.cells QJ false):=by rw[hkx6.keep _ (hw2.lt g2m) o2m];exact g2m
     have g6i:H6.get bi=some (.cells [.int .i64 mid] 3 false):=by rw[hkx6.keep _ (hw2.lt g2i) o2i];exact g2i
     simp only[Mm.cells]at g6m
     simp only[QaY,QBD,simprocAttr,Bool.not_true,r0,r1,r2,g6m]
     cases h4:m.b.n==4 with
     | true=>
      rw[h4,if_pos rfl,List.append_nil]at eW2
      simp only[QBD,simprocAttr,Bool.not_true,XT]
      exact .mk hk7.next ⟨by rw[eW2,List.length_append];exact hR6,hk7⟩
     | false=>
      rw[h4,if_neg (by simp)]at eW2
      simp only[QBD,simprocAttr,Bool.not_false,r0,r1,r2,g6m,g6i]
      refine(Qf0 mid m.b 1 m.d hmid (fun _=>rfl) hd H6).thenW ?_
      rintro v8 H8 _ hw8 ⟨hv8,hx8⟩
      obtain⟨hR8,hO8⟩:=hc.ext _ _ _ hR6 hw6 hx8
      have hck8:=hk7.trans (hc.ck hR6 hw6 hx8 hw8)
      simp only[QBD,simprocAttr,r0,Vj]
      have hiw:W[pre.length+(YG mid 4 [QI 0 4 (W6 m.b)] m).length]? = some (Qc2 mid m.b 1 m.d):=by
       rw[eW2,List.getElem?_append_right (Nat.le_add_right _ _),Nat.add_sub_cancel_left,List.getElem?_append_right (Nat.le_refl _),Nat.sub_self];rfl
      refine Qfc (hc.go _ _ H6 H8 _ hiw hR8 hv8 (by have:=hk7.next;omega) hx8 hO8) ?_
      rintro _ H9 hn9 hw9 ⟨rfl,hR9,hk9⟩
      have hk10:=hck8.trans hk9
      simp only[QBD,simprocAttr,XT]
      refine .mk hk10.next ⟨?_,hk10⟩
      have:W.length=pre.length+(YG mid 4 [QI 0 4 (W6 m.b)] m).length+1:=by rw[eW2];simp only[List.length_append,List.length_cons,List.length_nil];omega
      rw[this];exact hR9
    simp only[QaZ,QBD,simprocAttr,Bool.not_true,g2m',g2i]
    cases h4:W6 m.b==4 with
    | true=>
     rw[h4,if_pos rfl]at eW
     simp only[QBD,simprocAttr,Bool.not_true]
     refine hthree [] H2 _ eW hR2 (hc.ck hR2 hw2 (.refl _) hw2) ?_ ?_ ?_ ?_
     all_goals simp only[QBE,simprocAttr]
    | false=>
     rw[h4,if_neg (by simp)]at eW
     simp only[QBD,simprocAttr,Bool.not_false,g2m',g2i]
     refine(Qmm hc mid (W6 m.b) hmid hlow (sib:=[]) (by simp) m hd 0 (by have:=hx2.next;omega) hR2 (Hs:=H2) (.inl ⟨rfl,rfl,rfl⟩) (fun id ⟨o,n,c,e⟩=>by cases e) (fun i w h=>by
      have hi:=(List.getElem?_eq_some_iff.1 h).1
      rw[eW,Nat.zero_add,List.getElem?_append_left hi];exact h)).thenW ?_
     rintro _ H6 hn6 hw6 ⟨rfl,hR6,hk6⟩
     simp only[QBD,simprocAttr,Bool.not_true]
     rw[Nat.zero_add]at hR6
     refine hthree _ H6 _ eW hR6 hk6 ?_ ?_ ?_ ?_
     all_goals simp only[QBE,simprocAttr]
end
def ldC (ss:List Value) (ws:List Ld):List Value:=(ss.zip ws).flatMap fun p=>[p.1,.int .i64 p.2.x,.int .i64 p.2.h]
theorem QiD:∀ (ss:List Value) (ws:List Ld),ss.length=ws.length→(ldC ss ws).length=ws.length * 3
 | [],[],_=>rfl
 | s::ss,w::ws,h=>by
  have:=QiD ss ws (by simpa using h)
  unfold ldC at *
  simp only[List.zip_cons_cons,List.flatMap_cons,List.length_append,List.length_cons,List.length_nil,this];omega
theorem Qwq (ss:List Value) (ws:List Ld) (h:ss.length=ws.length) (s:Value) (w:Ld):ldC (ss++[s]) (ws++[w])=ldC ss ws++[s,.int .i64 w.x,.int .i64 w.h]:=by
 unfold ldC
 rw[List.zip_append h,List.flatMap_append];rfl
structure Wh (e:TypeId) (H0 H:Qa) (v:Value) (ws:List Ld):Prop where
 it:∃ss:List Value,ss.length=ws.length∧Gx 3 e H0 H v ws.length (ldC ss ws)∧∀ (j:Nat) s w,ss[j]? = some s→ws[j]? = some w→Gx 1 5 H0 H s w.b.length (bys w.b)
theorem Wh.nil (e:TypeId) (H0 H:Qa):Wh e H0 H (.slice none 0 0) []:=⟨[],rfl,.inl ⟨rfl,rfl,rfl⟩,fun j s w h=>by simp at h⟩
theorem Wh.go {e:TypeId} {H0 H H':Qa} {v:Value} {ws:List Ld} (h:Wh e H0 H v ws) (hw:H.Wf) (hx:Ext H H'):Wh e H0 H' v ws:=by
 obtain⟨ss,h1,h2,h3⟩:=h.it
 exact⟨ss,h1,h2.go hw hx,fun j s w hs hw'=>(h3 j s w hs hw').go hw hx⟩
theorem Wh.slc {e:TypeId} {H0 H:Qa} {v:Value} {ws:List Ld} (h:Wh e H0 H v ws):∃a c,v=.slice a ws.length c:=by
 obtain⟨ss,h1,h2,h3⟩:=h.it
 exact h2.slc
theorem Wh.down {e:TypeId} {H0 H1 H:Qa} {v:Value} {ws:List Ld} (h:Wh e H1 H v ws) (hx:H0.next≤H1.next):Wh e H0 H v ws:=by
 obtain⟨ss,h1,h2,h3⟩:=h.it
 exact⟨ss,h1,h2.down hx,fun j s w hs hw'=>(h3 j s w hs hw').down hx⟩
theorem Wh.keep {e:TypeId} {H0 H H':Qa} {v:Value} {ws:List Ld} (h:Wh e H0 H v ws) (hk:∀id,H0.next≤id→(inB v id∨∃cs,H.get id=some (.cells cs 5 false))→H'.get id=H.get id):Wh e H0 H' v ws:=by
 obtain⟨ss,h1,h2,h3⟩:=h.it
 refine⟨ss,h1,?_,fun j s w hs hw'=>?_⟩
 ·rcases h2 with h2 | ⟨b,c,rfl,q2,q3,q4⟩
  ·exact .inl h2
  ·exact .inr ⟨b,c,rfl,q2,by rw[hk b q2 (.inl ⟨_,_,_,rfl⟩)];exact q3,q4⟩
 ·rcases h3 j s w hs hw' with h2 | ⟨b,c,rfl,q2,q3,q4⟩
  ·exact .inl h2
  ·exact .inr ⟨b,c,rfl,q2,by rw[hk b q2 (.inr ⟨_,q3⟩)];exact q3,q4⟩
theorem QsA {e bytes:Nat} (he:e≠5) {H0 H:Qa} {v s:Value} {w:Ld} {ws:List Ld} {k:Value→Qa→Prop} {x:Value} (hl:Wh e H0 H v ws) (hx:Ext H0 H) (hw:H.Wf) (hs:Gx 1 5 H0 H s w.b.length (bys w.b)) (hsrc:Jh 3 x H=some (1,[s,.int .i64 w.x,.int .i64 w.h])) (hb:(ws.length+1) * bytes≤140737488355328) (hn:ws.length+1≤9223372036854775807)
  (h:∀v' H',Wh e H0 H' v' (ws++[w])→GK v v' H0 H H'→k v' H'):Qhv e 3 bytes v x H k:=by
 obtain⟨ss,h1,h2,h3⟩:=hl.it
 have hone:([s,.int .i64 w.x,.int .i64 w.h]:List Value).all (·.oneCell')=true:=by
  obtain⟨a,c,rfl⟩:=hs.slc
  rfl
 refine Qbn h2 hx hw hsrc hone rfl hb hn ?_
 intro v' H' hg hk
 refine h v' H' ⟨ss++[s],by simp[h1],?_,fun j s' w' hs' hw'=>?_⟩ hk
 ·rw[Qwq _ _ h1,List.length_append];exact hg
 ·have hnot:∀id c',H.get id=some (.cells c' 5 false)→¬inB v id:=fun id c' hc hi=>by
   obtain⟨o,n',c,rfl⟩:=hi
   rcases h2 with⟨h,_,_⟩ | ⟨b,c,h,q2,q3,q4⟩
   ·cases h
   ·cases h
    rw[q3]at hc
    cases hc
    exact he rfl
  have key:∀ {s:Value} {bs:List Int},Gx 1 5 H0 H s bs.length (bys bs)→Gx 1 5 H0 H' s bs.length (bys bs):=fun hq=>by
   rcases hq with h2 | ⟨b,c,rfl,q2,q3,q4⟩
   ·exact .inl h2
   ·exact .inr ⟨b,c,rfl,q2,by rw[hk.keep b (hw.lt q3) (hnot b _ q3)];exact q3,q4⟩
  rcases Nat.lt_trichotomy j ss.length with hj | hj | hj
  ·rw[List.getElem?_append_left hj]at hs'
   rw[List.getElem?_append_left (by omega)]at hw'
   exact key (h3 j s' w' hs' hw')
  ·rw[List.getElem?_append_right (by omega)]at hs' hw'
   rw[hj,Nat.sub_self]at hs'
   rw[hj,h1,Nat.sub_self]at hw'
   cases hs'
   cases hw'
   exact key hs
  ·have:=(List.getElem?_eq_some_iff.1 hs').1
   simp at this
   omega
def clR (e:TypeId) (Hb:Qa) (cB lB:Nat) (eC:TypeId) (bl:Blk) (W:List Ld) (j:Nat) (H':Qa):Prop:=
 H'.get lB=some bl∧Hb.next≤H'.next∧(∀id,id<Hb.next→id≠cB→id≠lB→H'.get id=Hb.get id)∧∃v,H'.get cB=some (.cells [v] eC false)∧Wh e Hb H' v (W.take j)∧∀id,inB v id→id<H'.next∧Hb.next≤id
def clO (cB lB:Nat) (eC:TypeId) (H:Qa) (id:Nat):Prop:=id=cB∨id=lB∨∃v,H.get cB=some (.cells [v] eC false)∧inB v id
theorem Qx4 {e:TypeId} {Hb:Qa} {cB lB:Nat} (hc:cB<Hb.next) (hl:lB<Hb.next) {eC:TypeId} {bl:Blk} {W:List Ld} {j:Nat} {H1 H2:Qa} (h:clR e Hb cB lB eC bl W j H1) (hw:H1.Wf) (hx:Ext H1 H2):clR e Hb cB lB eC bl W j H2∧∀id,clO cB lB eC H2 id→clO cB lB eC H1 id:=by
 obtain⟨h1,h2,h3,v,h5,h6,h7⟩:=h
 have hn:=hx.next
 have e5:=hx.get cB (by omega)
 refine⟨⟨by rw[hx.get lB (by omega)];exact h1,by omega,fun id a b c=>by rw[hx.get id (by omega)];exact h3 id a b c,v,by rw[e5];exact h5,h6.go hw hx,fun id hi=>?_⟩,fun id hi=>?_⟩
 ·have:=h7 id hi
  exact⟨by omega,this.2⟩
 ·rcases hi with h | h | ⟨v',h,hi⟩
  ·exact .inl h
  ·exact .inr (.inl h)
  ·exact .inr (.inr ⟨v',by rw[← e5];exact h,hi⟩)
theorem Qx5 {e:TypeId} {Hb:Qa} {cB lB:Nat} (hc:cB<Hb.next) (hl:lB<Hb.next) {eC:TypeId} {bl:Blk} {W:List Ld} {j:Nat} {H1:Qa} (h:clR e Hb cB lB eC bl W j H1) {id:Nat} (hi:clO cB lB eC H1 id):id<H1.next:=by
 obtain⟨h1,h2,h3,v,h5,h6,h7⟩:=h
 rcases hi with rfl | rfl | ⟨v',h,hi⟩
 ·omega
 ·omega
 ·rw[h5]at h
  cases h
  exact(h7 id hi).1
theorem QqL (f:FuncId) (hf:entered prog f=true) (ys:List Value) (W:List Ld) (hW:W.length≤1000) (H:Qa)
  (hgo:∀ (l:Nat) (R:Nat→Qa→Prop) (Own:Qa→Nat→Prop) (H':Qa),Cns H'.next l W LdV R Own→R 0 H'→Ext H H'→(∀id,id<H.next→¬Own H' id)→Qe prog f ([.func (.yield l) #[] #[]]++ys) H' fun u H2=>R W.length H2∧CK Own H' H2):
  Qe prog Wb [.slice none 0 0,.func (.func f) #[] ys.toArray] H fun v H'=>Wh Qm H H' v W∧Ext H H':=by
 refine Zd fun hw=>?_
 simp only[W1,QBD,simprocAttr]
 generalize hH1:H.push _=H1
 obtain⟨eC,g0⟩:∃eC,H1.get H.next=some (.cells [.slice none 0 0] eC false):=⟨_,by rw[← hH1,Qa.get_push,if_pos rfl]⟩
 have hx1:Ext H H1:=by rw[← hH1];exact(Ext.refl H).push _
 have hw1:H1.Wf:=by rw[← hH1];exact hw.push _
 have hn1:H1.next=H.next+1:=by rw[← hH1];rfl
 clear hH1
 simp only[QBE,simprocAttr,QcD]
 rw[QlD f [] ys]
 intro L hY
 refine⟨hf,?_⟩
 have hxb:Ext H (H1.push (L none)):=hx1.push _
 have hnb:(H1.push (L none)).next=H.next+2:=by rw[Qa.next_push,hn1]
 have gb0:(H1.push (L none)).get H.next=some (.cells [.slice none 0 0] eC false):=by rw[Qa.get_push,if_neg (by omega)];exact g0
 have gbl:(H1.push (L none)).get H1.next=some (L none):=by rw[Qa.get_push,if_pos rfl]
 have hwb:=hw1.push (L none)
 generalize H1.push (L none)=Hb at *
 have hc0:H.next<Hb.next:=by omega
 have hl0:H1.next<Hb.next:=by omega
 refine(hgo H1.next (clR Qm Hb H.next H1.next eC (L none) W) (clO H.next H1.next eC) Hb ⟨?_,?_,?_⟩ ?_ hxb ?_).thenW ?_
 ·exact fun j Ha Hc h hwa hx=>Qx4 hc0 hl0 h hwa hx
 ·exact fun j Ha id h hi=>Qx5 hc0 hl0 h hi
 ·rintro j w H0' H1' v0 hj hR ⟨s,rfl,hs⟩ hb0 hx0 hO hw1'
  obtain⟨h1,h2,h3,v,h5,h6,h7⟩:=hR
  refine hY H1.next _ H1' _ h1 rfl ?_ hw1'
  have hj':=(List.getElem?_eq_some_iff.1 hj).1
  have hsb:Gx 1 5 Hb H1' s w.b.length (bys w.b):=hs.down hb0
  -- the loop's Qcq is taken away while its body runs
  have kk:∀id,id≠H1.next→(H1'.kill H1.next).get id=H1'.get id:=fun id hid=>by rw[Qa.get_kill,if_neg hid]
  have hnk:(H1'.kill H1.next).next=H1'.next:=rfl
  have hwk:(H1'.kill H1.next).Wf:=hw1'.kill _
  have k5:=(kk H.next (by omega)).trans h5
  have k6:Wh Qm Hb (H1'.kill H1.next) v (W.take j):=h6.keep fun id hid _=>kk id (by omega)
  have ks:Gx 1 5 Hb (H1'.kill H1.next) s w.b.length (bys w.b):=hsb.ext fun id hid=>kk id (by have:=hsb.low hw1' hid;omega)
  have k3:∀id,id<Hb.next→id≠H.next→id≠H1.next→(H1'.kill H1.next).get id=Hb.get id:=fun id a b c=>(kk id c).trans (h3 id a b c)
  generalize hHk:H1'.kill H1.next=Hk at *
  obtain⟨a,c,rfl⟩:=ks.slc
  obtain⟨av,cv,rfl⟩:=k6.slc
  have nz:¬H.next=Hk.next:=by omega
  simp only[Qgp,Qi0,QBD,simprocAttr,nz,if_false,k5]
  generalize hH5:Qa.push (Qa.set (Qa.push Hk _) _ _) _=H5
  have hx5:Ext Hk H5:=by rw[← hH5];exact(((Ext.refl Hk).push _).set (Nat.le_refl _) _).push _
  have hw5:H5.Wf:=by rw[← hH5];exact((hwk.push _).set (b0:=.cells [.slice none 0 0,.int .i64 0,.int .i64 0] Qm false) (by rw[Qa.get_push,if_pos rfl]) _).push _
  have g5:H5.get (Hk.next+1)=some (.cells [.slice a w.b.length c,.int .i64 w.x,.int .i64 w.h] Qm false):=by rw[← hH5,Qa.get_push,if_pos (by rw[Qa.next_set,Qa.next_push])]
  have hn5:H5.next=Hk.next+2:=by rw[← hH5,Qa.next_push,Qa.next_set,Qa.next_push]
  clear hH5
  have hsrc:Jh 3 (.slice (some ⟨Hk.next+1,0,none⟩) 1 1) H5=some (1,[.slice a w.b.length c,.int .i64 w.x,.int .i64 w.h]):=by
   rw[Qam g5 (by decide) (by simp)];rfl
  have hlt:(W.take j).length≤1000:=by rw[List.length_take];omega
  -- what was there when the loop began may have changed at its variable and its Qcq alone;the rest of the list is new
  have hxx:∃Hz:Qa,Ext Hz H5∧Hz.next=Hb.next:=⟨⟨Hb.next,H5.tr⟩,⟨by show Hb.next≤H5.next;omega,fun id _=>rfl⟩,rfl⟩
  obtain⟨Hz,hxz,hnz⟩:=hxx
  have hlz:Wh Qm Hz H5 (.slice av (W.take j).length cv) (W.take j):=(k6.go hwk hx5).down (by omega)
  have hsz:Gx 1 5 Hz H5 (.slice a w.b.length c) w.b.length (bys w.b):=(ks.go hwk hx5).down (by omega)
  refine QsA (by decide) hlz hxz hw5 hsz hsrc (by omega) (by omega) ?_
  intro v' H6 hl6 hk6
  obtain⟨a',c',rfl⟩:=hl6.slc
  have htk:W.take (j+1)=W.take j++[w]:=by rw[List.take_add_one,hj];rfl
  rw[← htk]at hl6 hk6 ⊢
  have h65:∀id,id<Hb.next→H6.get id=H5.get id:=fun id hid=>(hk6.x.get id (by omega)).trans (hxz.get id (by omega)).symm
  have k6c:H6.get H.next=some (.cells [.slice av (W.take j).length cv] eC false):=by rw[h65 _ (by omega),hx5.get _ (by omega)];exact k5
  have hnk6:=hk6.next
  simp only[QBD,simprocAttr,Qgo,k6c]
  refine⟨by omega,⟨by rw[Qa.get_set,if_pos rfl],by rw[Qa.next_set,Qa.next_set];omega,fun id p q r=>?_,.slice a' (W.take (j+1)).length c',?_,?_,fun id hi=>?_⟩,⟨by rw[Qa.next_set,Qa.next_set];omega,?_,fun id p q=>?_,fun id hi=>?_⟩⟩
  ·rw[Qa.get_set,if_neg r,Qa.get_set,if_neg q,h65 _ (by omega),hx5.get _ (by omega)]
   exact k3 id p q r
  ·rw[Qa.get_set,if_neg (by omega),Qa.get_set,if_pos rfl]
  ·refine Wh.keep (H0:=Hb) (H:=H6) (hl6.down (by omega)) fun id hid _=>?_
   rw[Qa.get_set,if_neg (by omega),Qa.get_set,if_neg (by omega)]
  ·obtain⟨ss,_,hg,_⟩:=hl6.it
   have:=hg.low hk6.w hi
   rw[Qa.next_set,Qa.next_set]
   exact⟨this.2,by omega⟩
  ·intro id hid
   rw[Qa.next_set,Qa.next_set]at hid
   rw[Qa.get_set,if_neg (by omega),Qa.get_set,if_neg (by omega)]
   exact hk6.w id hid
  ·have q1:id≠H.next:=fun h=>q (.inl h)
   have q2:id≠H1.next:=fun h=>q (.inr (.inl h))
   have q3:¬inB (.slice av (W.take j).length cv) id:=fun h=>q (.inr (.inr ⟨_,h5,h⟩))
   rw[Qa.get_set,if_neg q2,Qa.get_set,if_neg q1,hk6.keep id (by omega) q3,hx5.get _ (by omega),kk id q2]
  ·rcases hi with h | h | ⟨v'',h,hi⟩
   ·exact .inl (.inl h)
   ·exact .inl (.inr (.inl h))
   ·rw[Qa.get_set,if_neg (by omega),Qa.get_set,if_pos rfl]at h
    cases h
    rcases hk6.new id hi with h | h
    ·exact .inl (.inr (.inr ⟨_,h5,h⟩))
    ·exact .inr (by omega)
 ·exact⟨gbl,Nat.le_refl _,fun _ _ _ _=>rfl,_,gb0,Wh.nil _ _ _,fun id ⟨o,n,c,h⟩=>by cases h⟩
 ·rintro id hid (h | h | ⟨v',h,hi⟩)
  ·omega
  ·omega
  ·rw[gb0]at h
   cases h
   obtain⟨o,n,c,h⟩:=hi
   cases h
 ·rintro u H2 hn2 hw2 ⟨⟨h1,h2,h3,v,h5,h6,h7⟩,hck⟩
  refine⟨none,h1,?_⟩
  have kk:∀id,id≠H1.next→(H2.kill H1.next).get id=H2.get id:=fun id hid=>by rw[Qa.get_kill,if_neg hid]
  have hnk:(H2.kill H1.next).next=H2.next:=rfl
  have k5:=(kk H.next (by omega)).trans h5
  rw[List.take_length]at h6
  have k6:Wh Qm Hb (H2.kill H1.next) v W:=h6.keep fun id hid _=>kk id (by omega)
  have hxf:Ext H (H2.kill H1.next):=⟨by rw[hnk];omega,fun id hid=>by rw[kk id (by omega),h3 id (by omega) (by omega) (by omega)];exact hxb.get id hid⟩
  generalize H2.kill H1.next=H3 at *
  simp only[QBD,simprocAttr,QiZ,k5,Y3]
  exact .mk hxf.next ⟨k6.down (by omega),hxf⟩
theorem QuT (f:FuncId) (hf:entered prog f=true) (ys:List Value) (W:List Ld) (hW:W.length≤1000) (H:Qa)
  (hgo:∀ (l:Nat) (R:Nat→Qa→Prop) (Own:Qa→Nat→Prop) (H':Qa),Cns H'.next l W LdV R Own→R 0 H'→Ext H H'→(∀id,id<H.next→¬Own H' id)→Qe prog f ([.func (.yield l) #[] #[]]++ys) H' fun u H2=>R W.length H2∧CK Own H' H2):
  Qe prog Xl [.func (.func f) #[] ys.toArray] H fun v H'=>Wh Qm H H' v W∧Ext H H':=by
 refine VT fun hw=>?_
 simp only[Y1,QBD,simprocAttr]
 refine(QqL f hf ys W hW H hgo).thenW ?_
 rintro v H1 _ _ ⟨hv,hx⟩
 simp only[QBD,simprocAttr,Vc]
 exact .mk hx.next ⟨hv,hx⟩
def QkD (mid:Int) (a:Ar):List Ld×Int:=
 if(decide (mid<0)||decide (mid>7))=true then([],5)
 else if(W5 a==0)=false then([],W5 a)
 else if(a.k==1)=true then([⟨[QI 3 mid (W6 a.r)],0,Z8 a.r⟩],0)
 else if(a.k==2)=true then(Qf7 mid (ZT a.m),0)
 else([],2)
theorem Qg0 (mid rm:Int) (sib:List Int) (m:Mm):(YG mid rm sib m).length≤3:=by
 have h:∀md,(Zm mid rm sib m md).length≤1:=fun md=>by unfold Zm;split<;>simp
 have e:YG mid rm sib m=Zm mid rm sib m 0++(Zm mid rm sib m 1++(Zm mid rm sib m 2++[])):=rfl
 have h0:=h 0
 have h1:=h 1
 have h2:=h 2
 rw[e]
 simp only[List.length_append,List.length_nil]
 omega
theorem QqM (mid:Int) (m:Mm):(Qf7 mid m).length≤8:=by
 unfold Qf7
 split
 ·simp
 ·split
  ·simp
  ·split
   ·have:=Qg0 mid 4 [QI (KA m.sc) (W6 m.i) (W6 m.b)] m
    omega
   ·have h1:=Qg0 mid (W6 m.b) [] m
    have h2:=Qg0 mid 4 [QI 0 4 (W6 m.b)] m
    simp only[List.length_append]
    split<;>split<;>simp<;>omega
theorem Qpa (mid:Int) (m:Mm) (H:Qa):Qe prog QcO [.int .i64 mid,.agg m.cells.toArray] H fun u H'=>∃bm bi,u=.func (.func YP) #[] #[.pointer (some ⟨bm,0,none⟩),.pointer (some ⟨bi,0,none⟩)]∧Ext H H'∧H.next≤bm∧H.next≤bi∧H'.get bm=some (.cells m.cells QJ false)∧H'.get bi=some (.cells [.int .i64 mid] 3 false):=by
 refine Qm8 fun hw=>?_
 have ex:(Value.agg m.cells.toArray).cells.toList=m.cells:=rfl
 simp only[QfT,ex,QBD,simprocAttr,Ql2]
 have hx:Ext H ((H.push (.cells [.int .i64 mid] 3 false)).push (.cells m.cells QJ false)):=((Ext.refl H).push _).push _
 exact .mk hx.next ⟨_,_,rfl,hx,by omega,Nat.le_refl _,by rw[Qa.get_push,if_pos (by rw[Qa.next_push])],by rw[Qa.get_push,if_neg (by rw[Qa.next_push];omega),Qa.get_push,if_pos rfl]⟩
theorem Qwr {m:Mm} (h:QC m=0):-2147483648≤m.d∧m.d≤2147483647:=by
 unfold QC at h
 split at h
 ·simp at h
 ·rename_i h1
  simp at h1
  omega
theorem Qn0 {m:Mm} (h:QC m=0) (hi:isR m.i 0 0=false):WZ m.sc=true:=by
 unfold QC at h
 split at h
 ·simp at h
 ·split at h
  ·simp at h
  ·split at h
   ·simp at h
   ·split at h
    ·simp at h
    ·split at h
     ·rename_i h5
      rw[h5]at hi;cases hi
     ·split at h
      ·simp at h
      ·rename_i h6
       cases e:WZ m.sc with
       | true=>rfl
       | false=>simp[e]at h6
theorem Qws (m:Mm):(ZT m).d=m.d:=by unfold ZT;split<;>(try rfl);split<;>(try rfl);split<;>rfl
theorem QuU {m:Mm} (h:QC m=0) (hi:isR (ZT m).i 0 0=false):WZ (ZT m).sc=true:=by
 unfold ZT at hi ⊢
 split
 ·rename_i h1
  rw[if_pos h1]at hi
  exact Qn0 h hi
 ·rename_i h1
  rw[if_neg h1]at hi
  split
  ·rename_i h2
   rw[if_pos h2]at hi
   cases hi
  ·rename_i h2
   rw[if_neg h2]at hi
   have hi0:isR m.i 0 0=false:=by
    cases e:isR m.i 0 0 with
    | false=>rfl
    | true=>simp[e]at h1
   have:=Qn0 h hi0
   split<;>exact this
theorem QqN (mid:Int) (a:Ar) (H:Qa):Qe prog Qed [.int .i64 mid,.agg a.cells.toArray] H fun u H'=>∃v,u=.tuple #[v,.int .i64 (QkD mid a).2]∧Wh Qm H H' v (QkD mid a).1∧Ext H H':=by
 refine QoO fun hw=>?_
 have q1:=ZL a
 have q2:=Kz a.r
 have q3:=V1 a.r
 have q4:=Qj6 a.m
 have hce:QhJ a.m=if QC a.m=0 then(ZT a.m,0) else(K2,QC a.m):=rfl
 have hck:∀h:(a.k==2)=true,W5 a=QC a.m:=fun h=>by
  have:a.k=2:=by simpa using h
  simp[W5,this]
 have hlr:=QoY a.r
 obtain⟨w,ew⟩:∃w,w=QkD mid a:=⟨_,rfl⟩
 rw[← ew]
 unfold QkD at ew
 have ex:(Value.agg a.cells.toArray).cells.toList=a.cells:=rfl
 have hx1:=(Ext.refl H).push (.cells a.cells Qd false)
 have hw1:=hw.push (.cells a.cells Qd false)
 have hg1:(H.push (.cells a.cells Qd false)).get H.next=some (.cells a.cells Qd false):=by rw[Qa.get_push,if_pos rfl]
 have hn1:(H.push (.cells a.cells Qd false)).next=H.next+1:=rfl
 have ac:=hg1
 have e11:a.cells.take 11=a.cells:=rfl
 simp only[Qij,ex,QBG,simprocAttr]
 generalize H.push (.cells a.cells Qd false)=H1 at *
 have hbad:∀ (A:Env),w=([],5)→A 4=.slice none 0 0→A 5=.int .i64 5→Rt prog Qeu H (fun u H'=>∃v,u=.tuple #[v,.int .i64 w.2]∧Wh Qm H H' v w.1∧Ext H H') A H1:=by
  intro A e r4 r5
  subst e
  simp only[ZD,r4,r5]
  exact .mk hx1.next ⟨_,rfl,Wh.nil _ _ _,hx1⟩
 have hgood:(decide (mid<0)||decide (mid>7))=false→∀ (A:Env),A 0=.int .i64 mid→A 3=.pointer (some ⟨H.next,0,none⟩)→Qp prog VR ⟨Rt prog Qeu H (fun u H'=>∃v,u=.tuple #[v,.int .i64 w.2]∧Wh Qm H H' v w.1∧Ext H H'),YH⟩ (Rt prog Qeu H (fun u H'=>∃v,u=.tuple #[v,.int .i64 w.2]∧Wh Qm H H' v w.1∧Ext H H')) A H1:=by
  intro hm A r0 r3
  have hmid:0≤mid∧mid<8:=by simp at hm;omega
  rw[hm,if_neg (by simp)]at ew
  simp only[VR,QBD,simprocAttr,r0,r3,hg1,List.drop_zero,e11]
  refine⟨Nat.le_refl _,?_⟩
  refine(q1 H1).thenW ?_
  rintro _ _ hn2 hw2 ⟨rfl,k,rfl⟩
  simp only[Qa.next_up]at hn2
  have hx2:=hx1.up hn2
  have hg2:(H1.up k).get H.next=some (.cells a.cells Qd false):=by rw[Qa.get_up];exact hg1
  generalize H1.up k=H2 at *
  simp only[QBD,simprocAttr]
  cases he:W5 a==0 with
  | false=>
   rw[he,if_pos rfl]at ew
   subst ew
   simp only[QBD,simprocAttr,Bool.not_false,ZD]
   exact .mk hx2.next ⟨_,rfl,Wh.nil _ _ _,hx2⟩
  | true=>
   rw[he,if_neg (by simp)]at ew
   have he0:W5 a=0:=by simpa using he
   obtain⟨k',⟨rc,rn⟩,⟨⟨bc,bn⟩,⟨ic,nn⟩,sc,d,sz⟩,n⟩:=a
   simp only[Ar.cells,Rg.cells,Mm.cells]at hg2 q2 q3 q4
   simp only[Qey,QBD,simprocAttr,Bool.not_true,r0,r3,hg2]
   simp only at ew hlr hce hck
   refine Qg (fun h=>?_) (fun h=>?_)
   ·rw[h,if_pos rfl]at ew
    simp only[Qev,QBD,simprocAttr,r0,r3,hg2]
    refine(q2 H2).thenW ?_
    rintro _ _ hn3 hw3 ⟨rfl,k3,rfl⟩
    simp only[Qa.next_up]at hn3
    have hx3:=hx2.up hn3
    have hg3:=hg2
    rw[← Qa.get_up H2 k3]at hg3
    generalize H2.up k3=H3 at *
    simp only[QBD,simprocAttr]
    refine(Xz 3 mid _ (by decide) hmid hlr H3).thenW ?_
    rintro _ H3 _ _ ⟨rfl,rfl⟩
    have hx4:=hx3.push (.cells [.int .u8 (QI 3 mid (W6 ⟨rc,rn⟩))] 5 false)
    have hw4:=hw3.push (.cells [.int .u8 (QI 3 mid (W6 ⟨rc,rn⟩))] 5 false)
    have hg4:=Qmp H3 (QI 3 mid (W6 ⟨rc,rn⟩))
    have hl3:=hw3.lt hg3
    have nz:¬H.next=H3.next:=by omega
    simp only[QBD,simprocAttr,nz,if_false,hg3,r3]
    generalize H3.push _=H4 at *
    refine(q3 H4).thenW ?_
    rintro _ _ hn5 hw5 ⟨rfl,k5,rfl⟩
    simp only[Qa.next_up]at hn5
    have hx5:=hx4.up hn5
    have hg5:=hg4.go hw4 ((Ext.refl H4).up hn5)
    generalize H4.up k5=H5 at *
    simp only[QBD,simprocAttr,ZD]
    have hle2:=hx2.next
    have hx6:=hx5.push (.cells [.slice (some ⟨H3.next,0,none⟩) 1 1,.int .i64 0,.int .i64 (Z8 ⟨rc,rn⟩)] Qm false)
    have hle3:=hx3.next
    refine .mk hx6.next ⟨_,by rw[ew],⟨[.slice (some ⟨H3.next,0,none⟩) 1 1],by rw[ew];rfl,?_,?_⟩,hx6⟩
    ·rw[ew]
     exact .inr ⟨_,_,rfl,by have:=hx5.next;omega,by rw[Qa.get_push,if_pos rfl];rfl,rfl,.inl rfl⟩
    ·intro j s w' hs hw'
     rw[ew]at hw'
     rcases j with _ | j
     ·cases hs
      cases hw'
      exact(hg5.go hw5 ((Ext.refl H5).push _)).down (by omega)
     ·simp at hs
   ·rw[h,if_neg (by simp)]at ew
    simp only[Qex,QBD,simprocAttr,r0,r3]
    refine Qg (fun h2=>?_) (fun h2=>?_)
    ·rw[h2,if_pos rfl]at ew
     simp only[Qew,QBD,simprocAttr,r0,r3,hg2]
     have hm0:=(hck h2).symm.trans he0
     rw[if_pos hm0]at hce
     rw[hce]at q4
     refine(q4 H2).thenW ?_
     rintro _ _ hn3 hw3 ⟨rfl,k3,rfl⟩
     simp only[Qa.next_up]at hn3
     have hx3:=hx2.up hn3
     generalize H2.up k3=H3 at *
     generalize hcm:ZT ⟨⟨bc,bn⟩,⟨ic,nn⟩,sc,d,sz⟩=m at *
     have hmd:I64 m.d:=by
      have h5:=Qwr hm0
      have h6:=Qws ⟨⟨bc,bn⟩,⟨ic,nn⟩,sc,d,sz⟩
      rw[hcm]at h6
      rw[h6]
      unfold I64;omega
     have hms:isR m.i 0 0=false→WZ m.sc=true:=by
      have h6:=@QuU ⟨⟨bc,bn⟩,⟨ic,nn⟩,sc,d,sz⟩ hm0
      rw[hcm]at h6
      exact h6
     simp only[Mm.cells,QBD,simprocAttr,beq_self_eq_true,Bool.not_true,r0]
     generalize hH4:Qa.set (Qa.push H3 _) _ _=H4
     have hx4:Ext H H4:=by rw[← hH4];exact(hx3.push _).set (by have:=hx3.next;omega) _
     clear hH4
     have qw:=Qpa mid m H4
     simp only[Mm.cells]at qw
     refine qw.thenW ?_
     rintro _ H5 _ hw5 ⟨bm,bi,rfl,hx5,o1,o2,g1,g2⟩
     have l1:=hw5.lt g1
     have l2:=hw5.lt g2
     have hwl:=QqM mid m
     simp only[QBD,simprocAttr]
     refine(QuT YP (by kernel_rfl) [.pointer (some ⟨bm,0,none⟩),.pointer (some ⟨bi,0,none⟩)] (Qf7 mid m) (by omega) H5 ?_).thenW ?_
     ·intro l R Own H' hcns hR hx hno
      exact Qno hcns (Nat.le_refl _) hmid hmd hms hR (by rw[hx.get _ l1];exact g1) (by rw[hx.get _ l2];exact g2) (hno _ l1) (hno _ l2)
     ·rintro v H6 _ _ ⟨hv,hx6⟩
      have hx7:=(hx4.trans hx5).trans hx6
      simp only[QBD,simprocAttr,ZD]
      exact .mk hx7.next ⟨v,by rw[ew],by rw[ew];exact hv.down (hx4.trans hx5).next,hx7⟩
    ·rw[h2,if_neg (by simp)]at ew
     subst ew
     simp only[QBD,simprocAttr,ZD]
     exact .mk hx2.next ⟨_,rfl,Wh.nil _ _ _,hx2⟩
 cases h1:decide (mid<0) with
 | true=>
  rw[h1,Bool.true_or,if_pos rfl]at ew
  simp only[QBD,simprocAttr]
  refine hbad _ ew ?_ ?_
  all_goals simp only[QBE,simprocAttr]
 | false=>
  cases h2:decide (mid>7) with
  | true=>
   rw[h1,h2,Bool.or_true,if_pos rfl]at ew
   simp only[QBD,simprocAttr,h2]
   refine hbad _ ew ?_ ?_
   all_goals simp only[QBE,simprocAttr]
  | false=>
   simp only[QBD,simprocAttr,h2]
   refine hgood (by rw[h1,h2];rfl) _ ?_ ?_
   all_goals simp only[QBE,simprocAttr]
end Go.Proofs.YtgepgbbjfhggfaaGreatDoor.code
