/- Whether a register is valid: the document's answer. -/
import Derived.Test.YtgepgbbjfhggfaaGreatDoorLibI
import Derived.Test.YtgepgbbjfhggfaaGreatDoorAbD
set_option linter.unusedVariables false
set_option linter.unusedSimpArgs false
set_option maxRecDepth 100000
set_option maxHeartbeats 4000000
noncomputable section
namespace Go.Proofs.YtgepgbbjfhggfaaGreatDoor.code
open Go.Ab
theorem W7 (r:Rg)(H:Qa):Qe prog 76 [.agg r.cells.toArray] H λu H'=>u=.bool (XG r)∧∃k,H'=H.up k:=by
 refine Qh5 λq=>?_;obtain⟨c,n⟩:=r;simp(disch:=(first | omega | (simp only[hnP];try omega))) only[Rg.cells,QaK,Yu,Yv,Yw,Yx,Yy,Qk,simprocAttr,Jm]
 repeat' (first
   | (refine Qq (λh=>?_) (λh=>?_)<;>(try simp only[Lr,Lu]at h)<;>simp(disch:=(first | omega | (simp only[hnP];try omega))) only[Yu,Yv,Yw,Yx,Yy,Qk,simprocAttr,Jm,h])
   | (refine Qf (λh=>?_) (λh=>?_)<;>(try simp only[Lr,Lu]at h)<;>simp(disch:=(first | omega | (simp only[hnP];try omega))) only[Yu,Yv,Yw,Yx,Yy,Qk,simprocAttr,Jm,h])
   | (with_reducible refine⟨by simp[Qi,plain],by omega,?_⟩)
   | (with_reducible refine⟨by simp[Qi,plain],?_⟩)
   | fail)
 all_goals refine .ext q ?_ ⟨?_,_,rfl⟩
 all_goals try (repeat' (first | exact Ext.refl _ | refine Ext.push ?_ _ | refine Ext.up ?_ (by simp only[Qd,Qv,Ql];omega) | refine Ext.set ?_ (by omega) _))
 all_goals (simp_all [XG,Qjz];try first | omega | (rw[Ni];simp;omega))
theorem Gi (r:Rg)(H:Qa):Qe prog 117 [.agg r.cells.toArray] H λu H'=>u=.bool (isR r 0 0)∧∃k,H'=H.up k:=by
 refine Qjv λq=>?_;obtain⟨c,n⟩:=r;simp(disch:=(first | omega | (simp only[hnP];try omega))) only[Rg.cells,QbX,Qk,simprocAttr,Qs,JM]
 repeat' (first
   | (refine Qq (λh=>?_) (λh=>?_)<;>(try simp only[Lr,Lu]at h)<;>simp(disch:=(first | omega | (simp only[hnP];try omega))) only[Qk,simprocAttr,Qs,JM,h])
   | (refine Qf (λh=>?_) (λh=>?_)<;>(try simp only[Lr,Lu]at h)<;>simp(disch:=(first | omega | (simp only[hnP];try omega))) only[Qk,simprocAttr,Qs,JM,h])
   | (with_reducible refine⟨by simp[Qi,plain],by omega,?_⟩)
   | (with_reducible refine⟨by simp[Qi,plain],?_⟩)
   | fail)
 all_goals refine .ext q ?_ ⟨?_,_,rfl⟩
 all_goals try (repeat' (first | exact Ext.refl _ | refine Ext.push ?_ _ | refine Ext.up ?_ (by simp only[Qd,Qv,Ql];omega) | refine Ext.set ?_ (by omega) _))
 all_goals simp[isR]
theorem Qdp (r:Rg)(H:Qa):Qe prog 118 [.agg r.cells.toArray] H λu H'=>u=.bool (JF r)∧∃k,H'=H.up k:=by
 refine Qjw λac=>?_;have aa:=W7 r;have q:JF r=((r.c==5)&&XG r):=rfl;rw[q];clear q;generalize XG r=v at *;obtain⟨c,n⟩:=r;simp only[Rg.cells]at aa;simp(disch:=(first | omega | (simp only[hnP];try omega))) only[Rg.cells,QbY,Qk,simprocAttr,Y6]
 repeat' (first
   | (refine Qq (λh=>?_) (λh=>?_)<;>(try simp only[Lr,Lu]at h)<;>simp(disch:=(first | omega | (simp only[hnP];try omega))) only[Qk,simprocAttr,Y6,h])
   | (refine Qf (λh=>?_) (λh=>?_)<;>(try simp only[Lr,Lu]at h)<;>simp(disch:=(first | omega | (simp only[hnP];try omega))) only[Qk,simprocAttr,Y6,h])
   | (refine(aa _).thenW ?_;rintro _ _ ab ad ⟨rfl,k,rfl⟩;(try simp only[Qd,Ql,Qv]at ab);simp(disch:=(first | omega | (simp only[hnP];try omega))) only[Qk,simprocAttr,Y6])
   | (with_reducible refine⟨by simp[Qi,plain],by omega,?_⟩)
   | (with_reducible refine⟨by simp[Qi,plain],?_⟩)
   | fail)
 all_goals refine .ext ac ?_ ⟨?_,_,rfl⟩
 all_goals try (repeat' (first | exact Ext.refl _ | refine Ext.push ?_ _ | refine Ext.up ?_ (by simp only[Qd,Qv,Ql];omega) | refine Ext.set ?_ (by omega) _))
 all_goals simp_all
theorem Qs3 (n:Int)(l:List Int)(v:Value)(H:Qa)(aj:QdA H v l.length (ints l))(al:l.length<=1000):Qe prog 116 [.int .i64 n,v] H λu H'=>u=.bool (l.contains n)∧H'=H:=by
 refine QlJ λan=>?_;obtain⟨a,cap,rfl,hb⟩:=aj;simp only[QdM,Qb,simprocAttr];refine Qo (λm A' H'=>∃i:Nat,m+i=l.length∧H'=H∧(l.contains n=(l.drop i).contains n)∧A' 0=.int .i64 n∧A' 1=.slice a l.length cap∧A' 5=.int .i64 i) l.length ?_ ?_
 ·refine⟨0,rfl,rfl,rfl,?_,?_,?_⟩
  all_goals simp only[uxA,uxB,Nat.reduceBEq]
  rfl
 ·rintro m A' H1 ⟨i,am,rfl,q,ab,r1,r5⟩
  by_cases hi:i<l.length
  ·obtain⟨b,e,ro,rfl,ag⟩:=hb (by omega);have d1:decide ((i:Int)<(l.length:Int))=true:=Lp (by omega);have ak:IntKind.i64.wrap ((i:Int)+1)=((i+1:Nat):Int):=by rw[w64 (by unfold I64;omega)];rfl
   have ac:(0:Int)<=(i:Int)∧(i:Int)<(l.length:Int):=by omega
   have ad:(i:Int).toNat=i:=LG _;have ah:=ZJ hi;have ae:l.drop i=l.getD i 0::l.drop (i+1):=by
    rw[Nh hi,LX,La hi];rfl
   rw[ae,List.contains_cons]at q;simp only[Kr,QbW,Qb,simprocAttr,ab,r1,r5,d1,ac,ad,ag,ah,Nf];refine Qf (λh=>?_) (λh=>?_)
   ·have aa:(n==l.getD i 0)=true:=by rw[Bool.beq_comm];exact h
    rw[aa,N1]at q;simp only[Qb,simprocAttr,h,Qc5];exact .mk (Lb _) ⟨by rw[q],rfl⟩
   ·have aa:(n==l.getD i 0)=false:=by rw[Bool.beq_comm];exact h
    rw[aa,Nt]at q;simp only[Qb,simprocAttr,h,r5,ak];refine⟨m - 1,by omega,i+1,by omega,rfl,q,?_,?_,?_⟩
    all_goals simp only[Qg,simprocAttr,ab,r1]
  ·have d1:decide ((i:Int)<(l.length:Int))=false:=Lj (by omega);have ai:l.drop i=[]:=NR (by omega);rw[ai]at q;simp only[Kr,Qb,simprocAttr,r1,r5,d1,Qc5];exact .mk (Lb _) ⟨by rw[q];rfl,rfl⟩
theorem QI0 (n:Int){b:Nat}{H:Qa}(q:H.get b=some (.cells [.int .i64 0,.int .i64 1,.int .i64 2,.int .i64 4,.int .i64 8,.int .i64 16,.int .i64 32] 3 false)):Qe prog 116 [.int .i64 n,.slice (some ⟨b,0,none⟩) 7 7] H λu H'=>u=.bool (Kt n)∧H'=H:=by
 refine(Qs3 n [0,1,2,4,8,16,32] _ H ⟨_,_,rfl,λ_=>⟨_,_,_,rfl,q⟩⟩ (by decide)).mono ?_;rintro _ _ ⟨rfl,rfl⟩;refine⟨?_,rfl⟩;congr 1;unfold Kt;simp only[List.contains_cons,List.contains_nil,NI,FP]
theorem QI1 (n:Int){b:Nat}{H:Qa}(q:H.get b=some (.cells [.int .i64 1,.int .i64 2,.int .i64 4,.int .i64 8] 3 false)):Qe prog 116 [.int .i64 n,.slice (some ⟨b,0,none⟩) 4 4] H λu H'=>u=.bool (XE n)∧H'=H:=by
 refine(Qs3 n [1,2,4,8] _ H ⟨_,_,rfl,λ_=>⟨_,_,_,rfl,q⟩⟩ (by decide)).mono ?_;rintro _ _ ⟨rfl,rfl⟩;refine⟨?_,rfl⟩;congr 1;unfold XE;simp only[List.contains_cons,List.contains_nil,NI,FP]
theorem Qcp (m:Mm)(H:Qa):Qe prog 77 [.agg m.cells.toArray] H λu H'=>u=.int .i64 (Qx m)∧∃k,H'=H.up k:=by
 refine Qh6 λaj=>?_;have ag:Qx m=(if(decide (m.d < -2147483648)||decide (m.d>2147483647))=true then 5
  else if Kt m.sz=false then 2
  else if(!isR m.b 0 0&&!isR m.b 8 0&&!JF m.b)=true then 2
  else if(isR m.i 0 0&&!(m.sc==0))=true then 2
  else if isR m.i 0 0=true then 0
  else if(!JF m.i||!XE m.sc||isR m.b 8 0)=true then 2
  else if(isR m.i 5 4&&(!(m.sc==1)||isR m.b 5 4))=true then 2
  else 0):=rfl
 rw[ag];clear ag;have ab:=Gi m.b;have ac:=Gi m.i;have ad:=Qdp m.b;have ae:=Qdp m.i;have ai:=@QI0 m.sz;have ah:=@QI1 m.sc;generalize Kt m.sz=zs at *;generalize XE m.sc=zc at *;generalize JF m.b=wb at *;generalize JF m.i=wi at *;obtain⟨⟨ak,al⟩,⟨am,an⟩,sc,d,sz⟩:=m;simp only[Rg.cells]at ab ac ad ae;simp(disch:=(first | omega | (simp only[hnP];try omega))) only[Mm.cells,QaL,QP,QQ,QR,QS,QT,QU,Qk,simprocAttr,Qs,Q0]
 repeat' (first
   | (refine Qq (λh=>?_) (λh=>?_)<;>(try simp only[Lr,Lu]at h)<;>simp(disch:=(first | omega | (simp only[hnP];try omega))) only[QP,QQ,QR,QS,QT,QU,Qk,simprocAttr,Qs,Q0,h])
   | (refine Qf (λh=>?_) (λh=>?_)<;>(try simp only[Lr,Lu]at h)<;>simp(disch:=(first | omega | (simp only[hnP];try omega))) only[QP,QQ,QR,QS,QT,QU,Qk,simprocAttr,Qs,Q0,h])
   | (refine(ab _).thenW ?_;rintro _ _ q aa ⟨rfl,k,rfl⟩;(try simp only[Qd,Ql,Qv]at q);simp(disch:=(first | omega | (simp only[hnP];try omega))) only[QP,QQ,QR,QS,QT,QU,Qk,simprocAttr,Qs,Q0])
   | (refine(ac _).thenW ?_;rintro _ _ q aa ⟨rfl,k,rfl⟩;(try simp only[Qd,Ql,Qv]at q);simp(disch:=(first | omega | (simp only[hnP];try omega))) only[QP,QQ,QR,QS,QT,QU,Qk,simprocAttr,Qs,Q0])
   | (refine(ad _).thenW ?_;rintro _ _ q aa ⟨rfl,k,rfl⟩;(try simp only[Qd,Ql,Qv]at q);simp(disch:=(first | omega | (simp only[hnP];try omega))) only[QP,QQ,QR,QS,QT,QU,Qk,simprocAttr,Qs,Q0])
   | (refine(ae _).thenW ?_;rintro _ _ q aa ⟨rfl,k,rfl⟩;(try simp only[Qd,Ql,Qv]at q);simp(disch:=(first | omega | (simp only[hnP];try omega))) only[QP,QQ,QR,QS,QT,QU,Qk,simprocAttr,Qs,Q0])
   | (refine(ai (by simp(disch:=(first | omega | (simp only[hnP];try omega))) only[Qsn,simprocAttr];done)).thenW ?_;rintro _ _ q aa ⟨rfl,rfl⟩;(try simp only[Qd,Ql,Qv]at q);simp(disch:=(first | omega | (simp only[hnP];try omega))) only[QP,QQ,QR,QS,QT,QU,Qk,simprocAttr,Qs,Q0])
   | (refine(ah (by simp(disch:=(first | omega | (simp only[hnP];try omega))) only[Qsn,simprocAttr];done)).thenW ?_;rintro _ _ q aa ⟨rfl,rfl⟩;(try simp only[Qd,Ql,Qv]at q);simp(disch:=(first | omega | (simp only[hnP];try omega))) only[QP,QQ,QR,QS,QT,QU,Qk,simprocAttr,Qs,Q0])
   | (with_reducible refine⟨by simp[Qi,plain],by omega,?_⟩)
   | (with_reducible refine⟨by simp[Qi,plain],?_⟩)
   | fail)
 all_goals refine .ext aj ?_ ⟨?_,_,rfl⟩
 all_goals try (repeat' (first | exact Ext.refl _ | refine Ext.push ?_ _ | refine Ext.up ?_ (by simp only[Qd,Qv,Ql];omega) | refine Ext.set ?_ (by omega) _))
 all_goals clear ab ac ad ae ai ah
 all_goals first | (simp_all [isR];done) | (simp_all [isR];(repeat' split)<;>first | rfl | omega | (simp_all;done) | (exfalso;simp_all;omega))
theorem QzN {m:Mm}(h:Qx m=0)(q:(m.sc==1)=true):isR m.i 0 0=false:=by
 have q:=L0.1 q;cases hi:isR m.i 0 0 with
 | false=>rfl
 | true=>
  exfalso;unfold Qx at h;rw[hi,q]at h
  repeat' (split at h)
  all_goals first | omega | (rename_i aa;simp at aa;done) | simp_all
def Qv7 (m:Mm):Mm:=if(m.sc==1)=false then m else if isR m.b 0 0=true then⟨m.i,⟨0,0⟩,0,m.d,m.sz⟩ else if(m.i.n==4)=true then⟨m.i,m.b,m.sc,m.d,m.sz⟩ else m
theorem QzO (m:Mm):Qa5 m=if Qx m=0 then(Qv7 m,0) else(Kb,Qx m):=by
 unfold Qa5
 by_cases h:Qx m=0
 ·rw[Lc h,Lc h];congr 1;unfold Y9 Qv7;cases q:m.sc==1 with
  | false=>simp
  | true=>rw[QzN h q];simp
 ·rw[Le h,Le h]
theorem Qcq (m:Mm)(H:Qa):Qe prog 255 [.agg m.cells.toArray] H λu H'=>u=.tuple #[.agg (Qa5 m).1.cells.toArray,.int .i64 (Qa5 m).2]∧∃k,H'=H.up k:=by
 refine Qia λad=>?_;have q:=Qcp m;have ab:=Gi m.b;have ac:Qv7 m=if(m.sc==1)=false then m else if isR m.b 0 0=true then⟨m.i,⟨0,0⟩,0,m.d,m.sz⟩ else if(m.i.n==4)=true then⟨m.i,m.b,m.sc,m.d,m.sz⟩ else m:=rfl
 rw[QzO,ac];clear ac;generalize Qx m=e at *;obtain⟨⟨ag,ah⟩,⟨ai,aj⟩,sc,d,sz⟩:=m;simp only[Mm.cells]at q;simp only[Rg.cells]at ab;simp(disch:=(first | omega | (simp only[hnP];try omega))) only[Mm.cells,QaO,WH,WI,WJ,WK,Qk,simprocAttr,Qs,Xr]
 repeat' (first
   | (refine Qq (λh=>?_) (λh=>?_)<;>(try simp only[Lr,Lu]at h)<;>simp(disch:=(first | omega | (simp only[hnP];try omega))) only[WH,WI,WJ,WK,Qk,simprocAttr,Qs,Xr,h])
   | (refine Qf (λh=>?_) (λh=>?_)<;>(try simp only[Lr,Lu]at h)<;>simp(disch:=(first | omega | (simp only[hnP];try omega))) only[WH,WI,WJ,WK,Qk,simprocAttr,Qs,Xr,h])
   | (refine(q _).thenW ?_;rintro _ _ aa ae ⟨rfl,k,rfl⟩;(try simp only[Qd,Ql,Qv]at aa);simp(disch:=(first | omega | (simp only[hnP];try omega))) only[WH,WI,WJ,WK,Qk,simprocAttr,Qs,Xr])
   | (refine(ab _).thenW ?_;rintro _ _ aa ae ⟨rfl,k,rfl⟩;(try simp only[Qd,Ql,Qv]at aa);simp(disch:=(first | omega | (simp only[hnP];try omega))) only[WH,WI,WJ,WK,Qk,simprocAttr,Qs,Xr])
   | (with_reducible refine⟨by simp[Qi,plain],by omega,?_⟩)
   | (with_reducible refine⟨by simp[Qi,plain],?_⟩)
   | fail)
 all_goals refine .ext ad ?_ ⟨?_,_,rfl⟩
 all_goals try (repeat' (first | exact Ext.refl _ | refine Ext.push ?_ _ | refine Ext.up ?_ (by simp only[Qd,Qv,Ql];omega) | refine Ext.set ?_ (by omega) _))
 all_goals clear q ab
 all_goals first | (simp_all [isR,Kb,Mm.cells];done) | (simp_all [isR,Kb,Mm.cells];(repeat' split)<;>first | rfl | (simp_all;done) | omega)
theorem Zs (a:Ar)(H:Qa):Qe prog 53 [.agg a.cells.toArray] H λu H'=>u=.int .i64 (Wk a)∧∃k,H'=H.up k:=by
 refine Qh3 λad=>?_;have aa:=W7 a.r;have ab:=Qcp a.m;have ac:Wk a=(if(a.k==1)=true then(if(!XG a.r||a.r.c==8)=true then 2 else 0)
 else if(a.k==2)=true then Qx a.m
 else if(a.k==3)=true then 0
 else if(a.k==4)=true then(if(decide (a.n < -2147483648)||decide (2147483647<a.n))=true then 5 else 0)
 else 2):=rfl
 rw[ac];clear ac;generalize XG a.r=v at *;generalize Qx a.m=e at *;obtain⟨k,⟨ak,al⟩,⟨⟨ag,ah⟩,⟨ai,aj⟩,sc,d,sz⟩,n⟩:=a;simp only[Rg.cells,Mm.cells]at aa ab;simp(disch:=(first | omega | (simp only[hnP];try omega))) only[Ar.cells,QaJ,Wy,Wz,WA,WB,WC,Qk,simprocAttr,Xi]
 repeat' (first
   | (refine Qq (λh=>?_) (λh=>?_)<;>(try simp only[Lr,Lu]at h)<;>simp(disch:=(first | omega | (simp only[hnP];try omega))) only[Wy,Wz,WA,WB,WC,Qk,simprocAttr,Xi,h])
   | (refine Qf (λh=>?_) (λh=>?_)<;>(try simp only[Lr,Lu]at h)<;>simp(disch:=(first | omega | (simp only[hnP];try omega))) only[Wy,Wz,WA,WB,WC,Qk,simprocAttr,Xi,h])
   | (refine(aa _).thenW ?_;rintro _ _ q ae ⟨rfl,k,rfl⟩;(try simp only[Qd,Ql,Qv]at q);simp(disch:=(first | omega | (simp only[hnP];try omega))) only[Wy,Wz,WA,WB,WC,Qk,simprocAttr,Xi])
   | (refine(ab _).thenW ?_;rintro _ _ q ae ⟨rfl,k,rfl⟩;(try simp only[Qd,Ql,Qv]at q);simp(disch:=(first | omega | (simp only[hnP];try omega))) only[Wy,Wz,WA,WB,WC,Qk,simprocAttr,Xi])
   | (with_reducible refine⟨by simp[Qi,plain],by omega,?_⟩)
   | (with_reducible refine⟨by simp[Qi,plain],?_⟩)
   | fail)
 all_goals refine .ext ad ?_ ⟨?_,_,rfl⟩
 all_goals try (repeat' (first | exact Ext.refl _ | refine Ext.push ?_ _ | refine Ext.up ?_ (by simp only[Qd,Qv,Ql];omega) | refine Ext.set ?_ (by omega) _))
 all_goals clear aa ab
 all_goals simp_all
theorem QjU (a:Ar)(H:Qa):Qe prog 120 [.agg a.cells.toArray] H λu H'=>u=.tuple #[.agg (Wx a).1.cells.toArray,.int .i64 (Wx a).2]∧∃k,H'=H.up k:=by
 refine Qh9 λah=>?_;have ae:=Zs a;have aa:=Qcq a.m;have ag:=@Qnl a;have ac:Qa5 a.m=if Qx a.m=0 then(Y9 a.m,0) else(Kb,Qx a.m):=rfl
 have ad:Wx a=if(Wk a==0)=true then(QdH a,0) else(Q7,Wk a):=rfl
 rw[ad];rw[ac]at aa;clear ad ac;generalize Wk a=e at *;generalize Qx a.m=f at *;have ab:QdH a=if(a.k==1)=true then⟨a.k,a.r,Kb,0⟩ else if(a.k==2)=true then⟨a.k,⟨0,0⟩,Y9 a.m,0⟩ else⟨a.k,⟨0,0⟩,Kb,a.n⟩:=rfl
 rw[ab];clear ab;generalize Y9 a.m=mc at *;obtain⟨k,⟨aw,ax⟩,⟨⟨aj,ak⟩,⟨al,av⟩,sc,d,sz⟩,n⟩:=a;obtain⟨⟨am,an⟩,⟨aq,min⟩,ar,ao,au⟩:=mc;simp only[Ar.cells,Mm.cells]at ae aa ag;simp(disch:=(first | omega | (simp only[hnP];try omega))) only[Ar.cells,QaN,WF,WG,Qk,simprocAttr,Xq]
 repeat' (first
   | (refine Qq (λh=>?_) (λh=>?_)<;>(try simp only[Lr,Lu]at h)<;>simp(disch:=(first | omega | (simp only[hnP];try omega))) only[WF,WG,Qk,simprocAttr,Xq,h])
   | (refine Qf (λh=>?_) (λh=>?_)<;>(try simp only[Lr,Lu]at h)<;>simp(disch:=(first | omega | (simp only[hnP];try omega))) only[WF,WG,Qk,simprocAttr,Xq,h])
   | (refine(ae _).thenW ?_;rintro _ _ q ai ⟨rfl,k,rfl⟩;(try simp only[Qd,Ql,Qv]at q);simp(disch:=(first | omega | (simp only[hnP];try omega))) only[WF,WG,Qk,simprocAttr,Xq])
   | (refine(aa _).thenW ?_;rintro _ _ q ai ⟨rfl,k,rfl⟩;(try simp only[Qd,Ql,Qv]at q);simp(disch:=(first | omega | (simp only[hnP];try omega))) only[WF,WG,Qk,simprocAttr,Xq])
   | (with_reducible refine⟨by simp[Qi,plain],by omega,?_⟩)
   | (with_reducible refine⟨by simp[Qi,plain],?_⟩)
   | fail)
 all_goals refine .ext ah ?_ ⟨?_,_,rfl⟩
 all_goals try (repeat' (first | exact Ext.refl _ | refine Ext.push ?_ _ | refine Ext.up ?_ (by simp only[Qd,Qv,Ql];omega) | refine Ext.set ?_ (by omega) _))
 all_goals simp_all [Q7,Kb,Ar.cells,Mm.cells]
theorem Qk6 (r:Rg)(H:Qa):Qe prog 119 [.agg r.cells.toArray] H λu H'=>u=.int .i64 (QgY r)∧∃k,H'=H.up k:=by
 refine Qjx λac=>?_;have q:=W7 r;have aa:QgY r=if XG r=false then 0 else if r.c=7 then 32 else if r.c=6 then 16 else if r.c=5∨r.c=8 then 8 else if r.c=4 then 4 else if r.c=3 then 2 else 1:=rfl
 rw[aa];clear aa;generalize XG r=v at *;obtain⟨c,n⟩:=r;simp only[Rg.cells]at q;simp(disch:=(first | omega | (simp only[hnP];try omega))) only[Rg.cells,QbZ,Xl,Xm,Xn,Xo,Xp,Qk,simprocAttr,Y7]
 repeat' (first
   | (refine Qq (λh=>?_) (λh=>?_)<;>(try simp only[Lr,Lu]at h)<;>simp(disch:=(first | omega | (simp only[hnP];try omega))) only[Xl,Xm,Xn,Xo,Xp,Qk,simprocAttr,Y7,h])
   | (refine Qf (λh=>?_) (λh=>?_)<;>(try simp only[Lr,Lu]at h)<;>simp(disch:=(first | omega | (simp only[hnP];try omega))) only[Xl,Xm,Xn,Xo,Xp,Qk,simprocAttr,Y7,h])
   | (refine(q _).thenW ?_;rintro _ _ ab ad ⟨rfl,k,rfl⟩;(try simp only[Qd,Ql,Qv]at ab);simp(disch:=(first | omega | (simp only[hnP];try omega))) only[Xl,Xm,Xn,Xo,Xp,Qk,simprocAttr,Y7])
   | (with_reducible refine⟨by simp[Qi,plain],by omega,?_⟩)
   | (with_reducible refine⟨by simp[Qi,plain],?_⟩)
   | fail)
 all_goals refine .ext ac ?_ ⟨?_,_,rfl⟩
 all_goals try (repeat' (first | exact Ext.refl _ | refine Ext.push ?_ _ | refine Ext.up ?_ (by simp only[Qd,Qv,Ql];omega) | refine Ext.set ?_ (by omega) _))
 all_goals clear q
 all_goals first | (simp_all;done) | (simp_all;omega)
theorem Qk7 (a:Ar)(H:Qa):Qe prog 79 [.agg a.cells.toArray] H λu H'=>u=.int .i64 (QkI a)∧∃k,H'=H.up k:=by
 refine Qjt λad=>?_;have aa:=Zs a;have ab:=Qk6 a.r;have ac:QkI a=if(Wk a==0)=true then(if(a.k==1)=true then QgY a.r else if(a.k==2)=true then a.m.sz else 0) else 0:=rfl
 rw[ac];clear ac;generalize Wk a=e at *;generalize QgY a.r=sr at *;obtain⟨k,⟨ak,al⟩,⟨⟨ag,ah⟩,⟨ai,aj⟩,sc,d,sz⟩,n⟩:=a;simp only[Ar.cells,Rg.cells]at aa ab;simp(disch:=(first | omega | (simp only[hnP];try omega))) only[Ar.cells,QbU,WO,WP,Qk,simprocAttr,XL]
 repeat' (first
   | (refine Qq (λh=>?_) (λh=>?_)<;>(try simp only[Lr,Lu]at h)<;>simp(disch:=(first | omega | (simp only[hnP];try omega))) only[WO,WP,Qk,simprocAttr,XL,h])
   | (refine Qf (λh=>?_) (λh=>?_)<;>(try simp only[Lr,Lu]at h)<;>simp(disch:=(first | omega | (simp only[hnP];try omega))) only[WO,WP,Qk,simprocAttr,XL,h])
   | (refine(aa _).thenW ?_;rintro _ _ q ae ⟨rfl,k,rfl⟩;(try simp only[Qd,Ql,Qv]at q);simp(disch:=(first | omega | (simp only[hnP];try omega))) only[WO,WP,Qk,simprocAttr,XL])
   | (refine(ab _).thenW ?_;rintro _ _ q ae ⟨rfl,k,rfl⟩;(try simp only[Qd,Ql,Qv]at q);simp(disch:=(first | omega | (simp only[hnP];try omega))) only[WO,WP,Qk,simprocAttr,XL])
   | (with_reducible refine⟨by simp[Qi,plain],by omega,?_⟩)
   | (with_reducible refine⟨by simp[Qi,plain],?_⟩)
   | fail)
 all_goals refine .ext ad ?_ ⟨?_,_,rfl⟩
 all_goals try (repeat' (first | exact Ext.refl _ | refine Ext.push ?_ _ | refine Ext.up ?_ (by simp only[Qd,Qv,Ql];omega) | refine Ext.set ?_ (by omega) _))
 all_goals clear aa ab
 all_goals simp_all
theorem QcX (op:Int)(H:Qa):Qe prog 52 [.int .i64 op] H λu H'=>u=.bool (Za op)∧H'=H:=by
 refine Qh2 λab=>?_;simp only[QaI,Qb,simprocAttr];unfold Za;cases q:decide (1<=op)
 all_goals cases aa:decide (op<=322)
 all_goals (simp only[Qb,simprocAttr,q,aa,QgK,Be,NJ,LJ,NG,Bj];exact .mk (Lb _) ⟨rfl,rfl⟩)
def Qo5 (n all:Int)(sg:Bool):Int×Int:=
 if(decide (n < -(all / 2))||decide (all<=n))=true then(0,5)
 else if(sg&&decide (all / 2<=n))=true then(n - all,0)
 else if(!sg&&decide (n<0))=true then(n+all,0)
 else(n,0)
theorem QHU (n:Int)(sg:Bool):Qo5 n 256 sg=WR n 8 sg:=by
 have e1:Qgi n 8=n % 256:=rfl;have e2:Qgj n 8=(n+128) % 256 - 128:=rfl;unfold Qo5 WR;rw[e1,e2];have hb:((8:Int)==8||(8:Int)==16||(8:Int)==32||(8:Int)==64)=true:=rfl;rw[hb];simp only[Fe,LN]
 by_cases aa:n < -(256 / 2)∨256<=n
 ·have d1:(decide (n < -(256 / 2))||decide (256<=n))=true:=by simp only[Nw,Lv];exact aa
  have d2:(!(n==n % 256)&&!(n==(n+128) % 256 - 128))=true:=by
   simp only[Lm,Lr,LC,Da];omega
  rw[Lc d1,Lc d2]
 ·have d1:¬ (decide (n < -(256 / 2))||decide (256<=n))=true:=by simp only[Nw,Lv];exact aa
  have d2:¬ (!(n==n % 256)&&!(n==(n+128) % 256 - 128))=true:=by
   simp only[Lm,Lr,LC,Da];omega
  rw[Le d1,Le d2];cases sg
  ·by_cases q:n<0
   ·simp[q];omega
   ·simp[q];omega
  ·by_cases q:256 / 2<=n
   ·rw[Lc (by simp only[LJ,Lv];exact q)];simp;omega
   ·rw[Le (by simp only[LJ,Lv];exact q)];simp;omega
theorem QFR (n:Int)(sg:Bool):Qo5 n 65536 sg=WR n 16 sg:=by
 have e1:Qgi n 16=n % 65536:=rfl;have e2:Qgj n 16=(n+32768) % 65536 - 32768:=rfl;unfold Qo5 WR;rw[e1,e2];have hb:((16:Int)==8||(16:Int)==16||(16:Int)==32||(16:Int)==64)=true:=rfl;rw[hb];simp only[Fe,LN]
 by_cases aa:n < -(65536 / 2)∨65536<=n
 ·have d1:(decide (n < -(65536 / 2))||decide (65536<=n))=true:=by simp only[Nw,Lv];exact aa
  have d2:(!(n==n % 65536)&&!(n==(n+32768) % 65536 - 32768))=true:=by
   simp only[Lm,Lr,LC,Da];omega
  rw[Lc d1,Lc d2]
 ·have d1:¬ (decide (n < -(65536 / 2))||decide (65536<=n))=true:=by simp only[Nw,Lv];exact aa
  have d2:¬ (!(n==n % 65536)&&!(n==(n+32768) % 65536 - 32768))=true:=by
   simp only[Lm,Lr,LC,Da];omega
  rw[Le d1,Le d2];cases sg
  ·by_cases q:n<0
   ·simp[q];omega
   ·simp[q];omega
  ·by_cases q:65536 / 2<=n
   ·rw[Lc (by simp only[LJ,Lv];exact q)];simp;omega
   ·rw[Le (by simp only[LJ,Lv];exact q)];simp;omega
theorem QFS (n:Int)(sg:Bool):Qo5 n 4294967296 sg=WR n 32 sg:=by
 have e1:Qgi n 32=n % 4294967296:=rfl;have e2:Qgj n 32=(n+2147483648) % 4294967296 - 2147483648:=rfl;unfold Qo5 WR;rw[e1,e2];have hb:((32:Int)==8||(32:Int)==16||(32:Int)==32||(32:Int)==64)=true:=rfl;rw[hb];simp only[Fe,LN]
 by_cases aa:n < -(4294967296 / 2)∨4294967296<=n
 ·have d1:(decide (n < -(4294967296 / 2))||decide (4294967296<=n))=true:=by simp only[Nw,Lv];exact aa
  have d2:(!(n==n % 4294967296)&&!(n==(n+2147483648) % 4294967296 - 2147483648))=true:=by
   simp only[Lm,Lr,LC,Da];omega
  rw[Lc d1,Lc d2]
 ·have d1:¬ (decide (n < -(4294967296 / 2))||decide (4294967296<=n))=true:=by simp only[Nw,Lv];exact aa
  have d2:¬ (!(n==n % 4294967296)&&!(n==(n+2147483648) % 4294967296 - 2147483648))=true:=by
   simp only[Lm,Lr,LC,Da];omega
  rw[Le d1,Le d2];cases sg
  ·by_cases q:n<0
   ·simp[q];omega
   ·simp[q];omega
  ·by_cases q:4294967296 / 2<=n
   ·rw[Lc (by simp only[LJ,Lv];exact q)];simp;omega
   ·rw[Le (by simp only[LJ,Lv];exact q)];simp;omega
theorem Qf6 (n bits:Int)(sg:Bool)(aj:I64 n)(H:Qa):Qe prog 56 [.int .i64 n,.int .i64 bits,.bool sg] H λu H'=>u=.tuple #[.int .i64 (WR n bits sg).1,.int .i64 (WR n bits sg).2]∧H'=H:=by
 refine Qkd λak=>?_
 by_cases hb:bits=8∨bits=16∨bits=32∨bits=64
 ·have aa:((2:Int)≠0)=True:=by simp
  rcases hb with rfl | rfl | rfl | rfl
  ·have t1:((8:Int)==8)=true:=rfl;have t2:((8:Int)==16)=false:=rfl;have t3:((8:Int)==32)=false:=rfl;have t4:((8:Int)==64)=false:=rfl;have ai:((0:Int)<=8)=True:=eq_true (by decide);have ac:IntKind.i64.wrap (1 * 2 ^ min (Int.toNat 8) IntKind.i64.bits)=256:=by decide
   have ad:IntKind.i64.wrap (-256)=-256:=by decide
   have ae:IntKind.i64.wrap ((-256:Int).tdiv 2)=-(256 / 2):=by decide
   have ab:IntKind.i64.wrap ((256:Int).tdiv 2)=256 / 2:=by decide
   have ag:IntKind.i64.wrap (n+256)=n+256∨¬n<0:=by
    by_cases h:n<0
    ·exact .inl (w64 (by unfold I64 at *;omega))
    ·exact .inr h
   have ah:IntKind.i64.wrap (n - 256)=n - 256∨¬256 / 2<=n:=by
    by_cases h:256 / 2<=n
    ·exact .inl (w64 (by unfold I64 at *;omega))
    ·exact .inr h
   rw[<- QHU];simp(disch:=(first | omega | (simp only[hnP];try omega))) only[Xj,QE,QF,QG,QH,sxA,sxB,Nat.reduceBEq,Nat.reduceEqDiff,reduceCtorEq,mxD,mxB,Nat.reduceAdd,reduceIte,Nat.reduceLeDiff,splice,t1,t2,t3,t4,ai,aa,ac,Qz]
   rw[Qsy (ik:=.i64) (n:=256) (by simp only[Qg,simprocAttr])];simp(disch:=(first | omega | (simp only[hnP];try omega))) only[sxA,sxB,Nat.reduceBEq,Nat.reduceEqDiff,reduceCtorEq,mxD,mxB,Nat.reduceAdd,reduceIte,Nat.reduceLeDiff,splice,aa,ad,ae,ab,Qz]
   unfold Qo5
   repeat' (first
    | (refine Qq (λh=>?_) (λh=>?_)<;>(try simp only[Lr,Lu]at h)<;>simp(disch:=(first | omega | (simp only[hnP];try omega))) only[QE,QF,QG,QH,sxA,sxB,Nat.reduceBEq,Nat.reduceEqDiff,reduceCtorEq,mxD,mxB,Nat.reduceAdd,reduceIte,Nat.reduceLeDiff,splice,aa,ab,Qz,h])
    | (refine Qf (λh=>?_) (λh=>?_)<;>(try simp only[Lr,Lu]at h)<;>simp(disch:=(first | omega | (simp only[hnP];try omega))) only[QE,QF,QG,QH,sxA,sxB,Nat.reduceBEq,Nat.reduceEqDiff,reduceCtorEq,mxD,mxB,Nat.reduceAdd,reduceIte,Nat.reduceLeDiff,splice,aa,ab,Qz,h])
    | fail)
   all_goals refine .mk (Lb _) ⟨?_,rfl⟩
   all_goals (try simp_all)
   all_goals first
    | (rcases ag with q | q<;>first | exact q | omega)
    | (rcases ah with q | q<;>first | exact q | omega)
  ·have t1:((16:Int)==8)=false:=rfl;have t2:((16:Int)==16)=true:=rfl;have t3:((16:Int)==32)=false:=rfl;have t4:((16:Int)==64)=false:=rfl;have ai:((0:Int)<=16)=True:=eq_true (by decide);have ac:IntKind.i64.wrap (1 * 2 ^ min (Int.toNat 16) IntKind.i64.bits)=65536:=by decide
   have ad:IntKind.i64.wrap (-65536)=-65536:=by decide
   have ae:IntKind.i64.wrap ((-65536:Int).tdiv 2)=-(65536 / 2):=by decide
   have ab:IntKind.i64.wrap ((65536:Int).tdiv 2)=65536 / 2:=by decide
   have ag:IntKind.i64.wrap (n+65536)=n+65536∨¬n<0:=by
    by_cases h:n<0
    ·exact .inl (w64 (by unfold I64 at *;omega))
    ·exact .inr h
   have ah:IntKind.i64.wrap (n - 65536)=n - 65536∨¬65536 / 2<=n:=by
    by_cases h:65536 / 2<=n
    ·exact .inl (w64 (by unfold I64 at *;omega))
    ·exact .inr h
   rw[<- QFR];simp(disch:=(first | omega | (simp only[hnP];try omega))) only[Xj,QE,QF,QG,QH,sxA,sxB,Nat.reduceBEq,Nat.reduceEqDiff,reduceCtorEq,mxD,mxB,Nat.reduceAdd,reduceIte,Nat.reduceLeDiff,splice,t1,t2,t3,t4,ai,aa,ac,Qz]
   rw[Qsy (ik:=.i64) (n:=65536) (by simp only[Qg,simprocAttr])];simp(disch:=(first | omega | (simp only[hnP];try omega))) only[sxA,sxB,Nat.reduceBEq,Nat.reduceEqDiff,reduceCtorEq,mxD,mxB,Nat.reduceAdd,reduceIte,Nat.reduceLeDiff,splice,aa,ad,ae,ab,Qz]
   unfold Qo5
   repeat' (first
    | (refine Qq (λh=>?_) (λh=>?_)<;>(try simp only[Lr,Lu]at h)<;>simp(disch:=(first | omega | (simp only[hnP];try omega))) only[QE,QF,QG,QH,sxA,sxB,Nat.reduceBEq,Nat.reduceEqDiff,reduceCtorEq,mxD,mxB,Nat.reduceAdd,reduceIte,Nat.reduceLeDiff,splice,aa,ab,Qz,h])
    | (refine Qf (λh=>?_) (λh=>?_)<;>(try simp only[Lr,Lu]at h)<;>simp(disch:=(first | omega | (simp only[hnP];try omega))) only[QE,QF,QG,QH,sxA,sxB,Nat.reduceBEq,Nat.reduceEqDiff,reduceCtorEq,mxD,mxB,Nat.reduceAdd,reduceIte,Nat.reduceLeDiff,splice,aa,ab,Qz,h])
    | fail)
   all_goals refine .mk (Lb _) ⟨?_,rfl⟩
   all_goals (try simp_all)
   all_goals first
    | (rcases ag with q | q<;>first | exact q | omega)
    | (rcases ah with q | q<;>first | exact q | omega)
  ·have t1:((32:Int)==8)=false:=rfl;have t2:((32:Int)==16)=false:=rfl;have t3:((32:Int)==32)=true:=rfl;have t4:((32:Int)==64)=false:=rfl;have ai:((0:Int)<=32)=True:=eq_true (by decide);have ac:IntKind.i64.wrap (1 * 2 ^ min (Int.toNat 32) IntKind.i64.bits)=4294967296:=by decide
   have ad:IntKind.i64.wrap (-4294967296)=-4294967296:=by decide
   have ae:IntKind.i64.wrap ((-4294967296:Int).tdiv 2)=-(4294967296 / 2):=by decide
   have ab:IntKind.i64.wrap ((4294967296:Int).tdiv 2)=4294967296 / 2:=by decide
   have ag:IntKind.i64.wrap (n+4294967296)=n+4294967296∨¬n<0:=by
    by_cases h:n<0
    ·exact .inl (w64 (by unfold I64 at *;omega))
    ·exact .inr h
   have ah:IntKind.i64.wrap (n - 4294967296)=n - 4294967296∨¬4294967296 / 2<=n:=by
    by_cases h:4294967296 / 2<=n
    ·exact .inl (w64 (by unfold I64 at *;omega))
    ·exact .inr h
   rw[<- QFS];simp(disch:=(first | omega | (simp only[hnP];try omega))) only[Xj,QE,QF,QG,QH,sxA,sxB,Nat.reduceBEq,Nat.reduceEqDiff,reduceCtorEq,mxD,mxB,Nat.reduceAdd,reduceIte,Nat.reduceLeDiff,splice,t1,t2,t3,t4,ai,aa,ac,Qz]
   rw[Qsy (ik:=.i64) (n:=4294967296) (by simp only[Qg,simprocAttr])];simp(disch:=(first | omega | (simp only[hnP];try omega))) only[sxA,sxB,Nat.reduceBEq,Nat.reduceEqDiff,reduceCtorEq,mxD,mxB,Nat.reduceAdd,reduceIte,Nat.reduceLeDiff,splice,aa,ad,ae,ab,Qz]
   unfold Qo5
   repeat' (first
    | (refine Qq (λh=>?_) (λh=>?_)<;>(try simp only[Lr,Lu]at h)<;>simp(disch:=(first | omega | (simp only[hnP];try omega))) only[QE,QF,QG,QH,sxA,sxB,Nat.reduceBEq,Nat.reduceEqDiff,reduceCtorEq,mxD,mxB,Nat.reduceAdd,reduceIte,Nat.reduceLeDiff,splice,aa,ab,Qz,h])
    | (refine Qf (λh=>?_) (λh=>?_)<;>(try simp only[Lr,Lu]at h)<;>simp(disch:=(first | omega | (simp only[hnP];try omega))) only[QE,QF,QG,QH,sxA,sxB,Nat.reduceBEq,Nat.reduceEqDiff,reduceCtorEq,mxD,mxB,Nat.reduceAdd,reduceIte,Nat.reduceLeDiff,splice,aa,ab,Qz,h])
    | fail)
   all_goals refine .mk (Lb _) ⟨?_,rfl⟩
   all_goals (try simp_all)
   all_goals first
    | (rcases ag with q | q<;>first | exact q | omega)
    | (rcases ah with q | q<;>first | exact q | omega)
  ·have t1:((64:Int)==8)=false:=rfl;have t2:((64:Int)==16)=false:=rfl;have t3:((64:Int)==32)=false:=rfl;have t4:((64:Int)==64)=true:=rfl;simp(disch:=(first | omega | (simp only[hnP];try omega))) only[Xj,QE,QF,QG,QH,Qk,simprocAttr,t1,t2,t3,t4,Qz]
   refine .mk (Lb _) ⟨?_,rfl⟩;have e1:Qgi n 64=n:=rfl;have e2:Qgj n 64=n:=rfl;simp[WR,e1,e2]
 ·have t1:(bits==8)=false:=by simp;omega
  have t2:(bits==16)=false:=by simp;omega
  have t3:(bits==32)=false:=by simp;omega
  have t4:(bits==64)=false:=by simp;omega
  simp(disch:=(first | omega | (simp only[hnP];try omega))) only[Xj,QE,QF,QG,QH,Qk,simprocAttr,t1,t2,t3,t4,Qz]
  refine .mk (Lb _) ⟨?_,rfl⟩;simp[WR,t1,t2,t3,t4]
theorem QlW (o:Int)(H:Qa):Qe prog 78 [.int .i64 o] H λu H'=>u=.tuple #[.int .i64 (QoX o).1,.bool (QoX o).2]∧H'=H:=by
 refine Qke λad=>?_;have ab:=QcX o;have aa:QoX o=if Za o=false then(0,false) else if(1<=o∧o<=10)∨o=16 then(0,true) else if o=48 then(64,true) else if o=51 then(16,false) else(8,false):=by
  unfold QoX
  by_cases q:Za o=false
  ·rw[Lc q,Lc q]
  ·rw[Le q,Le q]
   by_cases h:(1<=o∧o<=10)∨o=16
   ·rw[Lc h,Lc (by omega)]
   ·rw[Le h,Le (by omega)]
 rw[aa];clear aa;generalize Za o=v at *;simp(disch:=(first | omega | (simp only[hnP];try omega))) only[Qc4,XJ,XK,Qk,simprocAttr,Zq]
 repeat' (first
   | (refine Qq (λh=>?_) (λh=>?_)<;>(try simp only[Lr,Lu]at h)<;>simp(disch:=(first | omega | (simp only[hnP];try omega))) only[XJ,XK,Qk,simprocAttr,Zq,h])
   | (refine Qf (λh=>?_) (λh=>?_)<;>(try simp only[Lr,Lu]at h)<;>simp(disch:=(first | omega | (simp only[hnP];try omega))) only[XJ,XK,Qk,simprocAttr,Zq,h])
   | (refine(ab _).thenW ?_;rintro _ _ ac ae ⟨rfl,rfl⟩;(try simp only[Qd,Ql,Qv]at ac);simp(disch:=(first | omega | (simp only[hnP];try omega))) only[XJ,XK,Qk,simprocAttr,Zq])
   | (with_reducible refine⟨by simp[Qi,plain],by omega,?_⟩)
   | (with_reducible refine⟨by simp[Qi,plain],?_⟩)
   | fail)
 all_goals refine .mk (Lb _) ⟨?_,rfl⟩
 all_goals clear ab
 all_goals (try simp_all)
 all_goals (rw[Le (by omega)];exact⟨rfl,rfl⟩)
theorem Qed (op:Int)(v:Value)(l:List Ar)(H:Qa)(ar:Qt H v l)(aw:l.length<=1000):Qe prog 55 [.agg #[.int .i64 op,v]] H λu H'=>u=.tuple #[.int .i64 (QW op l).1,.bool (QW op l).2]∧∃k,H'=H.up k:=by
 refine Qjs λak=>?_;have am:=QcX op;have an:=QlW op;have aq:0<=(QoX op).1:=by unfold QoX;repeat' (split<;>try decide)
 unfold QW;generalize Za op=v1 at *;generalize QoX op=v2 at *;obtain⟨aj,ax⟩:=v2;simp only at aq;obtain⟨a0,cap,rfl,ao⟩:=ar;cases l with
 | nil=>
  have q:(((0:Nat):Int)==0)=true:=rfl;simp(disch:=(first | omega | (simp only[hnP];try omega))) only[Ko,QB,QC,Qk,simprocAttr,q,QV]
  repeat' (first
    | (refine Qq (λh=>?_) (λh=>?_)<;>(try simp only[Lr,Lu]at h)<;>simp(disch:=(first | omega | (simp only[hnP];try omega))) only[QB,QC,Qk,simprocAttr,q,QV,h])
    | (refine Qf (λh=>?_) (λh=>?_)<;>(try simp only[Lr,Lu]at h)<;>simp(disch:=(first | omega | (simp only[hnP];try omega))) only[QB,QC,Qk,simprocAttr,q,QV,h])
    | (refine(am _).thenW ?_;rintro _ _ ab al ⟨rfl,rfl⟩;(try simp only[Qd,Ql,Qv]at ab);simp(disch:=(first | omega | (simp only[hnP];try omega))) only[QB,QC,Qk,simprocAttr,q,QV])
    | (refine(an _).thenW ?_;rintro _ _ ab al ⟨rfl,rfl⟩;(try simp only[Qd,Ql,Qv]at ab);simp(disch:=(first | omega | (simp only[hnP];try omega))) only[QB,QC,Qk,simprocAttr,q,QV])
    | (with_reducible refine⟨by simp[Qi,plain],by omega,?_⟩)
    | (with_reducible refine⟨by simp[Qi,plain],?_⟩)
    | fail)
  all_goals refine .ext ak ?_ ⟨?_,_,rfl⟩
  all_goals try (repeat' (first | exact Ext.refl _ | refine Ext.push ?_ _ | refine Ext.up ?_ (by simp only[Qd,Qv,Ql];omega) | refine Ext.set ?_ (by omega) _))
  all_goals clear am an ak
  all_goals (try simp_all)
  all_goals first
   | (have aa:aj=0:=(by omega);simp[aa];done)
   | (have aa:aj=0:=(by omega);subst aa;simp_all;done)
   | (have aa:¬aj=0:=(by omega);simp[aa])
 | cons a l=>
  dsimp only;have ag:(0:Int).toNat=0:=rfl;have au:=Qk7 a;have av:=QxH a;generalize QkI a=s at *;obtain⟨b,e,ro,rfl,ac⟩:=ao (by simp);have q:(((l.length+1:Nat):Int)==0)=false:=by simp;omega
  have ae:((0:Int)<=0∧(0:Int)<((l.length+1:Nat):Int)):=by omega
  have hb:=ak.lt ac;have ad:IntKind.i64.wrap (8 * s)=8 * s:=w64 (by unfold I64;omega);have ah:List.take 11 (Qh (a::l))=a.cells:=by
   have:=We (a::l) 0 a rfl;simpa using this
  have ai:11<=(Qh (a::l)).length:=by rw[Qr];simp;omega
  simp(disch:=(first | omega | (simp only[hnP];try omega))) only[Ko,QB,QC,Qk,simprocAttr,q,ae,ag,ac,ah,ai,ad,QV]
  repeat' (first
    | (refine Qq (λh=>?_) (λh=>?_)<;>(try simp only[Lr,Lu]at h)<;>simp(disch:=(first | omega | (simp only[hnP];try omega))) only[QB,QC,Qk,simprocAttr,q,ae,ag,ac,ah,ai,ad,QV,h])
    | (refine Qf (λh=>?_) (λh=>?_)<;>(try simp only[Lr,Lu]at h)<;>simp(disch:=(first | omega | (simp only[hnP];try omega))) only[QB,QC,Qk,simprocAttr,q,ae,ag,ac,ah,ai,ad,QV,h])
    | (refine(am _).thenW ?_;rintro _ _ ab al ⟨rfl,rfl⟩;(try simp only[Qd,Ql,Qv]at ab);simp(disch:=(first | omega | (simp only[hnP];try omega))) only[QB,QC,Qk,simprocAttr,q,ae,ag,ac,ah,ai,ad,QV])
    | (refine(an _).thenW ?_;rintro _ _ ab al ⟨rfl,rfl⟩;(try simp only[Qd,Ql,Qv]at ab);simp(disch:=(first | omega | (simp only[hnP];try omega))) only[QB,QC,Qk,simprocAttr,q,ae,ag,ac,ah,ai,ad,QV])
    | (refine(au _).thenW ?_;rintro _ _ ab al ⟨rfl,k,rfl⟩;(try simp only[Qd,Ql,Qv]at ab);simp(disch:=(first | omega | (simp only[hnP];try omega))) only[QB,QC,Qk,simprocAttr,q,ae,ag,ac,ah,ai,ad,QV])
    | (with_reducible refine⟨by simp[Qi,plain],by omega,?_⟩)
    | (with_reducible refine⟨by simp[Qi,plain],?_⟩)
    | fail)
  all_goals refine .ext ak ?_ ⟨?_,_,rfl⟩
  all_goals try (repeat' (first | exact Ext.refl _ | refine Ext.push ?_ _ | refine Ext.up ?_ (by simp only[Qd,Qv,Ql];omega) | refine Ext.set ?_ (by omega) _))
  all_goals clear am an ak
  all_goals (try simp_all)
  all_goals first
   | (have aa:aj=0:=(by omega);simp[aa];done)
   | (have aa:aj=0:=(by omega);subst aa;simp_all;done)
   | (have aa:¬aj=0:=(by omega);simp[aa])
theorem Qwc (op:Int)(v:Value)(l:List Ar)(q:Int)(H:Qa)(aq:Qt H v l)(au:l.length<=1000):Qe prog 54 [.agg #[.int .i64 op,v],.int .i64 q] H λu H'=>u=.int .i64 (W5 q l)∧∃k,H'=H.up k:=by
 refine Qjr λag=>?_;obtain⟨a0,cap,rfl,aj⟩:=aq;simp(disch:=(first | omega | (simp only[hnP];try omega))) only[QbT,Qk,simprocAttr]
 refine Qo (λm A' H'=>∃i:Nat,i<=l.length∧m=l.length - i∧Ext H H'∧H.next<H'.next∧H'.get H.next=some (.cells [.int .i64 op,.slice a0 l.length cap] 24 false)∧A' 1=.int .i64 q∧A' 2=.pointer (some ⟨H.next,0,none⟩)∧A' 5=.int .i64 (W5 q (l.take i))∧A' 6=.int .i64 i) l.length ?_ ?_
 ·refine⟨0,L7 _,by omega,(Ext.refl H).push _,by rw[Qd];omega,by rw[Qc,Lc rfl],?_,?_,?_,?_⟩
  all_goals simp only[Qg,simprocAttr]
  all_goals rfl
 ·rintro m A' H' ⟨i,hi,rfl,ab,ak,g0,r1,r2,r5,ac⟩;simp(disch:=(first | omega | (simp only[hnP];try omega))) only[Qab,Qk,simprocAttr,g0,r1,r2,r5,ac]
  refine Qf (λaa=>?_) (λaa=>?_)
  ·have aa:i<l.length:=by have:=Lg aa;omega
   obtain⟨a,ad⟩:∃a,l[i]? = some a:=⟨_,La aa⟩;obtain⟨b,e,ro,rfl,ae⟩:=aj (by omega);have al:=ag.lt ae;have am:H'.get b=some (.cells (Qh l) e ro):=by rw[ab.get b al];exact ae
   have ao:=We l i a ad;have av:i * 11+11<=(Qh l).length:=by rw[Qr];omega
   have d1:(0:Int)<=i∧(i:Int)<l.length:=by omega
   have d3:(i:Int).toNat=i:=by omega
   have ei:IntKind.i64.wrap ((i:Int)+1)=((i+1:Nat):Int):=by rw[w64 (by unfold I64;omega)];omega
   have ar:=QiB q (l.take i);have aw:(l.take i).length<=1000:=by rw[Sb];omega
   have ai:IntKind.i64.wrap (W5 q (l.take i)+1)=W5 q (l.take i)+1:=w64 (by unfold I64;omega);have ah:=QhE q (l.take i) a;rw[<- Qp3 l i a ad]at ah;have an:(Qh l)[i * 11]? = some (.int .i64 a.k):=by
    have:=congrArg (·[0]?) ao;simp only[Nl,Nk,Ar.cells]at this;simpa using this
   simp(disch:=(first | omega | (simp only[hnP];try omega))) only[Qaa,Qk,simprocAttr,g0,r1,r2,r5,ac,d1,d3,am,an,ei]
   refine Qf (λh=>?_) (λh=>?_)
   all_goals simp(disch:=(first | omega | (simp only[hnP];try omega))) only[Qk,simprocAttr,r5,ac,ei,ai]
   all_goals refine⟨l.length - (i+1),by omega,i+1,by omega,rfl,ab,ak,g0,?_,?_,?_,?_⟩
   all_goals (try simp only[Qg,simprocAttr,r1,r2,r5])
   all_goals (rw[ah,h];simp)
  ·have aa:i=l.length:=by have:=Ll aa;omega
   subst aa;simp(disch:=(first | omega | (simp only[hnP];try omega))) only[Qk,simprocAttr,r5,Qh4]
   refine .ext ag ab ⟨by rw[Nr],_,rfl⟩
def Qfb (q:Int×Bool):List Ar->Int
 | []=>0
 | a::l=>if(a.k==3)=true then(if((WR a.n q.1 q.2).2==0)=true then Qfb q l else(WR a.n q.1 q.2).2) else Qfb q l
def QcP (op:Int)(l:List Ar):Int:=
 if Za op=false then 6 else if l.length>4 then 3 else if(QbR l==0)=false then QbR l
 else if(decide (1<W5 2 l)||decide (1<W5 3 l)||decide (1<W5 4 l))=true then 2
 else Qfb (QW op l) l
theorem Qp4 (aa:Int×Bool):∀ (l:List Ar) (n:Int),W5 3 l=0->Qfb aa l=0∧QhD n l=n
 | [],n,_=>⟨rfl,rfl⟩
 | a::l,n,h=>by
  have ab:=(QiB 3 l).1;unfold W5 at h;cases q:a.k==3 with
  | true=>rw[q]at h;simp at h;omega
  | false=>
   rw[q]at h;unfold Qfb QhD;rw[q];simpa using Qp4 aa l n (by simpa using h)
theorem QxW (q:Int×Bool):∀ (l:List Ar) (n:Int),W5 3 l=1->Qfb q l=(WR (QhD n l) q.1 q.2).2
 | [],n,h=>by simp[W5]at h
 | a::l,n,h=>by
  unfold W5 at h;cases aa:a.k==3 with
  | true=>
   rw[aa]at h;obtain⟨ab,ac⟩:=Qp4 q l a.n (by simp at h;omega);unfold Qfb QhD;rw[aa];simp only[N3,ab,ac];split
   ·rename_i ad;exact(L0.1 ad).symm
   ·rfl
  | false=>
   rw[aa]at h;unfold Qfb QhD;rw[aa];simpa using QxW q l n (by simpa using h)
theorem Qp5 (op:Int)(l:List Ar):QcP op l=QO op l:=by
 unfold QcP QO;split
 ·rfl
 split
 ·rfl
 split
 ·rfl
 have ac:=QiB 3 l;have aa:(decide (1<W5 2 l)||decide (1<W5 3 l)||decide (1<W5 4 l))=(decide (1<W5 2 l)||decide (1<W5 4 l)||decide (1<W5 3 l)):=by rw[FP,Bool.or_comm (decide (1<W5 3 l)),<- FP]
 rw[aa];split
 ·rfl
 rename_i h;have ab:W5 3 l<=1:=by
  simp only[Nw,Lv,not_or]at h;omega
 by_cases q:W5 3 l=0
 ·rw[(Qp4 _ l 0 q).1,q];rfl
 ·rw[Le (by simpa using q),QxW _ l 0 (by omega)];split
  ·rename_i hb;unfold WR;rw[Lc];have:=L0.1 hb;rw[this];rfl
  ·rfl
theorem QuU (q:Int×Bool):∀ (l:List Ar) (i:Nat) (a:Ar),l[i]? = some a->Qfb q (l.drop i)=if(a.k==3)=true then(if((WR a.n q.1 q.2).2==0)=true then Qfb q (l.drop (i+1)) else(WR a.n q.1 q.2).2) else Qfb q (l.drop (i+1))
 | [],i,a,h=>by simp at h
 | b::l,0,a,h=>by simp at h;subst h;rfl
 | b::l,i+1,a,h=>by simpa using QuU q l i a (by simpa using h)
def rcF (H:Qa)(op:Int)(v:Value)(A:Env)(H':Qa):Prop:=Ext H H'∧H.next<H'.next∧A 1=.pointer (some ⟨H.next,0,none⟩)∧H'.get H.next=some (.cells [.int .i64 op,v] 24 false)
theorem rcF.env {H H':Qa}{op:Int}{v:Value}{A B:Env}(h:rcF H op v A H')(q:B 1=A 1):rcF H op v B H':=⟨h.1,h.2.1,q.trans h.2.2.1,h.2.2.2⟩
theorem rcF.up {H H':Qa}{op:Int}{v:Value}{A:Env}(h:rcF H op v A H'){k:Nat}(q:H'.next<=k):rcF H op v A (H'.up k):=⟨h.1.up q,by have:=h.2.1;rw[Ql];omega,h.2.2.1,by rw[Zk];exact h.2.2.2⟩
structure AtI (H':Qa) (l:List Ar) (i b:Nat) (a:Ar):Prop where
 g:∃e ro,H'.get b=some (.cells (Qh l) e ro)
 d1:(0:Int)<=i∧(i:Int)<l.length
 d3:(i:Int).toNat=i
 tk:List.take 11 (List.drop (i * 11) (Qh l))=a.cells
 le:i * 11+11<=(Qh l).length
 k:(Qh l)[i * 11]? = some (.int .i64 a.k)
 n:(Qh l)[i * 11+10]? = some (.int .i64 a.n)
 ei:IntKind.i64.wrap ((i:Int)+1)=((i+1:Nat):Int)
theorem atI {H H':Qa}{l:List Ar}{i:Nat}{a:Ar}{a0:Option Addr}{cap:Nat}(ae:Qt H (.slice a0 l.length cap) l)(ag:H.Wf)(ah:Ext H H')(ak:l.length<=1000)(aa:l[i]? = some a):∃b,a0=some ⟨b,0,none⟩∧b<H.next∧AtI H' l i b a:=by
 have aj:i<l.length:=(Lk.1 aa).1;obtain⟨a1,ai,e1,ad⟩:=ae;cases e1;obtain⟨b,e,ro,rfl,ac⟩:=ad (by omega);have ab:=ag.lt ac;have q:=We l i a aa;refine⟨b,rfl,ab,⟨e,ro,by rw[ah.get b ab];exact ac⟩,by omega,by omega,q,by rw[Qr];omega,?_,?_,by rw[w64 (by unfold I64;omega)];omega⟩
 ·have:=congrArg (·[0]?) q;simp only[Nl,Nk,Ar.cells]at this;simpa using this
 ·have:=congrArg (·[10]?) q;simp only[Nl,Nk,Ar.cells]at this;simpa using this
section
variable {H:Qa} {op:Int} {a0:Option Addr} {cap:Nat} {l:List Ar}
abbrev KK (H:Qa)(op:Int)(l:List Ar):Value->Qa->Prop:=λu H'=>u=.int .i64 (QcP op l)∧∃k,H'=H.up k
abbrev KR (H:Qa)(op:Int)(l:List Ar):Env->Qa->Prop:=Rt prog Tryz.f31 H (KK H op l)
theorem QHX (ad:H.Wf)(am:Qt H (.slice a0 l.length cap) l)(ak:l.length<=1000)(av:∀a∈l,I64 a.n)(an:Za op=true)(aD:l.length<=4)(ao:(QbR l==0)=true)(aq:(decide (1<W5 2 l)||decide (1<W5 3 l)||decide (1<W5 4 l))=false)(A:Env)(H1:Qa)(aB:H1.Wf)(au:rcF H op (.slice a0 l.length cap) A H1):
  Qm prog ZV ⟨KR H op l,WL⟩ (KR H op l) A H1:=by
 have al:QcP op l=Qfb (QW op l) l:=by
  unfold QcP;rw[Le (by simp[an]),Le (by omega),Le (by simp[ao]),Le (by simp[aq])]
 simp(disch:=(first | omega | (simp only[hnP];try omega))) only[ZV,Qk,simprocAttr]
 refine Qo (λm A' H'=>∃i:Nat,i<=l.length∧m=l.length - i∧H'.Wf∧rcF H op (.slice a0 l.length cap) A' H'∧A' 5=.int .i64 i∧Qfb (QW op l) l=Qfb (QW op l) (l.drop i)) l.length ?_ ?_
 ·refine⟨0,L7 _,by omega,aB,au.env ?_,?_,rfl⟩
  all_goals simp only[uxA,uxB,Nat.reduceBEq]
  rfl
 ·rintro m A' H' ⟨i,hi,rfl,aA,⟨ac,ai,r1,g0⟩,r5,q⟩;simp(disch:=(first | omega | (simp only[hnP];try omega))) only[GV,Qk,simprocAttr,g0,r1,r5]
  refine Qf (λaa=>?_) (λaa=>?_)
  ·have aa:i<l.length:=by have:=Lg aa;omega
   obtain⟨a,ag⟩:∃a,l[i]? = some a:=⟨_,La aa⟩;obtain⟨b,rfl,aE,⟨e,ro,aj⟩,d1,d3,aI,aG,ay,az,ei⟩:=atI am ad ac ak ag;rw[QuU _ l i a ag]at q;have aw:=av a (Ln ag);simp(disch:=(first | omega | (simp only[hnP];try omega))) only[GU,Qk,simprocAttr,g0,r1,r5,d1,d3,aj,ay]
   refine Qf (λh=>?_) (λh=>?_)
   ·have ae:(a.k==3)=false:=by simpa using h
    rw[ae]at q;simp(disch:=(first | omega | (simp only[hnP];try omega))) only[Qk,simprocAttr,r5,ei]
    refine⟨l.length - (i+1),by omega,i+1,by omega,rfl,aA,⟨ac,ai,?_,g0⟩,?_,by simpa using q⟩
    all_goals simp only[Qg,simprocAttr,r1]
   ·have ae:(a.k==3)=true:=by simpa using h
    rw[ae]at q;simp only[N3]at q;simp(disch:=(first | omega | (simp only[hnP];try omega))) only[GT,Qk,simprocAttr,g0,r1,r5]
    refine(Qed op _ l H' (am.ext ad ac) ak).thenW ?_;rintro _ _ ah aC ⟨rfl,k,rfl⟩;have ax:H.next<k:=N5 ai ah;simp(disch:=(first | omega | (simp only[hnP];try omega))) only[Qk,simprocAttr,g0,r1,r5,d1,d3,aj,az]
    refine(Qf6 a.n _ _ aw _).thenW ?_;rintro _ _ aH aJ ⟨rfl,rfl⟩;generalize ar:Qfb (QW op l) (l.drop (i+1))=er at q;generalize aF:WR a.n (QW op l).1 (QW op l).2=im at *;simp(disch:=(first | omega | (simp only[hnP];try omega))) only[Qk,simprocAttr,r5]
    refine Qf (λab=>?_) (λab=>?_)
    ·have ab:(im.2==0)=false:=by simpa using ab
     rw[ab]at q;simp(disch:=(first | omega | (simp only[hnP];try omega))) only[Qk,simprocAttr,WN]
     exact .ext ad (ac.up ah) ⟨by rw[al,q];simp,_,rfl⟩
    ·have ab:(im.2==0)=true:=by simpa using ab
     rw[ab]at q;simp(disch:=(first | omega | (simp only[hnP];try omega))) only[Qk,simprocAttr,r5,ei]
     refine⟨l.length - (i+1),by omega,i+1,by omega,rfl,aC,⟨ac.up ah,ax,?_,g0⟩,?_,by rw[ar];simpa using q⟩
     all_goals simp only[Qg,simprocAttr,r1]
  ·have aa:i=l.length:=by have:=Ll aa;omega
   subst aa;rw[BU]at q;simp(disch:=(first | omega | (simp only[hnP];try omega))) only[Qk,simprocAttr,WN]
   exact .ext ad ac ⟨by rw[al,q];rfl,_,rfl⟩
theorem QFW (ad:H.Wf)(ao:Qt H (.slice a0 l.length cap) l)(ak:l.length<=1000)(aw:∀a∈l,I64 a.n)(ai:Za op=true)(ar:l.length<=4)(aj:(QbR l==0)=true)(A:Env)(H1:Qa)(aD:H1.Wf)(av:rcF H op (.slice a0 l.length cap) A H1):
  Qm prog ZW ⟨KR H op l,WL⟩ (KR H op l) A H1:=by
 have P4:=λau=>QHX (op:=op) ad ao ak aw ai ar aj au;have aB:(decide (1<W5 2 l)||decide (1<W5 3 l)||decide (1<W5 4 l))=true->QcP op l=2:=λh=>by
  unfold QcP;rw[Le (by simp[ai]),Le (by omega),Le (by simp[aj]),Lc h]
 obtain⟨aa,ax,r1,g0⟩:=av;have ah:=λkd H' (aa:Ext H H')=>Qwc op _ l kd H' (ao.ext ad aa) ak;simp(disch:=(first | omega | (simp only[hnP];try omega))) only[ZW,Qk,simprocAttr,g0,r1]
 refine(ah 2 H1 aa).thenW ?_;rintro _ _ al aE ⟨rfl,k2,rfl⟩;have ae:=aa.up al;have ay:H.next<k2:=N5 ax al;simp(disch:=(first | omega | (simp only[hnP];try omega))) only[Qk,simprocAttr,g0,r1]
 have q:∀A H',Ext H H'->(decide (1<W5 2 l)||decide (1<W5 3 l)||decide (1<W5 4 l))=true->(A 2=.int .i64 2)->KR H op l A H':=λA H' aa h r2=>by
  simp(disch:=(first | omega | (simp only[hnP];try omega))) only[KR,WN,r2]
  exact .ext ad aa ⟨by rw[aB h],_,rfl⟩
 cases h:decide (1<W5 2 l) with
 | true=>
  rw[h]at q;simp(disch:=(first | omega | (simp only[hnP];try omega))) only[Qk,simprocAttr,h]
  refine q _ _ ae (by simp) ?_;simp only[Qg,simprocAttr]
 | false=>
  simp(disch:=(first | omega | (simp only[hnP];try omega))) only[Qk,simprocAttr,h,g0,r1]
  refine(ah 3 _ ae).thenW ?_;rintro _ _ am aF ⟨rfl,k3,rfl⟩;have ag:=ae.up am;have az:H.next<k3:=N5 ay am;cases ab:decide (1<W5 3 l) with
  | true=>
   rw[ab]at q;simp(disch:=(first | omega | (simp only[hnP];try omega))) only[Qk,simprocAttr,ab]
   refine q _ _ ag (by simp) ?_;simp only[Qg,simprocAttr]
  | false=>
   simp(disch:=(first | omega | (simp only[hnP];try omega))) only[Qk,simprocAttr,ab,g0,r1]
   refine(ah 4 _ ag).thenW ?_;rintro _ _ an aC ⟨rfl,k4,rfl⟩;have aq:=ag.up an;have aA:H.next<k4:=N5 az an;cases ac:decide (1<W5 4 l) with
   | true=>
    rw[ac]at q;simp(disch:=(first | omega | (simp only[hnP];try omega))) only[Qk,simprocAttr,ac]
    refine q _ _ aq (by simp) ?_;simp only[Qg,simprocAttr]
   | false=>
    simp(disch:=(first | omega | (simp only[hnP];try omega))) only[Qk,simprocAttr,ac]
    refine P4 (by rw[h,ab,ac];rfl) _ _ aC ⟨aq,aA,?_,g0⟩;simp only[Qg,simprocAttr,r1]
end
theorem Qgk (op:Int)(v:Value)(l:List Ar)(H:Qa)(aj:Qt H v l)(an:l.length<=1000)(ao:∀a∈l,I64 a.n):Qe prog 31 [.agg #[.int .i64 op,v]] H λu H'=>u=.int .i64 (QO op l)∧∃k,H'=H.up k:=by
 rw[<- Qp5];refine Qh1 λac=>?_;obtain⟨a0,cap,rfl⟩:=Qu aj;simp(disch:=(first | omega | (simp only[hnP];try omega))) only[QaH,Qk,simprocAttr]
 refine(QcX op _).thenW ?_;rintro _ H1 aE az ⟨rfl,ae⟩;have ak:Ext H H1:=by rw[ae];exact(Ext.refl H).push _
 have g1:H1.get H.next=some (.cells [.int .i64 op,.slice a0 l.length cap] 24 false):=by rw[ae,Qc,Lc rfl]
 have aq:H.next<H1.next:=by rw[ae,Qd];omega
 clear ae;simp(disch:=(first | omega | (simp only[hnP];try omega))) only[Qk,simprocAttr]
 cases ad:Za op with
 | false=>
  simp(disch:=(first | omega | (simp only[hnP];try omega))) only[Qk,simprocAttr,WN]
  exact .ext ac ak ⟨by unfold QcP;rw[Lc ad],_,rfl⟩
 | true=>
  simp(disch:=(first | omega | (simp only[hnP];try omega))) only[G0,Qk,simprocAttr,g1]
  refine Qf (λh=>?_) (λh=>?_)
  ·have ah:4<l.length:=by have:=Lg h;omega
   simp(disch:=(first | omega | (simp only[hnP];try omega))) only[Qk,simprocAttr,WN]
   exact .ext ac ak ⟨by unfold QcP;rw[Le (by simp[ad]),Lc ah],_,rfl⟩
  ·have ah:l.length<=4:=by have:=Ll h;omega
   have aw:(QbR l==0)=false->QcP op l=QbR l:=λh=>by
    unfold QcP;rw[Le (by simp[ad]),Le (by omega),Lc (by simpa using h)]
   simp(disch:=(first | omega | (simp only[hnP];try omega))) only[GZ,Qk,simprocAttr]
   refine Qo (λm A' H'=>∃i:Nat,i<=l.length∧m=l.length - i∧H'.Wf∧rcF H op (.slice a0 l.length cap) A' H'∧A' 3=.int .i64 i∧QbR l=QbR (l.drop i)) l.length ?_ ?_
   ·refine⟨0,L7 _,by omega,az,⟨ak,aq,?_,g1⟩,?_,rfl⟩
    all_goals simp only[uxA,uxB,Nat.reduceBEq]
    rfl
   ·rintro m A' H' ⟨i,hi,rfl,ay,⟨ag,am,r1,g0⟩,r3,q⟩;simp(disch:=(first | omega | (simp only[hnP];try omega))) only[GY,Qk,simprocAttr,g0,r1,r3]
    refine Qf (λab=>?_) (λab=>?_)
    ·have ab:i<l.length:=by have:=Lg ab;omega
     obtain⟨a,al⟩:∃a,l[i]? = some a:=⟨_,La ab⟩;obtain⟨b,rfl,aB,⟨e,ro,au⟩,d1,d3,ax,av,aC,aD,ei⟩:=atI aj ac ag an al;rw[Qp2 l i a al]at q;simp(disch:=(first | omega | (simp only[hnP];try omega))) only[GW,Qk,simprocAttr,g0,r1,r3,d1,d3,au,ax,av]
     refine(Zs a _).thenW ?_;rintro _ _ ai aA ⟨rfl,k,rfl⟩;have ar:H.next<k:=N5 am ai;simp(disch:=(first | omega | (simp only[hnP];try omega))) only[Qk,simprocAttr,r3]
     refine Qf (λaa=>?_) (λaa=>?_)
     ·have aa:(Wk a==0)=false:=by simpa using aa
      rw[aa]at q;have q:QbR l=Wk a:=by simpa using q
      simp(disch:=(first | omega | (simp only[hnP];try omega))) only[Qk,simprocAttr,WN]
      exact .ext ac (ag.up ai) ⟨by rw[aw (by rw[q];exact aa),q],_,rfl⟩
     ·have aa:(Wk a==0)=true:=by simpa using aa
      rw[aa]at q;simp(disch:=(first | omega | (simp only[hnP];try omega))) only[Qk,simprocAttr,r3,ei]
      refine⟨l.length - (i+1),by omega,i+1,by omega,rfl,aA,⟨ag.up ai,ar,?_,g0⟩,?_,by simpa using q⟩
      all_goals simp only[Qg,simprocAttr,r1]
    ·have ab:i=l.length:=by have:=Ll ab;omega
     subst ab;rw[BU]at q;simp(disch:=(first | omega | (simp only[hnP];try omega))) only[Qk,simprocAttr]
     refine QFW ac aj an ao ad ah (by rw[q];rfl) _ _ ay ⟨ag,am,r1,g0⟩
def Gs (size:Nat)(e:TypeId)(H0 H:Qa)(v:Value)(n:Nat)(cs:List Value):Prop:=(v=.slice none 0 0∧n=0∧cs=[])∨∃b,v=.slice (some ⟨b,0,none⟩) n (UNK+size)∧H0.next<=b∧H.get b=some (.cells cs e false)∧cs.length=n * size
def Qlg (v:Value)(id:Nat):Prop:=∃o n c,v=.slice (some ⟨id,o,none⟩) n c
theorem Gs.ext {size:Nat}{e:TypeId}{H0 H H':Qa}{v:Value}{n:Nat}{cs:List Value}(h:Gs size e H0 H v n cs)(ac:∀id,Qlg v id->H'.get id=H.get id):Gs size e H0 H' v n cs:=by
 rcases h with h | ⟨b,rfl,q,aa,ab⟩
 ·exact .inl h
 ·exact .inr ⟨b,rfl,q,by rw[ac b ⟨_,_,_,rfl⟩];exact aa,ab⟩
theorem Gs.low {size:Nat}{e:TypeId}{H0 H:Qa}{v:Value}{n:Nat}{cs:List Value}(h:Gs size e H0 H v n cs)(ab:H.Wf){id:Nat}(hi:Qlg v id):H0.next<=id∧id<H.next:=by
 obtain⟨o,ad,c,rfl⟩:=hi;rcases h with⟨h,_,_⟩ | ⟨b,h,q,aa,ac⟩
 ·cases h
 ·cases h;exact⟨q,ab.lt aa⟩
theorem QH6 {size:Nat}{e bytes:Nat}{H0 H:Qa}{v x:Value}{n m:Nat}{cs ms:List Value}{k:Value->Qa->Prop}(ao:Gs size e H0 H v n cs)(ac:Ext H0 H)(ab:H.Wf)(aj:Zt size x H=some (m,ms))(ai:ms.all (·.oneCell')=true)(av:1<=m)(ag:ms.length=m * size)(hb:(n+m) * bytes<=140737488355328)(al:n+m<=9223372036854775807)
  (h:∀ad H',Gs size e H0 H' ad (n+m) (cs++ms)->Ext H0 H'->H'.Wf->(∀id,id<H.next->¬Qlg v id->H'.get id=H.get id)->H'.next=H.next+1->(∀id,Qlg ad id->id=H.next)->k ad H'):QbP e size bytes v x H k:=by
 have ah:=ac.next;rcases ao with⟨rfl,rfl,rfl⟩ | ⟨b,rfl,ar,ae,ak⟩
 ·refine Qn1 aj ai (by omega) (by rw[LP]at hb;exact hb) (by omega) (h _ _ (.inr ⟨H.next,by rw[LP],ah,by rw[Qc,Lc rfl,LH],by rw[LH,LP];exact ag⟩) (ac.push _) (ab.push _) (λid aa _=>by rw[Qc,Le (by omega)]) (by rw[Qd]) ?_);rintro id ⟨o,aq,c,q⟩;cases q;rfl
 ·have au:=ab.lt ae;refine Qn0 rfl aj ai (by omega) ae (by rw[LP];omega) hb al (by omega) (h _ _ (.inr ⟨H.next,rfl,ah,?_,by rw[Lh,ak,ag,Ry]⟩) ?_ ?_ ?_ (by rw[Qd,Qdr]) ?_)
  ·rw[Qc,Qdr,Lc rfl,Lw]
  ·refine⟨by rw[Qd,Qdr];omega,λid aa=>?_⟩;rw[Qc,Qdr,Le (by omega),WV,Le (by omega)];exact ac.get id aa
  ·exact(ab.kill b).push _
  ·intro id aa am;have an:¬id=b:=λh=>am ⟨_,_,_,by rw[h]⟩;rw[Qc,Qdr,Le (by omega),WV,Le an]
  ·rintro id ⟨o,aq,c,q⟩;cases q;rfl
theorem QEj {size m b:Nat}{cap:Nat}{c:List Value}{e:TypeId}{ro:Bool}{H:Qa}(hb:H.get b=some (.cells c e ro))(q:m≠0)(aa:c.length=m * size):Zt size (.slice (some ⟨b,0,none⟩) m cap) H=some (m,c):=by
 rw[Y5 hb q (by omega),Lw,LF (by omega)]
theorem Qtg (op:Int)(v:Value)(l:List Ar)(x y:Int)(H:Qa)(ad:Qt H v l)(am:l.length<=1000):Qe prog 81 [.agg #[.int .i64 op,v],.int .i64 x,.int .i64 y] H λu H'=>u=.bool (QbL x y l)∧∃k,H'=H.up k:=by
 refine QlI λaa=>?_;obtain⟨a0,cap,rfl⟩:=Qu ad;have ab:Ext H (H.push (.cells [.int .i64 op,.slice a0 l.length cap] 24 false)):=(Ext.refl H).push _;cases ac:((l.length:Int)==2) with
 | false=>
  have an:QbL x y l=false:=by
   match l,ac with
   | [],_=>rfl
   | [_],_=>rfl
   | [_,_],h=>exact absurd h (by simp)
   | _::_::_::_,_=>rfl
  rw[an];simp(disch:=(first | omega | (simp only[hnP];try omega))) only[GJ,Qk,simprocAttr,ac,KM]
  exact .ext aa ab ⟨rfl,_,rfl⟩
 | true=>
  have av:l.length=2:=by have:=L0.1 ac;omega
  obtain⟨p,q,rfl⟩:=Qye av;obtain⟨b,rfl,az,⟨e,ro,aj⟩,d1,d3,aF,aC,ak,an,ei⟩:=atI ad aa ab am (i:=0) (a:=p) rfl;obtain⟨b',au,aA,⟨e',aH,aB⟩,aw,ax,aG,aD,al,aE,ay⟩:=atI ad aa ab am (i:=1) (a:=q) rfl;cases au;have ae:(0:Int)<=0∧(0:Int)<(([p,q]:List Ar).length:Int):=by simp
  have ag:(0:Int)<=1∧(1:Int)<(([p,q]:List Ar).length:Int):=by simp
  have aq:(0:Int).toNat=0:=rfl;have ar:(1:Int).toNat=1:=rfl;simp only[BH,Fx]at ak al;have ah:QbL x y [p,q]=((p.k==x)&&(q.k==y)):=rfl;rw[ah];clear ah;generalize ai:H.push _=H1 at *;have g0:H1.get H.next=some (.cells [.int .i64 op,.slice (some ⟨b,0,none⟩) ([p,q]:List Ar).length cap] 24 false):=by rw[<- ai,Qc,Lc rfl]
  generalize ([p,q]:List Ar).length=len at *;simp(disch:=(first | omega | (simp only[hnP];try omega))) only[GJ,Qk,simprocAttr,ai,ac,g0,ae,ag,aq,ar,aj,ak]
  cases ao:p.k==x with
  | false=>
   simp(disch:=(first | omega | (simp only[hnP];try omega))) only[Qk,simprocAttr,ao,KM,NG]
   exact .ext aa ab ⟨rfl,_,rfl⟩
  | true=>
   simp(disch:=(first | omega | (simp only[hnP];try omega))) only[Qk,simprocAttr,ao,g0,ae,ag,aq,ar,aj,al,KM,LJ]
   exact .ext aa ab ⟨rfl,_,rfl⟩
theorem QiF (op:Int)(v:Value)(p q:Ar)(H:Qa)(ad:Qt H v [p,q]):Qe prog 82 [.agg #[.int .i64 op,v]] H λu H'=>∃ai,u=.agg #[.int .i64 op,ai]∧Qt H' ai [q,p]∧Ext H H'∧∀id,Qlg ai id->H.next<=id:=by
 refine Qju λam=>?_;obtain⟨a0,cap,rfl⟩:=Qu ad;have ae:Ext H ((H.push (.cells [.int .i64 op,.slice a0 ([p,q]:List Ar).length cap] 24 false)).push (.cells [.int .i64 0,.slice none 0 0] 24 false)):=((Ext.refl H).push _).push _;obtain⟨b,rfl,aE,⟨e,ro,al⟩,d1,d3,aa,ag,au,aw,ei⟩:=atI ad am ae (by simp) (i:=0) (a:=p) rfl;obtain⟨b',aq,aF,⟨e',bd,ar⟩,aB,aC,ac,ah,av,ax,aD⟩:=atI ad am ae (by simp) (i:=1) (a:=q) rfl;cases aq;have an:(0:Int)<=0∧(0:Int)<(([p,q]:List Ar).length:Int):=by simp
 have ao:(0:Int)<=1∧(1:Int)<(([p,q]:List Ar).length:Int):=by simp
 have az:(0:Int).toNat=0:=rfl;have aA:(1:Int).toNat=1:=rfl;simp only[BH,Fx,LP]at aa ac ag ah;generalize ab:(H.push _).push _=H1 at *;have aG:H1.next=H.next+2:=by rw[<- ab];rfl
 have g0:H1.get H.next=some (.cells [.int .i64 op,.slice (some ⟨b,0,none⟩) ([p,q]:List Ar).length cap] 24 false):=by rw[<- ab,Qc,Le (by rw[Qd];omega),Qc,Lc rfl]
 have g1:H1.get (H.next+1)=some (.cells [.int .i64 0,.slice none 0 0] 24 false):=by rw[<- ab,Qc,Lc (by rw[Qd])]
 generalize ([p,q]:List Ar).length=len at *;obtain⟨C,aj⟩:∃C,Qh [p,q]=C:=⟨_,rfl⟩;rw[aj]at al aa ac ag ah;rw[Lw]at aa;have ak:Qh [q,p]=q.cells++p.cells:=by simp[Qh]
 have ay:Ext H H1:=ae;unfold Qt;rw[ak];clear ak ar au av aw ax ad aj ae;obtain⟨aM,⟨aO,aP⟩,⟨⟨aH,aI⟩,⟨aK,aL⟩,aQ,aJ,aR⟩,aN⟩:=p;obtain⟨aX,⟨aZ,ba⟩,⟨⟨aS,aT⟩,⟨aV,aW⟩,bb,aU,bc⟩,aY⟩:=q;simp only[Ar.cells,Nm,LH]at aa ac ⊢;simp(disch:=(first | omega | (simp only[hnP];try omega))) only[QbV,Qk,simprocAttr,ab,g0,g1,an,ao,az,aA,al,aa,ac,ag,ah,LP]
 simp(disch:=(first | omega | (simp only[hnP];try omega))) only[Qk,simprocAttr,List.drop_succ_cons,List.take_succ_cons,Rb,LH,Nm,Qh8]
 refine .mk (by simp only[Qv,Qd];omega) ⟨_,rfl,⟨_,_,rfl,λ_=>⟨H1.next,58,false,rfl,?_⟩⟩,(ay.push _).set (by omega) _,λid ⟨_,_,_,h⟩=>by cases h;omega⟩;rw[Qn,Le (by omega),Qc,Lc rfl]
def cF (q:Int×Bool)(a:Ar):Ar:=if((Wx a).1.k==3)=true then {(Wx a).1 with n:=(WR (Wx a).1.n q.1 q.2).1} else(Wx a).1
theorem Qyg (q:Int×Bool):∀l:List Ar,QbR l=0->Qfb q l=0->XF q l=(l.map (cF q),0)
 | [],_,_=>rfl
 | a::l,h1,h2=>by
  have ad:(Wk a==0)=true:=by
   unfold QbR at h1;split at h1
   ·assumption
   ·rename_i ac;rw[h1]at ac;exact absurd rfl ac
  have ae:QbR l=0:=by unfold QbR at h1;rw[Lc ad]at h1;exact h1
  have ag:Wx a=(QdH a,0):=by unfold Wx;rw[Lc ad]
  have ah:(QdH a).k=a.k:=by unfold QdH;split;rfl;split<;>rfl
  have ai:(a.k==3)=true->(QdH a).n=a.n:=λh=>by
   have:=L0.1 h;unfold QdH;rw[this];rfl
  have key:VX q a=(cF q a,0)∧Qfb q l=0:=by
   unfold Qfb at h2;unfold VX cF;rw[ag];simp only[ah];cases ab:a.k==3 with
   | false=>rw[ab]at h2;exact⟨rfl,by simpa using h2⟩
   | true=>
    rw[ab]at h2;simp only[N3]at h2;cases aa:(WR a.n q.1 q.2).2==0 with
    | true=>
     rw[aa]at h2;rw[ai ab];refine⟨?_,by simpa using h2⟩;simp[L0.1 aa]
    | false=>
     rw[aa]at h2;have:(WR a.n q.1 q.2).2=0:=by simpa using h2
     rw[this]at aa;exact absurd aa (by simp)
  unfold XF;rw[key.1,Qyg q l ae key.2];rfl
theorem QCH {op:Int}{l:List Ar}(h:QO op l=0):Wc op l=(op,ZS op (l.map (cF (QW op l))),0):=by
 have q:=Qp5 op l;rw[h]at q;have:QbR l=0∧Qfb (QW op l) l=0:=by
  unfold QcP at q;split at q
  ·omega
  split at q
  ·omega
  split at q
  ·rename_i aa;rw[q]at aa;exact absurd aa (by simp)
  rename_i aa;split at q
  ·omega
  exact⟨by simpa using aa,q⟩
 unfold Wc;rw[h,Qyg _ l this.1 this.2];rfl
theorem QCI {op:Int}{l:List Ar}(h:(QO op l==0)=false):Wc op l=(0,[],QO op l):=by
 unfold Wc;rw[Lc h]
theorem QJC {size e n:Nat}{H0 H:Qa}{v:Value}{cs:List Value}(h:Gs size e H0 H v n cs)(ac:0<size):QdA H v n cs:=by
 rcases h with⟨rfl,rfl,rfl⟩ | ⟨b,rfl,aa,q,ab⟩
 ·exact⟨none,0,rfl,λh=>absurd h (NX 0)⟩
 ·exact⟨_,_,rfl,λ_=>⟨b,e,false,rfl,q⟩⟩
def QJD (op:Int)(l:List Ar)(H:Qa)(u:Value)(H':Qa):Prop:=
 Ext H H'∧∃q,u=.tuple #[.agg #[.int .i64 (Wc op l).1,q],.int .i64 (Wc op l).2.2]∧Qt H' q (Wc op l).2.1∧∀a n c,q=.slice (some a) n c->H.next<=a.block∧a.block<H'.next
section
variable {H:Qa} {op:Int} {l:List Ar}
abbrev KD (H:Qa)(op:Int)(l:List Ar):Env->Qa->Prop:=Rt prog Tryz.f80 H (QJD op l H)
structure CnF (H:Qa) (op:Int) (v:Value) (D:Nat) (w:Value) (m:List Ar) (A:Env) (H':Qa):Prop where
 x:Ext H H'
 lt:H.next+2<=D
 r1:A 1=.pointer (some ⟨H.next,0,none⟩)
 r2:A 2=.pointer (some ⟨H.next+1,0,none⟩)
 r5:A 5=.pointer (some ⟨D,0,none⟩)
 g0:H'.get H.next=some (.cells [.int .i64 op,v] 24 false)
 g1:H'.get (H.next+1)=some (.cells [.int .i64 0,.slice none 0 0] 24 false)
 gD:H'.get D=some (.cells [.int .i64 op,w] 24 false)
 ars:Qt H' w m
 hi:∀id,Qlg w id->D<id
 hb:∀a n c,w=.slice (some a) n c->H.next<=a.block∧a.block<H'.next
theorem CnF.ext {v w:Value}{D:Nat}{m:List Ar}{A B:Env}{H1 H2:Qa}(h:CnF H op v D w m A H1)(aa:H1.Wf)(q:Ext H1 H2)(e1:B 1=A 1)(e2:B 2=A 2)(ab:B 5=A 5):CnF H op v D w m B H2:=by
 have ad:=q.next;exact⟨⟨by have:=h.x.next;omega,λid ac=>by rw[q.get id (by have:=h.x.next;omega)];exact h.x.get id ac⟩,h.lt,e1.trans h.r1,e2.trans h.r2,ab.trans h.r5,by rw[q.get _ (aa.lt h.g0)];exact h.g0,by rw[q.get _ (aa.lt h.g1)];exact h.g1,by rw[q.get _ (aa.lt h.gD)];exact h.gD,h.ars.ext aa q,h.hi,λa n c e=>by have:=h.hb a n c e;omega⟩
def Qmx:PC:=(.seq (.ops [Ow 134 (.ld true 2 (t 5)),Ov (.st 2 (t 2) (t 134)),Om 3 (Ci 0)]) .ret)
theorem QH7 {v w:Value}{D:Nat}{m:List Ar}{A:Env}{H1:Qa}(am:H1.Wf)(ae:CnF H op v D w m A H1)(ab:Wc op l=(op,m,0))(e:Nat->Env->Qa->Prop):
  Qm prog Qmx ⟨KD H op l,e⟩ (KD H op l) A H1:=by
 obtain⟨aj,al,r1,r2,r5,g0,g1,gD,aa,ah,ag⟩:=ae;obtain⟨q,cap,rfl⟩:=Qu aa;simp(disch:=(first | omega | (simp only[hnP];try omega))) only[Qmx,Qk,simprocAttr,r2,r5,gD,g1,Qac]
 have ac:Ext H (H1.set (H.next+1) (.cells [.int .i64 op,.slice q m.length cap] 24 false)):=aj.set (by omega) _;refine .mk ac.next ⟨ac,_,by rw[ab],?_,ag⟩;rw[ab];obtain⟨a1,ak,e1,ad⟩:=aa;cases e1;refine⟨q,cap,rfl,λai=>?_⟩;obtain⟨b,e',ro,rfl,hb⟩:=ad ai;have:=ah b ⟨_,_,_,rfl⟩;exact⟨b,e',ro,rfl,by rw[Qn,Le (by omega)];exact hb⟩
theorem Qz2 {v w w':Value}{D:Nat}{m ac:List Ar}{A:Env}{H1 H2:Qa}(ae:H1.Wf)(ab:CnF H op v D w m A H1)(al:Ext H1 H2)(ak:H2.Wf)(ai:0<ac.length)(ad:Qt H2 w' ac)(q:∀id,Qlg w' id->H1.next<=id){B:Env}(e1:B 1=A 1)(e2:B 2=A 2)(ag:B 5=A 5):
  CnF H op v D w' ac B (H2.set D (.cells [.int .i64 op,w'] 24 false)):=by
 have h:=ab.ext (B:=B) ae al e1 e2 ag;have ao:=ae.lt ab.gD;refine⟨h.x.set (by have:=h.lt;omega) _,h.lt,h.r1,h.r2,h.r5,?_,?_,by rw[Qn,Lc rfl],?_,λid ah=>by have:=q id ah;omega,λa n c e=>?_⟩
 ·rw[Qn,Le (by have:=h.lt;omega)];exact h.g0
 ·rw[Qn,Le (by have:=h.lt;omega)];exact h.g1
 ·obtain⟨a,cap,rfl,aa⟩:=ad;refine⟨a,cap,rfl,λaj=>?_⟩;obtain⟨b,e,ro,rfl,hb⟩:=aa aj;have:=q b ⟨_,_,_,rfl⟩;exact⟨b,e,ro,rfl,by rw[Qn,Le (by omega)];exact hb⟩
 ·obtain⟨am,cap,e',aa⟩:=ad;obtain⟨b,an,ro,rfl,hb⟩:=aa ai;rw[e']at e q;cases e;have:=q b ⟨_,_,_,rfl⟩;have:=ab.x.next;exact⟨by show H.next<=b;omega,by show b<H2.next;exact ak.lt hb⟩
theorem QEk {op:Int}{l:List Ar}(h:Qrr op l=true):∃x y,l=[x,y]:=by
 match l,h with
 | [x,y],_=>exact⟨x,y,rfl⟩
theorem QH8:WE=(.seq (.block 2 (.seq (.ops [Ow 60 (.fldA 0 (t 1)),Ow 61 (.ld false 1 (t 60)),Ow 62 (.bin .eql (t 61) (Ci 16)),Om 63 (t 62),Og 64 (.ld true 2 (t 5)) 63 true,Og 65 (.call 81 [(t 64),(Ci 1),(Ci 3)]) 63 true,Ow 66 (.pick (t 63) (t 65) (.const (.bool false))),Om 59 (t 66)]) (.cond (t 59) ZX WD))) Qmx):=rfl
theorem QEl {v w:Value}{D:Nat}{m:List Ar}{A:Env}{H1:Qa}(al:H1.Wf)(bg:CnF H op v D w m A H1)(b9:m.length<=4)(aM:Wc op l=(op,ZS op m,0)):
  Qm prog WE ⟨KD H op l,WL⟩ (KD H op l) A H1:=by
 have aK:∀ (w:Value) (m:List Ar) (A:Env) (H1:Qa),H1.Wf->CnF H op v D w m A H1->Wc op l=(op,m,0)->Qm prog Qmx ⟨KD H op l,WL⟩ (KD H op l) A H1:=λw m A H1 a b c=>QH7 a b c WL;have ao:=bg;obtain⟨bA,b8,r1,r2,r5,g0,g1,gD,bh,b7⟩:=bg;have b4:=al.lt gD;have bd:∀ (x y:Ar) (ks:Kp) (A2:Env) (H2:Qa),m=[x,y]->H2.Wf->Ext H1 H2->A2 1=A 1->A2 2=A 2->A2 5=A 5->ZS op m=[y,x]->Qm prog (.ops [Ow 94 (.ld true 2 (t 5)),Ow 95 (.call 82 [(t 94)]),Ov (.st 2 (t 5) (t 95))]) ks (Qm prog Qmx ⟨KD H op l,WL⟩ (KD H op l)) A2 H2:=by
  intro x y ks A2 H2 ba aj ab ad ae ag aq;have q:=ao.ext al ab ad ae ag;subst ba;simp(disch:=(first | omega | (simp only[hnP];try omega))) only[Qk,simprocAttr,q.r5,q.gD]
  refine(QiF op w x y H2 q.ars).thenW ?_;rintro _ H3 am aa ⟨bz,rfl,aJ,ac,aN⟩;obtain⟨b,cap,hb⟩:=Qu aJ;have ah:H3.get D=some (.cells [.int .i64 op,w] 24 false):=by rw[ac.get D (aj.lt q.gD)];exact q.gD
  subst hb;simp(disch:=(first | omega | (simp only[hnP];try omega))) only[Qk,simprocAttr,q.r5,ah]
  refine aK (.slice b ([y,x]:List Ar).length cap) [y,x] _ _ (aa.set ah _) ?_ (by rw[aM,aq]);refine Qz2 aj q ac aa (by simp) aJ aN ?_ ?_ ?_
  all_goals simp only[Qg,simprocAttr]
 have bk:∀ (x y:Ar) (ks:Kp) (A2:Env) (H2:Qa),m=[x,y]->H2.Wf->Ext H1 H2->A2 1=A 1->A2 2=A 2->A2 5=A 5->ZS op m=[y,x]->Qm prog (.ops [Ow 132 (.ld true 2 (t 5)),Ow 133 (.call 82 [(t 132)]),Ov (.st 2 (t 5) (t 133))]) ks (Qm prog Qmx ⟨KD H op l,WL⟩ (KD H op l)) A2 H2:=by
  intro x y ks A2 H2 ba aj ab ad ae ag aq;have q:=ao.ext al ab ad ae ag;subst ba;simp(disch:=(first | omega | (simp only[hnP];try omega))) only[Qk,simprocAttr,q.r5,q.gD]
  refine(QiF op w x y H2 q.ars).thenW ?_;rintro _ H3 am aa ⟨bz,rfl,aJ,ac,aN⟩;obtain⟨b,cap,hb⟩:=Qu aJ;have ah:H3.get D=some (.cells [.int .i64 op,w] 24 false):=by rw[ac.get D (aj.lt q.gD)];exact q.gD
  subst hb;simp(disch:=(first | omega | (simp only[hnP];try omega))) only[Qk,simprocAttr,q.r5,ah]
  refine aK (.slice b ([y,x]:List Ar).length cap) [y,x] _ _ (aa.set ah _) ?_ (by rw[aM,aq]);refine Qz2 aj q ac aa (by simp) aJ aN ?_ ?_ ?_
  all_goals simp only[Qg,simprocAttr]
 have aL:∀ (x y:Int) (H2:Qa),H2.Wf->Ext H1 H2->Qe prog 81 [.agg #[.int .i64 op,w],.int .i64 x,.int .i64 y] H2 λu H'=>u=.bool (QbL x y m)∧∃k,H'=H2.up k:=λx y H2 aj ab=>Qtg op w m x y H2 (bh.ext al ab) (by omega)
 -- nothing more
 have aO:∀ (A2:Env) (H2:Qa),H2.Wf->Ext H1 H2->A2 1=A 1->A2 2=A 2->A2 5=A 5->ZS op m=m->Qm prog Qmx ⟨KD H op l,WL⟩ (KD H op l) A2 H2:=λA2 H2 aj ab ad ae ag aq=>aK w m _ _ aj (ao.ext al ab ad ae ag) (by rw[aM,aq])
 -- ranked
 have P3:∀ (A2:Env) (H2:Qa) (ks:Kp),H2.Wf->Ext H1 H2->A2 1=A 1->A2 2=A 2->A2 5=A 5->Qte op m=false->Quf op m=false->Qm prog ZY ks (Qm prog Qmx ⟨KD H op l,WL⟩ (KD H op l)) A2 H2:=by
  intro A2 H2 ks aj ab ad ae ag ar bo;have q:=ao.ext al ab ad ae ag;have aq:ZS op m=if Qrr op m=true then m.reverse else m:=by unfold ZS;rw[ar,bo];simp
  simp(disch:=(first | omega | (simp only[hnP];try omega))) only[ZY,Qk,simprocAttr,q.r1,q.r5,q.g0,q.gD]
  have bj:(op==11)=false∨QbL 1 1 m=false->ZS op m=m:=λh=>by
   rw[aq,Le];intro aC;obtain⟨x,y,an⟩:=QEk aC;rw[an]at aC h;have aw:((op==11)&&(((x.k==1)&&(y.k==1))&&(x.r.c==y.r.c))&&!(decide (x.r.n<=y.r.n)))=true:=aC;simp only[Lm]at aw;rcases h with h | h
   ·rw[aw.1.1]at h;cases h
   ·have:QbL 1 1 [x,y]=((x.k==1)&&(y.k==1)):=rfl;rw[this,aw.1.2.1.1,aw.1.2.1.2]at h;cases h
  cases au:op==11 with
  | false=>
   simp(disch:=(first | omega | (simp only[hnP];try omega))) only[Qk,simprocAttr]
   refine aO _ _ aj ab ?_ ?_ ?_ (bj (.inl au))
   all_goals simp only[Qg,simprocAttr,ad,ae,ag]
  | true=>
   simp(disch:=(first | omega | (simp only[hnP];try omega))) only[Qk,simprocAttr,q.r5,q.gD]
   refine(aL 1 1 _ aj ab).thenW ?_;rintro _ _ am aa ⟨rfl,k3,rfl⟩;have ac:Ext H1 (H2.up k3):=ab.up am;cases ai:QbL 1 1 m with
   | false=>
    simp(disch:=(first | omega | (simp only[hnP];try omega))) only[Qk,simprocAttr]
    refine aO _ _ aa ac ?_ ?_ ?_ (bj (.inr ai))
    all_goals simp only[Qg,simprocAttr,ad,ae,ag]
   | true=>
    obtain⟨x,y,rfl⟩:=QhG ai;have ak:=ao.ext (B:=A2) al ac ad ae ag;obtain⟨a0,cap,aD⟩:=Qu ak.ars;have av:=ak.ars;rw[aD]at av;obtain⟨b,rfl,br,⟨e,ro,aB⟩,d1,d3,aR,ax,aC,bi,ei⟩:=atI (H:=H2.up k3) (H':=H2.up k3) av aa (.refl _) (by simp) (i:=0) (a:=x) rfl;have ah:=ak.gD;rw[aD]at ah;have ay:(0:Int)<=0∧(0:Int)<(([x,y]:List Ar).length:Int):=by simp
    have az:(0:Int)<=1∧(1:Int)<(([x,y]:List Ar).length:Int):=by simp
    have aX:(0:Int).toNat=0:=rfl;have aY:(1:Int).toNat=1:=rfl;have aE:(Qh [x,y])[0 * 11+1]? = some (.int .i64 x.r.c):=rfl;have aF:(Qh [x,y])[0 * 11+1+1]? = some (.int .i64 x.r.n):=rfl;have aG:(Qh [x,y])[1 * 11+1]? = some (.int .i64 y.r.c):=rfl;have aH:(Qh [x,y])[1 * 11+1+1]? = some (.int .i64 y.r.n):=rfl;simp only[BH,Fx,LP]at aE aF aG aH;simp only[Nat.reduceAdd]at aE aF aG aH;have bc:ZS op [x,y]=if((x.r.c==y.r.c)&&decide (y.r.n<x.r.n))=true then[y,x] else[x,y]:=by
     rw[aq];have aw:(x.k==1)=true∧(y.k==1)=true:=by
      have:QbL 1 1 [x,y]=((x.k==1)&&(y.k==1)):=rfl;rw[this]at ai;simpa using ai
     have:Qrr op [x,y]=((x.r.c==y.r.c)&&decide (y.r.n<x.r.n)):=by
      show((op==11)&&QdJ [x,y]&&!(decide (x.r.n<=y.r.n)))=_;rw[au];show(true&&(((x.k==1)&&(y.k==1))&&(x.r.c==y.r.c))&&!(decide (x.r.n<=y.r.n)))=_;rw[aw.1,aw.2];simp only[LJ];congr 1
      by_cases ax:x.r.n<=y.r.n
      ·rw[Lp ax,Lj (by omega)];rfl
      ·rw[Lj ax,Lp (by omega)];rfl
     rw[this];rfl
    generalize Qh [x,y]=C at aE aF aG aH aB;generalize ([x,y]:List Ar).length=len at ah ay az;simp(disch:=(first | omega | (simp only[hnP];try omega))) only[G3,Qk,simprocAttr,ak.r5,ah,ay,az,aX,aY,aB,aE,aF,aG,aH]
    cases aA:x.r.c==y.r.c with
    | false=>
     simp(disch:=(first | omega | (simp only[hnP];try omega))) only[Qk,simprocAttr]
     refine aO _ _ aa ac ?_ ?_ ?_ (by rw[bc,aA];rfl)
     all_goals simp only[Qg,simprocAttr,ad,ae,ag]
    | true=>
     simp(disch:=(first | omega | (simp only[hnP];try omega))) only[Qk,simprocAttr,ak.r5,ah,ay,az,aX,aY,aB,aE,aF,aG,aH]
     cases aU:decide (y.r.n<x.r.n) with
     | false=>
      simp(disch:=(first | omega | (simp only[hnP];try omega))) only[Qk,simprocAttr]
      refine aO _ _ aa ac ?_ ?_ ?_ (by rw[bc,aA,aU];rfl)
      all_goals simp only[Qg,simprocAttr,ad,ae,ag]
     | true=>
      simp only[KJ,Qq7,J9,VN,Nat.reduceBEq,bf,bt,Qfp,QnS,Lq];have aQ:ZS op [x,y]=[y,x]:=by rw[bc,aA,aU];rfl
      refine bk x y _ _ _ rfl aa ac ?_ ?_ ?_ aQ
      all_goals simp only[Qg,simprocAttr,ad,ae,ag]
 -- placed
 have P4:∀ (A2:Env) (H2:Qa) (ks:Kp),H2.Wf->Ext H1 H2->A2 1=A 1->A2 2=A 2->A2 5=A 5->Qte op m=false->Qm prog WD ks (Qm prog Qmx ⟨KD H op l,WL⟩ (KD H op l)) A2 H2:=by
  intro A2 H2 ks aj ab ad ae ag ar;have q:=ao.ext al ab ad ae ag;have aP:Quf op m=((op==10||op==11)&&QbL 1 2 m):=rfl;cases aI:op==10 with
  | true=>
   have bb:(op==10||op==11)=true:=by rw[aI];rfl
   simp(disch:=(first | omega | (simp only[hnP];try omega))) only[WD,Qk,simprocAttr,q.r1,q.r5,q.g0,q.gD,aI]
   refine(aL 1 2 _ aj ab).thenW ?_;rintro _ _ am aa ⟨rfl,k3,rfl⟩;have ac:Ext H1 (H2.up k3):=ab.up am;cases ai:QbL 1 2 m with
   | false=>
    simp only[Ym,Zg,Ka,JK,Qlu,QcC,Qkb,KJ,Qq7,J9,VN,YN,Nat.reduceBEq,bf,bt,Qfp,Qep,Ls,Lq];refine P3 _ _ _ aa ac ?_ ?_ ?_ ar (by rw[aP,ai,NJ])
    all_goals simp only[Qg,simprocAttr,ad,ae,ag]
   | true=>
    obtain⟨x,y,an⟩:=QhG ai;simp only[Ym,Zg,Ka,JK,Qlu,QcC,Qkb,KJ,Qq7,J9,VN,YN,Nat.reduceBEq,bf,bt,Qfp,QnS,Ls,Lq];refine bd x y _ _ _ an aa ac ?_ ?_ ?_ (by unfold ZS;rw[ar,aP,ai,bb,an];rfl)
    all_goals simp only[Qg,simprocAttr,ad,ae,ag]
  | false=>
   cases au:op==11 with
   | true=>
    have bb:(op==10||op==11)=true:=by rw[au,Bd]
    simp(disch:=(first | omega | (simp only[hnP];try omega))) only[WD,Qk,simprocAttr,q.r1,q.r5,q.g0,q.gD,aI,au]
    refine(aL 1 2 _ aj ab).thenW ?_;rintro _ _ am aa ⟨rfl,k3,rfl⟩;have ac:Ext H1 (H2.up k3):=ab.up am;cases ai:QbL 1 2 m with
    | false=>
     simp only[Ym,Zg,Ka,JK,Qlu,QcC,Qkb,KJ,Qq7,J9,VN,YN,Nat.reduceBEq,bf,bt,Qfp,Qep,Ls,Lq];refine P3 _ _ _ aa ac ?_ ?_ ?_ ar (by rw[aP,ai,NJ])
     all_goals simp only[Qg,simprocAttr,ad,ae,ag]
    | true=>
     obtain⟨x,y,an⟩:=QhG ai;simp only[Ym,Zg,Ka,JK,Qlu,QcC,Qkb,KJ,Qq7,J9,VN,YN,Nat.reduceBEq,bf,bt,Qfp,QnS,Ls,Lq];refine bd x y _ _ _ an aa ac ?_ ?_ ?_ (by unfold ZS;rw[ar,aP,ai,bb,an];rfl)
     all_goals simp only[Qg,simprocAttr,ad,ae,ag]
   | false=>
    simp(disch:=(first | omega | (simp only[hnP];try omega))) only[WD,Qk,simprocAttr,q.r1,q.r5,q.g0,q.gD,aI,au]
    refine P3 _ _ _ aj ab ?_ ?_ ?_ ar (by rw[aP,aI,au];rfl)
    all_goals simp only[Qg,simprocAttr,ad,ae,ag]
 have aT:Qte op m=((op==16)&&QbL 1 3 m):=rfl;simp only[QH8,V5,Qfo];cases aS:op==16 with
 | false=>
  simp(disch:=(first | omega | (simp only[hnP];try omega))) only[Qk,simprocAttr,r1,r5,g0,gD,aS]
  refine P4 _ _ _ al (.refl _) ?_ ?_ ?_ (by rw[aT,aS];rfl)
  all_goals simp only[Qg,simprocAttr]
 | true=>
  simp(disch:=(first | omega | (simp only[hnP];try omega))) only[Qk,simprocAttr,r1,r5,g0,gD,aS]
  refine(aL 1 3 _ al (.refl _)).thenW ?_;rintro _ _ am aa ⟨rfl,k3,rfl⟩;have ac:Ext H1 (H1.up k3):=(Ext.refl H1).up am;cases ai:QbL 1 3 m with
  | false=>
   simp only[Ym,Zg,Ka,JK,Qlu,QcC,Qkb,KJ,Qq7,J9,VN,YN,Nat.reduceBEq,bf,bt,Qfp,Qep,Ls,Lq];refine P4 _ _ _ aa ac ?_ ?_ ?_ (by rw[aT,ai,NJ])
   all_goals simp only[Qg,simprocAttr]
  | true=>
   obtain⟨x,y,an⟩:=QhG ai;subst an;have ak:=ao.ext (B:=A) al ac rfl rfl rfl;obtain⟨a0,cap,aD⟩:=Qu ak.ars;have av:=ak.ars;rw[aD]at av;obtain⟨b,rfl,br,⟨e,ro,aB⟩,d1,d3,aR,ax,aC,bi,ei⟩:=atI (H:=H1.up k3) (H':=H1.up k3) av aa (.refl _) (by simp) (i:=0) (a:=x) rfl;obtain⟨b',bq,b6,⟨e',bX,bv⟩,b1,b2,aW,aZ,bw,aN,b3⟩:=atI (H:=H1.up k3) (H':=H1.up k3) av aa (.refl _) (by simp) (i:=1) (a:=y) rfl;cases bq;have ah:=ak.gD;rw[aD]at ah;have aQ:ZS op [x,y]=[x,x,y]:=by unfold ZS;rw[aT,aS,ai];rfl
   have ay:(0:Int)<=0∧(0:Int)<(([x,y]:List Ar).length:Int):=by simp
   have az:(0:Int)<=1∧(1:Int)<(([x,y]:List Ar).length:Int):=by simp
   have aX:(0:Int).toNat=0:=rfl;have aY:(1:Int).toNat=1:=rfl;simp only[BH,Fx,LP,Lw]at aR aW ax aZ;have aA:Qh [x,x,y]=x.cells++(x.cells++y.cells):=by simp[Qh]
   have aV:=fun(H2:Qa) (w':Value) (ab:Ext (H1.up k3) H2) (aj:H2.Wf) (bp:Qt H2 w' [x,x,y]) (aU:∀id,Qlg w' id->(H1.up k3).next<=id) (B:Env) (e1:B 1=A 1) (e2:B 2=A 2) (bn:B 5=A 5)=>Qz2 (A:=A) aa ak ab aj (by simp) bp aU e1 e2 bn;generalize ([x,y]:List Ar).length=len at ah ay az;generalize Qh [x,y]=C at aB bv aR aW ax aZ;have bx:=aQ;unfold Qt at aV;rw[aA]at aV;clear aA aC bw bi aN aD;have bu:∀ (w':Value) (A2:Env) (H2:Qa),H2.Wf->CnF H op v D w' [x,x,y] A2 H2->Qm prog Qmx ⟨KD H op l,WL⟩ (KD H op l) A2 H2:=λw' A2 H2 a b=>aK w' [x,x,y] A2 H2 a b (by rw[aM,aQ]);have bm:=aa;have b5:D<k3:=by have:=aa.lt ah;exact this
   clear aM aQ bx ao ak aK bd bk aL aO P3 P4 bh av ai aT;obtain⟨bG,⟨bI,bJ⟩,⟨⟨bB,bC⟩,⟨bE,bF⟩,bK,bD,bL⟩,bH⟩:=x;obtain⟨bR,⟨bT,bU⟩,⟨⟨bM,bN⟩,⟨bP,bQ⟩,bV,bO,bW⟩,bS⟩:=y;simp only[Ar.cells,Nm,LH]at aR aW aV;simp(disch:=(first | omega | (simp only[hnP];try omega))) only[ZX,sxA,sxB,Nat.reduceBEq,Nat.reduceEqDiff,reduceCtorEq,mxD,mxB,Nat.reduceAdd,reduceIte,Nat.reduceLeDiff,splice,r5,ah,ay,az,aX,aY,aB,aR,aW,ax,aZ,LP]
   rw[Lc (by decide)];simp(disch:=(first | omega | (simp only[hnP];try omega))) only[Qk,simprocAttr,r5,ah]
   refine bu (.slice (some ⟨k3,0,none⟩) 3 3) _ _ ((bm.push _).set (b0:=.cells [.int .i64 op,.slice (some ⟨b,0,none⟩) len cap] 24 false) (by rw[Qc,Le (by rw[Ql];omega)];exact ah) _) (aV _ _ ((Ext.refl _).push _) (bm.push _) ⟨_,_,rfl,λ_=>⟨k3,58,false,rfl,?_⟩⟩ (λid ⟨_,_,_,h⟩=>by cases h;exact Lb _) _ ?_ ?_ ?_)
   ·rw[Qc,Lc (by rw[Ql])]
   all_goals simp only[Qg,simprocAttr]
end
def QBg:PC:=(.ops [Ow 53 (.fldA 1 (t 5)),Ow 54 (.ld false 1 (t 53)),Ow 55 (.ld true 11 (t 7)),Ow 56 (.bslice 58 11 1 [.int .i64 0,.int .i64 0,.int .i64 0,.int .i64 0,.int .i64 0,.int .i64 0,.int .i64 0,.int .i64 0,.int .i64 0,.int .i64 0,.int .i64 0] [(0,(t 55))]),Ow 57 (.app 58 11 88 (t 54) (t 56)),Ow 58 (.fldA 1 (t 5)),Ov (.st 1 (t 58) (t 57))])
theorem QH9:G4=(.seq (.block 1 (.seq (.ops [Ow 28 (.fldA 1 (t 1)),Ow 29 (.ld false 1 (t 28)),Om 30 (t 6),Ow 31 (.idxS 11 (t 29) (t 30)),Ow 32 (.ld true 11 (t 31)),Ow 33 (.call 120 [(t 32)]),Om 27 (t 33),Ow 34 (.ext (t 27) 0),Ow 35 (.ext (t 27) 1),Ow 7 (.alloc 58 [.int .i64 0,.int .i64 0,.int .i64 0,.int .i64 0,.int .i64 0,.int .i64 0,.int .i64 0,.int .i64 0,.int .i64 0,.int .i64 0,.int .i64 0]),Ov (.st 11 (t 7) (t 34)),Om 8 (t 35)]) (.seq (.seq (.ops [Ow 36 (.fldA 0 (t 7)),Ow 37 (.ld false 1 (t 36)),Ow 38 (.bin .eql (t 37) (Ci 3))]) (.cond (t 38) ZZ .skip)) QBg))) (.ops [Om 25 (t 6),Ow 26 (.bin .add (t 25) (Ci 1)),Om 6 (t 26)])):=rfl
structure CnL (HC:Qa) (D:Nat) (op:Int) (H:Qa) (w:Value) (d:List Ar) (A:Env) (H':Qa):Prop where
 wf:H'.Wf
 x:Ext HC H'
 r1:A 1=.pointer (some ⟨H.next,0,none⟩)
 r2:A 2=.pointer (some ⟨H.next+1,0,none⟩)
 r5:A 5=.pointer (some ⟨D,0,none⟩)
 gD:H'.get D=some (.cells [.int .i64 op,w] 24 false)
 gs:Gs 11 58 HC H' w d.length (Qh d)
 ap:¬Qlg w D
theorem CnL.ext {HC:Qa}{D:Nat}{op:Int}{H:Qa}{w:Value}{d:List Ar}{A B:Env}{H1 H2:Qa}(h:CnL HC D op H w d A H1)(q:Ext H1 H2)(ac:H2.Wf)(e1:B 1=A 1)(e2:B 2=A 2)(ab:B 5=A 5):CnL HC D op H w d B H2:=by
 have ad:=q.next;have ae:=h.x.next;refine⟨ac,⟨by omega,λid aa=>by rw[q.get id (by omega)];exact h.x.get id aa⟩,e1.trans h.r1,e2.trans h.r2,ab.trans h.r5,by rw[q.get _ (h.wf.lt h.gD)];exact h.gD,h.gs.ext λid aa=>q.get id ?_,h.ap⟩;exact(h.gs.low h.wf aa).2
theorem Qz3 {HC:Qa}{D E:Nat}{op:Int}{H:Qa}{w:Value}{d:List Ar}{A:Env}{H':Qa}{ks:Kp}{k:Env->Qa->Prop}{b:Ar}(al:CnL HC D op H w d A H')(aj:HC.next<=D)(aN:d.length<=100)(aJ:A 7=.pointer (some ⟨E,0,none⟩))(ai:H'.get E=some (.cells b.cells 58 false))
  (av:∀ (B:Env) (w':Value) (H2:Qa),CnL HC D op H w' (d++[b]) B H2->B 6=A 6->k B H2):Qm prog QBg ks k A H':=by
 obtain⟨ac,aG,r1,r2,r5,gD,ag,am⟩:=al;have aL:=ac.lt gD;have aK:b.cells.length=11:=rfl;have aD:List.take 11 b.cells=b.cells:=rfl;have an:Qxi 11 [.int .i64 0,.int .i64 0,.int .i64 0,.int .i64 0,.int .i64 0,.int .i64 0,.int .i64 0,.int .i64 0,.int .i64 0,.int .i64 0,.int .i64 0] [(0,.agg b.cells.toArray)]=some b.cells:=rfl;have aP:(b.cells.all λv=>v.oneCell')=true:=rfl;have aA:(b.cells.all (·.oneCell'))=true:=rfl;have aq:Qh [b]=b.cells:=by simp[Qh]
 generalize aM:b.cells=bc at *;have ax:0+11<=bc.length:=by omega
 have ay:11<=bc.length:=by omega
 simp only[QBg,QuD,Zg,Ym,JK,YN,QgF,QrI,QGO,QuE,QDB,QAW,NZ,Bq,QDw,Qq7,J9,VN,Nat.reduceBEq,bf,bt,r5,aJ,Qlv,QAU,gD,ai,Ls,Lq,an,QnT,aD,Qxj,QAV,LP,N9,Bg,Bp,Lw,ax,ay];have ar:(H'.push (.cells bc 58 false)).get H'.next=some (.cells bc 58 false):=by rw[Qc,Lc rfl]
 have aH:Ext HC (H'.push (.cells bc 58 false)):=aG.push _;have aE:=ac.push (.cells bc 58 false);have au:Gs 11 58 HC (H'.push (.cells bc 58 false)) w d.length (Qh d):=ag.ext λid ab=>by
  have:=(ag.low ac ab).2;rw[Qc,Le (by omega)]
 have ah:(H'.push (.cells bc 58 false)).get D=some (.cells [.int .i64 op,w] 24 false):=by rw[Qc,Le (by omega)];exact gD
 have ak:D<(H'.push (.cells bc 58 false)).next:=by rw[Qd];omega
 generalize (H'.push (.cells bc 58 false))=H1 at *;refine⟨w,rfl,trivial,?_⟩;refine QH6 au aH aE (QEj (c:=bc) ar (by decide) (by omega)) aA (Lb _) (by omega) (by omega) (by omega) ?_;intro q H2 aa aI aF aw aO az;have ad:H2.get D=some (.cells [.int .i64 op,w] 24 false):=by rw[aw D ak am];exact ah
 have ae:¬Qlg q D:=λhi=>by have:=az D hi;omega
 have aB:(([q]:List Value).all λx=>x.oneCell')=true:=by
  rcases aa with⟨rfl,_⟩ | ⟨b',rfl,_⟩
  ·rfl
  ·rfl
 have ao:q.cells.toList=[q]:=by
  rcases aa with⟨rfl,_⟩ | ⟨b',rfl,_⟩
  ·rfl
  ·rfl
 simp only[Zg,Ka,Ym,JK,YN,QgF,QrI,QAW,Qq7,J9,VN,Nat.reduceBEq,bf,bt,r5,Qlv,Ls,Lq,Qsh,QmM,ad,ao,LP];refine⟨⟨rfl,by simp,aB⟩,?_⟩;have aC:splice [Value.int .i64 op,w] 1 [q]=[.int .i64 op,q]:=rfl;rw[aC];refine av _ q _ ⟨aF.set ad _,aI.set aj _,?_,?_,?_,by rw[Qn,Lc rfl],?_,ae⟩ ?_
 ·simp only[Qg,simprocAttr,r1]
 ·simp only[Qg,simprocAttr,r2]
 ·simp only[Qg,simprocAttr,r5]
 ·rw[Lh,Qgm,aq];refine aa.ext λid ab=>?_;have:id≠D:=λh=>ae (by rw[<- h];exact ab);rw[Qn,Le this]
 ·simp only[Qg,simprocAttr]
section
variable {H:Qa} {op:Int} {l:List Ar} {a0:Option Addr} {cap:Nat}
theorem QF8 (aI:H.Wf)(aH:Qt H (.slice a0 l.length cap) l)(ba:l.length<=4)(aT:∀a∈l,I64 a.n)(aW:QO op l=0){HC:Qa}{D:Nat}(bn:HC.Wf)(ae:Ext H HC)(bm:HC.next=D)(aR:H.next+2<=D)
  (aC:HC.get H.next=some (.cells [.int .i64 op,.slice a0 l.length cap] 24 false)) (aN:HC.get (H.next+1)=some (.cells [.int .i64 0,.slice none 0 0] 24 false)) (A:Env) (H1:Qa) (aS:CnL HC D op H (.slice none 0 0) [] A H1) (ai:A 6=.int .i64 0):
  Qm prog (.seq (.block 0 (.loop Z0)) WE) ⟨KD H op l,WL⟩ (KD H op l) A H1:=by
 have aY:∀ (w:Value) (A:Env) (H':Qa),CnL HC D op H w (l.map (cF (QW op l))) A H'->Qm prog WE ⟨KD H op l,WL⟩ (KD H op l) A H':=by
  intro w A H' ⟨hw',hx,r1,r2,r5,gD,hgs,hap⟩;have bc:=hx.next;refine QEl (v:=.slice a0 l.length cap) (w:=w) (D:=D) (m:=l.map (cF (QW op l))) hw' ⟨⟨by have:=ae.next;omega,λid ab=>by rw[hx.get id (by have:=ae.next;omega)];exact ae.get id ab⟩,aR,r1,r2,r5,by rw[hx.get _ (by omega)];exact aC,by rw[hx.get _ (by omega)];exact aN,gD,QJC hgs (by decide),λid ab=>?_,λa n c e=>?_⟩ (by rw[Nn];exact ba) (QCH aW)
  ·have:=(hgs.low hw' ab).1;rcases Nq D id with h | h
   ·exact h
   ·exact absurd (by rw[show D=id by omega];exact ab) hap
  ·rcases hgs with⟨h,_⟩ | ⟨b,h,ac,am,_⟩
   ·rw[h]at e;cases e
   ·rw[h]at e;cases e;have:=ae.next;exact⟨by show H.next<=b;omega,by show b<H'.next;exact hw'.lt am⟩
 simp only[V5,Qfo];refine Qo (λm A' H'=>∃ (i:Nat) (w:Value),i<=l.length∧m=l.length - i∧CnL HC D op H w ((l.take i).map (cF (QW op l))) A' H'∧A' 6=.int .i64 i) l.length ?_ ?_
 ·exact⟨0,_,L7 _,by omega,aS,ai⟩
 ·rintro m A' H' ⟨i,w,hi,rfl,q,ai⟩;have bc:=q.x.next;have g0:H'.get H.next=some (.cells [.int .i64 op,.slice a0 l.length cap] 24 false):=by rw[q.x.get _ (by omega)];exact aC
  have aL:Ext H H':=⟨by have:=ae.next;omega,λid ab=>by rw[q.x.get id (by have:=ae.next;omega)];exact ae.get id ab⟩;simp(disch:=(first | omega | (simp only[hnP];try omega))) only[Z0,Qk,simprocAttr,q.r1,g0,ai]
  refine Qf (λac=>?_) (λac=>?_)
  ·have ac:i<l.length:=by have:=Lg ac;omega
   obtain⟨a,aA⟩:∃a,l[i]? = some a:=⟨_,La ac⟩;obtain⟨b,rfl,bo,⟨e,ro,aZ⟩,d1,d3,bj,bb,bp,bv,ei⟩:=atI aH aI aL (by omega) aA;have aV:=aT a (Ln aA);have aX:((l.take i).map (cF (QW op l))).length<=100:=by rw[Nn,Sb];omega
   have ah:∀ (B:Env) (w':Value) (H2:Qa),CnL HC D op H w' ((l.take i).map (cF (QW op l))++[cF (QW op l) a]) B H2->B 6=.int .i64 i->Qm prog (.ops [Om 25 (t 6),Ow 26 (.bin .add (t 25) (Ci 1)),Om 6 (t 26)]) ⟨KD H op l,exK 0 (Qm prog WE ⟨KD H op l,WL⟩ (KD H op l)) WL⟩ (Qsl (λm A' H'=>∃ (i:Nat) (w:Value),i<=l.length∧m=l.length - i∧CnL HC D op H w ((l.take i).map (cF (QW op l))) A' H'∧A' 6=.int .i64 i) (l.length - i)) B H2:=by
    intro B w' H2 ad ag;simp only[JL,simprocAttr,ag,ei];refine⟨l.length - (i+1),by omega,i+1,w',by omega,rfl,?_,?_⟩
    ·rw[Qp3 l i a aA,N6];exact⟨ad.wf,ad.x,by simp only[Qg,simprocAttr];exact ad.r1,by simp only[Qg,simprocAttr];exact ad.r2,by simp only[Qg,simprocAttr];exact ad.r5,ad.gD,ad.gs,ad.ap⟩
    ·simp only[Qg,simprocAttr]
   simp(disch:=(first | omega | (simp only[hnP];try omega))) only[QH9,Qk,simprocAttr,q.r1,g0,ai,d1,d3,aZ,bj,bb]
   refine(QjU a _).thenW ?_;rintro _ _ bd ak ⟨rfl,k,rfl⟩;have aF:=Qu3 a aV;have aE:cF (QW op l) a=if((Wx a).1.k==3)=true then {(Wx a).1 with n:=(WR (Wx a).1.n (QW op l).1 (QW op l).2).1} else(Wx a).1:=rfl
   rw[aE]at ah;clear aE;generalize (Wx a).1=ca at *;generalize (Wx a).2=er at *;have bq:H'.next<=k:=bd;have aU:∀ (B:Env) (H2:Qa),Ext (H'.up k) H2->H2.Wf->B 1=A' 1->B 2=A' 2->B 5=A' 5->CnL HC D op H w ((l.take i).map (cF (QW op l))) B H2:=λB H2 aa ak e1 e2 az=>q.ext ⟨by have:=aa.next;rw[Ql]at this;omega,λid ab=>by rw[aa.get id (by rw[Ql];omega),Zk]⟩ ak e1 e2 az;have aQ:∀H2:Qa,Ext (H'.up k) H2->H2.get H.next=some (.cells [.int .i64 op,.slice (some ⟨b,0,none⟩) l.length cap] 24 false):=λH2 aa=>by
    rw[aa.get _ (by rw[Ql];omega),Zk];exact g0
   have aG:∀ (ks:Kp) (b:Ar) (B:Env) (H2:Qa) (aB:Env->Qa->Prop),(∀ (B:Env) (w':Value) (H2:Qa),CnL HC D op H w' ((l.take i).map (cF (QW op l))++[b]) B H2->B 6=.int .i64 i->aB B H2)->Ext (H'.up k) H2->H2.Wf->B 1=A' 1->B 2=A' 2->B 5=A' 5->B 6=.int .i64 i->B 7=.pointer (some ⟨k,0,none⟩)->H2.get k=some (.cells b.cells 58 false)->Qm prog QBg ks aB B H2:=by
    intro ks b B H2 aB bi aa ak e1 e2 az aO aP gk;refine Qz3 (aU B H2 aa ak e1 e2 az) (by omega) aX aP gk ?_;intro B2 w' H3 aj ag;exact bi B2 w' H3 aj (ag.trans aO)
   obtain⟨ck,⟨av,aw⟩,⟨⟨ao,aq⟩,⟨ar,au⟩,ax,cd,ay⟩,al⟩:=ca
   try simp only at aF ah
   simp(disch:=(first | omega | (simp only[hnP];try omega))) only[Ar.cells,Qk,simprocAttr]
   have aM:∀C C',Ext (H'.up k) (((H'.up k).push (.cells C 58 false)).set k (.cells C' 58 false)):=λC C'=>((Ext.refl _).push _).set (by rw[Ql];exact Lb _) _;have aK:∀C C',(((H'.up k).push (.cells C 58 false)).set k (.cells C' 58 false)).Wf:=λC C'=>(ak.push _).set (b0:=.cells C 58 false) (by rw[Qc,Lc (by rw[Ql])]) _;have aD:∀C C',(((H'.up k).push (.cells C 58 false)).set k (.cells C' 58 false)).get k=some (.cells C' 58 false):=λC C'=>by rw[Qn,Lc rfl]
   generalize an:((H'.up k).push _).set k _=H2;have aa:Ext (H'.up k) H2:=by rw[<- an];exact aM _ _
   have aJ:H2.Wf:=by rw[<- an];exact aK _ _
   have gk:H2.get k=some (.cells [.int .i64 ck,.int .i64 av,.int .i64 aw,.int .i64 ao,.int .i64 aq,.int .i64 ar,.int .i64 au,.int .i64 ax,.int .i64 cd,.int .i64 ay,.int .i64 al] 58 false):=by rw[<- an];exact aD _ _
   clear an aM aK aD;cases am:ck==3 with
   | false=>
    rw[am]at ah;simp only[V5,KJ,QhX,Qq7,J9,VN,Nat.reduceBEq,bf,bt,Qfp,Qep,Ls,Lq];refine aG _ ⟨ck,⟨av,aw⟩,⟨⟨ao,aq⟩,⟨ar,au⟩,ax,cd,ay⟩,al⟩ _ _ _ ?_ aa aJ ?_ ?_ ?_ ?_ ?_ gk
    ·intro B w' H3 aj ag;exact ah B w' H3 (by simpa using aj) ag
    all_goals simp only[Qg,simprocAttr,ai]
   | true=>
    rw[am]at ah;have bh:=aa.next;rw[Ql]at bh;simp(disch:=(first | omega | (simp only[hnP];try omega))) only[ZZ,Qk,simprocAttr,q.r1,aQ H2 aa]
    refine(Qed op _ l H2 (aH.ext aI ⟨by omega,λid ab=>by rw[aa.get id (by rw[Ql];omega),Zk];exact aL.get id ab⟩) (by omega)).thenW ?_;rintro _ _ bg bw ⟨rfl,k4,rfl⟩;have br:=aJ.lt gk;simp(disch:=(first | omega | (simp only[hnP];try omega))) only[Qk,simprocAttr,gk]
    refine(Qf6 al _ _ aF _).thenW ?_;rintro _ _ bu bk ⟨rfl,rfl⟩;simp only[Ym,Zg,Ka,JK,QDr,QDs,QDt,QrI,Qlv,QAW,Qsh,QmM,Zk,gk,Qkb,Qq7,J9,VN,YN,QgF,Nat.reduceBEq,bf,bt,Ls,Lq,LP,QmO];refine⟨⟨rfl,by simp,rfl⟩,?_⟩;refine aG _ ⟨ck,⟨av,aw⟩,⟨⟨ao,aq⟩,⟨ar,au⟩,ax,cd,ay⟩,(WR al (QW op l).1 (QW op l).2).1⟩ _ _ _ ?_ ((aa.up bg).set (by rw[Ql];exact Lb _) _) (bk.set (by rw[Zk];exact gk) _) ?_ ?_ ?_ ?_ ?_ ?_
    ·intro B w' H3 aj ag;exact ah B w' H3 (by simpa using aj) ag
    all_goals (try simp only[Qg,simprocAttr,ai])
    rw[Qn,Lc rfl];rfl
  ·have ac:i=l.length:=by have:=Ll ac;omega
   subst ac;rw[Nr]at q;simp only[JL,simprocAttr];refine aY w _ _ ⟨q.wf,q.x,?_,?_,?_,q.gD,q.gs,q.ap⟩
   ·simp only[Qg,simprocAttr];exact q.r1
   ·simp only[Qg,simprocAttr];exact q.r2
   ·simp only[Qg,simprocAttr];exact q.r5
end
theorem Qui (op:Int)(v:Value)(l:List Ar)(H:Qa)(ac:Qt H v l)(an:l.length<=1000)(ag:∀a∈l,I64 a.n):Qe prog 80 [.agg #[.int .i64 op,v]] H (QJD op l H):=by
 refine Qh7 λad=>?_;obtain⟨a0,cap,rfl⟩:=Qu ac;simp(disch:=(first | omega | (simp only[hnP];try omega))) only[QaM,Qk,simprocAttr]
 generalize q:(H.push _).push _=H1;have ae:Ext H H1:=by rw[<- q];exact((Ext.refl H).push _).push _
 have aq:H1.next=H.next+2:=by rw[<- q];rfl
 have g0:H1.get H.next=some (.cells [.int .i64 op,.slice a0 l.length cap] 24 false):=by rw[<- q,Qc,Le (by rw[Qd];omega),Qc,Lc rfl]
 have g1:H1.get (H.next+1)=some (.cells [.int .i64 0,.slice none 0 0] 24 false):=by rw[<- q,Qc,Lc (by rw[Qd])]
 have ax:H1.Wf:=by rw[<- q];exact(ad.push _).push _
 clear q;refine(Qgk op _ l H1 (ac.ext ad ae) an ag).thenW ?_;rintro _ _ ab aj ⟨rfl,k,rfl⟩;have am:H.next+2<=k:=by rw[<- aq];exact ab
 cases aa:QO op l==0 with
 | false=>
  simp(disch:=(first | omega | (simp only[hnP];try omega))) only[Qk,simprocAttr,aa,g1,Qac]
  have ai:=QCI aa;have ak:Ext H ((H1.up k).set (H.next+1) (.cells [.int .i64 0,.slice none 0 0] 24 false)):=(ae.up ab).set (by omega) _;refine .mk ak.next ⟨ak,_,by rw[ai],?_,λa n c e=>by cases e⟩;rw[ai];exact⟨none,0,rfl,λh=>absurd h (NX 0)⟩
 | true=>
  have al:QO op l=0:=L0.1 aa;simp(disch:=(first | omega | (simp only[hnP];try omega))) only[G5,Qk,simprocAttr,aa,g0]
  have ao:l.length<=4:=QiE aa;have ah:=λA ar au av aw=>QF8 (op:=op) ad ac ao ag al (HC:=H1.up k) (D:=k) aj (ae.up ab) rfl am (by rw[Zk];exact g0) (by rw[Zk];exact g1) A (((H1.up k).push (.cells [.int .i64 0,.slice none 0 0] 24 false)).set k (.cells [.int .i64 op,.slice none 0 0] 24 false)) ⟨(aj.push _).set (b0:=.cells [.int .i64 0,.slice none 0 0] 24 false) (by rw[Qc,Lc (by rw[Ql])]) _,((Ext.refl _).push _).set (by rw[Ql];exact Lb _) _,ar,au,av,by rw[Qn,Lc rfl],.inl ⟨rfl,rfl,rfl⟩,fun⟨_,_,_,h⟩=>by cases h⟩ aw;simp only[V5,Qfo]at ah;refine ah _ ?_ ?_ ?_ ?_
  all_goals simp only[Qg,simprocAttr]
end Go.Proofs.YtgepgbbjfhggfaaGreatDoor.code
