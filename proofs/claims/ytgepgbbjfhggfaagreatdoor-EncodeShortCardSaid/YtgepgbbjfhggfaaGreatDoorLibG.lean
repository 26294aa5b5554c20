/- Whether a register is valid: the document's answer. -/
import Derived.Test.YtgepgbbjfhggfaaGreatDoorLibI
import Derived.Test.YtgepgbbjfhggfaaGreatDoorAbD
set_option linter.unusedVariables false
set_option linter.unusedSimpArgs false
set_option maxRecDepth 100000
set_option maxHeartbeats 4000000
noncomputable section
namespace Go.Proofs.YtgepgbbjfhggfaaGreatDoor.code
open Go.Ab
theorem W6 (r:Rg)(H:Qa):Qe prog 76 [.agg r.cells.toArray] H λu H'=>u=.bool (XF r)∧∃k,H'=H.up k:=by
 refine QhY λhw=>?_;obtain⟨c,n⟩:=r;simp(disch:=(first | omega | (simp only[hnP];try omega))) only[Rg.cells,QaI,Yq,Yr,Ys,Yt,Yu,Qk,simprocAttr,Jk]
 repeat' (first
   | (refine Qp (λh=>?_) (λh=>?_)<;>(try simp only[Lr,Lu]at h)<;>simp(disch:=(first | omega | (simp only[hnP];try omega))) only[Yq,Yr,Ys,Yt,Yu,Qk,simprocAttr,Jk,h])
   | (refine Qf (λh=>?_) (λh=>?_)<;>(try simp only[Lr,Lu]at h)<;>simp(disch:=(first | omega | (simp only[hnP];try omega))) only[Yq,Yr,Ys,Yt,Yu,Qk,simprocAttr,Jk,h])
   | (with_reducible refine⟨by simp[Qh,plain],by omega,?_⟩)
   | (with_reducible refine⟨by simp[Qh,plain],?_⟩)
   | fail)
 all_goals refine .ext hw ?_ ⟨?_,_,rfl⟩
 all_goals try (repeat' (first | exact Ext.refl _ | refine Ext.push ?_ _ | refine Ext.up ?_ (by simp only[Qc,Qt,Ql];omega) | refine Ext.set ?_ (by omega) _))
 all_goals (simp_all [XF,Qjp];try first | omega | (rw[Ni];simp;omega))
theorem Gh (r:Rg)(H:Qa):Qe prog 117 [.agg r.cells.toArray] H λu H'=>u=.bool (isR r 0 0)∧∃k,H'=H.up k:=by
 refine Qjl λhw=>?_;obtain⟨c,n⟩:=r;simp(disch:=(first | omega | (simp only[hnP];try omega))) only[Rg.cells,QbT,Qk,simprocAttr,Qr,JJ]
 repeat' (first
   | (refine Qp (λh=>?_) (λh=>?_)<;>(try simp only[Lr,Lu]at h)<;>simp(disch:=(first | omega | (simp only[hnP];try omega))) only[Qk,simprocAttr,Qr,JJ,h])
   | (refine Qf (λh=>?_) (λh=>?_)<;>(try simp only[Lr,Lu]at h)<;>simp(disch:=(first | omega | (simp only[hnP];try omega))) only[Qk,simprocAttr,Qr,JJ,h])
   | (with_reducible refine⟨by simp[Qh,plain],by omega,?_⟩)
   | (with_reducible refine⟨by simp[Qh,plain],?_⟩)
   | fail)
 all_goals refine .ext hw ?_ ⟨?_,_,rfl⟩
 all_goals try (repeat' (first | exact Ext.refl _ | refine Ext.push ?_ _ | refine Ext.up ?_ (by simp only[Qc,Qt,Ql];omega) | refine Ext.set ?_ (by omega) _))
 all_goals simp[isR]
theorem Qdj (r:Rg)(H:Qa):Qe prog 118 [.agg r.cells.toArray] H λu H'=>u=.bool (JC r)∧∃k,H'=H.up k:=by
 refine Qjm λhw=>?_;have q1:=W6 r;have hs:JC r=((r.c==5)&&XF r):=rfl;rw[hs];clear hs;generalize XF r=v at *;obtain⟨c,n⟩:=r;simp only[Rg.cells]at q1;simp(disch:=(first | omega | (simp only[hnP];try omega))) only[Rg.cells,QbU,Qk,simprocAttr,Y2]
 repeat' (first
   | (refine Qp (λh=>?_) (λh=>?_)<;>(try simp only[Lr,Lu]at h)<;>simp(disch:=(first | omega | (simp only[hnP];try omega))) only[Qk,simprocAttr,Y2,h])
   | (refine Qf (λh=>?_) (λh=>?_)<;>(try simp only[Lr,Lu]at h)<;>simp(disch:=(first | omega | (simp only[hnP];try omega))) only[Qk,simprocAttr,Y2,h])
   | (refine(q1 _).thenW ?_;rintro _ _ hn hw2 ⟨rfl,k,rfl⟩;(try simp only[Qc,Ql,Qt]at hn);simp(disch:=(first | omega | (simp only[hnP];try omega))) only[Qk,simprocAttr,Y2])
   | (with_reducible refine⟨by simp[Qh,plain],by omega,?_⟩)
   | (with_reducible refine⟨by simp[Qh,plain],?_⟩)
   | fail)
 all_goals refine .ext hw ?_ ⟨?_,_,rfl⟩
 all_goals try (repeat' (first | exact Ext.refl _ | refine Ext.push ?_ _ | refine Ext.up ?_ (by simp only[Qc,Qt,Ql];omega) | refine Ext.set ?_ (by omega) _))
 all_goals simp_all
theorem QsO (n:Int)(l:List Int)(v:Value)(H:Qa)(hv:Qdw H v l.length (ints l))(hl:l.length<=1000):Qe prog 116 [.int .i64 n,v] H λu H'=>u=.bool (l.contains n)∧H'=H:=by
 refine QlB λhw=>?_;obtain⟨a,cap,rfl,hb⟩:=hv;simp only[QdI,Qb,simprocAttr];refine Qo (λm A' H'=>∃i:Nat,m+i=l.length∧H'=H∧(l.contains n=(l.drop i).contains n)∧A' 0=.int .i64 n∧A' 1=.slice a l.length cap∧A' 5=.int .i64 i) l.length ?_ ?_
 ·refine⟨0,rfl,rfl,rfl,?_,?_,?_⟩
  all_goals simp only[uxA,uxB,Nat.reduceBEq]
  rfl
 ·rintro m A' H1 ⟨i,hm,rfl,hc,r0,r1,r5⟩
  by_cases hi:i<l.length
  ·obtain⟨b,e,ro,rfl,hg⟩:=hb (by omega);have d1:decide ((i:Int)<(l.length:Int))=true:=Lp (by omega);have wi:IntKind.i64.wrap ((i:Int)+1)=((i+1:Nat):Int):=by rw[w64 (by unfold I64;omega)];rfl
   have c2:(0:Int)<=(i:Int)∧(i:Int)<(l.length:Int):=by omega
   have c3:(i:Int).toNat=i:=LG _;have hg2:=Zh hi;have hd:l.drop i=l.getD i 0::l.drop (i+1):=by
    rw[Nh hi,LX,La hi];rfl
   rw[hd,List.contains_cons]at hc;simp only[Kn,QbS,Qb,simprocAttr,r0,r1,r5,d1,c2,c3,hg,hg2,Nf];refine Qf (λh=>?_) (λh=>?_)
   ·have h2:(n==l.getD i 0)=true:=by rw[Bool.beq_comm];exact h
    rw[h2,N1]at hc;simp only[Qb,simprocAttr,h,QcY];exact .mk (Lb _) ⟨by rw[hc],rfl⟩
   ·have h2:(n==l.getD i 0)=false:=by rw[Bool.beq_comm];exact h
    rw[h2,Nt]at hc;simp only[Qb,simprocAttr,h,r5,wi];refine⟨m - 1,by omega,i+1,by omega,rfl,hc,?_,?_,?_⟩
    all_goals simp only[Qg,simprocAttr,r0,r1]
  ·have d1:decide ((i:Int)<(l.length:Int))=false:=Lj (by omega);have hn:l.drop i=[]:=NR (by omega);rw[hn]at hc;simp only[Kn,Qb,simprocAttr,r1,r5,d1,QcY];exact .mk (Lb _) ⟨by rw[hc];rfl,rfl⟩
theorem QIB (n:Int){b:Nat}{H:Qa}(hg:H.get b=some (.cells [.int .i64 0,.int .i64 1,.int .i64 2,.int .i64 4,.int .i64 8,.int .i64 16,.int .i64 32] 3 false)):Qe prog 116 [.int .i64 n,.slice (some ⟨b,0,none⟩) 7 7] H λu H'=>u=.bool (Ko n)∧H'=H:=by
 refine(QsO n [0,1,2,4,8,16,32] _ H ⟨_,_,rfl,λ_=>⟨_,_,_,rfl,hg⟩⟩ (by decide)).mono ?_;rintro _ _ ⟨rfl,rfl⟩;refine⟨?_,rfl⟩;congr 1;unfold Ko;simp only[List.contains_cons,List.contains_nil,NI,FP]
theorem QIC (n:Int){b:Nat}{H:Qa}(hg:H.get b=some (.cells [.int .i64 1,.int .i64 2,.int .i64 4,.int .i64 8] 3 false)):Qe prog 116 [.int .i64 n,.slice (some ⟨b,0,none⟩) 4 4] H λu H'=>u=.bool (XD n)∧H'=H:=by
 refine(QsO n [1,2,4,8] _ H ⟨_,_,rfl,λ_=>⟨_,_,_,rfl,hg⟩⟩ (by decide)).mono ?_;rintro _ _ ⟨rfl,rfl⟩;refine⟨?_,rfl⟩;congr 1;unfold XD;simp only[List.contains_cons,List.contains_nil,NI,FP]
theorem Qck (m:Mm)(H:Qa):Qe prog 77 [.agg m.cells.toArray] H λu H'=>u=.int .i64 (Qw m)∧∃k,H'=H.up k:=by
 refine QhZ λhw=>?_;have hs:Qw m=(if(decide (m.d < -2147483648)||decide (m.d>2147483647))=true then 5
  else if Ko m.sz=false then 2
  else if(!isR m.b 0 0&&!isR m.b 8 0&&!JC m.b)=true then 2
  else if(isR m.i 0 0&&!(m.sc==0))=true then 2
  else if isR m.i 0 0=true then 0
  else if(!JC m.i||!XD m.sc||isR m.b 8 0)=true then 2
  else if(isR m.i 5 4&&(!(m.sc==1)||isR m.b 5 4))=true then 2
  else 0):=rfl
 rw[hs];clear hs;have n1:=Gh m.b;have n2:=Gh m.i;have w1:=Qdj m.b;have w2:=Qdj m.i;have i7:=@QIB m.sz;have i4:=@QIC m.sc;generalize Ko m.sz=zs at *;generalize XD m.sc=zc at *;generalize JC m.b=wb at *;generalize JC m.i=wi at *;obtain⟨⟨bc,bn⟩,⟨ic,nn⟩,sc,d,sz⟩:=m;simp only[Rg.cells]at n1 n2 w1 w2;simp(disch:=(first | omega | (simp only[hnP];try omega))) only[Mm.cells,QaJ,QN,QO,QP,QQ,QR,QS,Qk,simprocAttr,Qr,QY]
 repeat' (first
   | (refine Qp (λh=>?_) (λh=>?_)<;>(try simp only[Lr,Lu]at h)<;>simp(disch:=(first | omega | (simp only[hnP];try omega))) only[QN,QO,QP,QQ,QR,QS,Qk,simprocAttr,Qr,QY,h])
   | (refine Qf (λh=>?_) (λh=>?_)<;>(try simp only[Lr,Lu]at h)<;>simp(disch:=(first | omega | (simp only[hnP];try omega))) only[QN,QO,QP,QQ,QR,QS,Qk,simprocAttr,Qr,QY,h])
   | (refine(n1 _).thenW ?_;rintro _ _ hn hw2 ⟨rfl,k,rfl⟩;(try simp only[Qc,Ql,Qt]at hn);simp(disch:=(first | omega | (simp only[hnP];try omega))) only[QN,QO,QP,QQ,QR,QS,Qk,simprocAttr,Qr,QY])
   | (refine(n2 _).thenW ?_;rintro _ _ hn hw2 ⟨rfl,k,rfl⟩;(try simp only[Qc,Ql,Qt]at hn);simp(disch:=(first | omega | (simp only[hnP];try omega))) only[QN,QO,QP,QQ,QR,QS,Qk,simprocAttr,Qr,QY])
   | (refine(w1 _).thenW ?_;rintro _ _ hn hw2 ⟨rfl,k,rfl⟩;(try simp only[Qc,Ql,Qt]at hn);simp(disch:=(first | omega | (simp only[hnP];try omega))) only[QN,QO,QP,QQ,QR,QS,Qk,simprocAttr,Qr,QY])
   | (refine(w2 _).thenW ?_;rintro _ _ hn hw2 ⟨rfl,k,rfl⟩;(try simp only[Qc,Ql,Qt]at hn);simp(disch:=(first | omega | (simp only[hnP];try omega))) only[QN,QO,QP,QQ,QR,QS,Qk,simprocAttr,Qr,QY])
   | (refine(i7 (by simp(disch:=(first | omega | (simp only[hnP];try omega))) only[Qr8,simprocAttr];done)).thenW ?_;rintro _ _ hn hw2 ⟨rfl,rfl⟩;(try simp only[Qc,Ql,Qt]at hn);simp(disch:=(first | omega | (simp only[hnP];try omega))) only[QN,QO,QP,QQ,QR,QS,Qk,simprocAttr,Qr,QY])
   | (refine(i4 (by simp(disch:=(first | omega | (simp only[hnP];try omega))) only[Qr8,simprocAttr];done)).thenW ?_;rintro _ _ hn hw2 ⟨rfl,rfl⟩;(try simp only[Qc,Ql,Qt]at hn);simp(disch:=(first | omega | (simp only[hnP];try omega))) only[QN,QO,QP,QQ,QR,QS,Qk,simprocAttr,Qr,QY])
   | (with_reducible refine⟨by simp[Qh,plain],by omega,?_⟩)
   | (with_reducible refine⟨by simp[Qh,plain],?_⟩)
   | fail)
 all_goals refine .ext hw ?_ ⟨?_,_,rfl⟩
 all_goals try (repeat' (first | exact Ext.refl _ | refine Ext.push ?_ _ | refine Ext.up ?_ (by simp only[Qc,Qt,Ql];omega) | refine Ext.set ?_ (by omega) _))
 all_goals clear n1 n2 w1 w2 i7 i4
 all_goals first | (simp_all [isR];done) | (simp_all [isR];(repeat' split)<;>first | rfl | omega | (simp_all;done) | (exfalso;simp_all;omega))
theorem Qzy {m:Mm}(h:Qw m=0)(hs:(m.sc==1)=true):isR m.i 0 0=false:=by
 have hs:=L0.1 hs;cases hi:isR m.i 0 0 with
 | false=>rfl
 | true=>
  exfalso;unfold Qw at h;rw[hi,hs]at h
  repeat' (split at h)
  all_goals first | omega | (rename_i h9;simp at h9;done) | simp_all
def QvO (m:Mm):Mm:=if(m.sc==1)=false then m else if isR m.b 0 0=true then⟨m.i,⟨0,0⟩,0,m.d,m.sz⟩ else if(m.i.n==4)=true then⟨m.i,m.b,m.sc,m.d,m.sz⟩ else m
theorem Qzz (m:Mm):Qa3 m=if Qw m=0 then(QvO m,0) else(J7,Qw m):=by
 unfold Qa3
 by_cases h:Qw m=0
 ·rw[Lc h,Lc h];congr 1;unfold Y4 QvO;cases hs:m.sc==1 with
  | false=>simp
  | true=>rw[Qzy h hs];simp
 ·rw[Le h,Le h]
theorem Qcl (m:Mm)(H:Qa):Qe prog 255 [.agg m.cells.toArray] H λu H'=>u=.tuple #[.agg (Qa3 m).1.cells.toArray,.int .i64 (Qa3 m).2]∧∃k,H'=H.up k:=by
 refine Qh3 λhw=>?_;have q:=Qck m;have n1:=Gh m.b;have hmc:QvO m=if(m.sc==1)=false then m else if isR m.b 0 0=true then⟨m.i,⟨0,0⟩,0,m.d,m.sz⟩ else if(m.i.n==4)=true then⟨m.i,m.b,m.sc,m.d,m.sz⟩ else m:=rfl
 rw[Qzz,hmc];clear hmc;generalize Qw m=e at *;obtain⟨⟨bc,bn⟩,⟨ic,nn⟩,sc,d,sz⟩:=m;simp only[Mm.cells]at q;simp only[Rg.cells]at n1;simp(disch:=(first | omega | (simp only[hnP];try omega))) only[Mm.cells,QaM,WE,WF,WG,WH,Qk,simprocAttr,Qr,Xq]
 repeat' (first
   | (refine Qp (λh=>?_) (λh=>?_)<;>(try simp only[Lr,Lu]at h)<;>simp(disch:=(first | omega | (simp only[hnP];try omega))) only[WE,WF,WG,WH,Qk,simprocAttr,Qr,Xq,h])
   | (refine Qf (λh=>?_) (λh=>?_)<;>(try simp only[Lr,Lu]at h)<;>simp(disch:=(first | omega | (simp only[hnP];try omega))) only[WE,WF,WG,WH,Qk,simprocAttr,Qr,Xq,h])
   | (refine(q _).thenW ?_;rintro _ _ hn hw2 ⟨rfl,k,rfl⟩;(try simp only[Qc,Ql,Qt]at hn);simp(disch:=(first | omega | (simp only[hnP];try omega))) only[WE,WF,WG,WH,Qk,simprocAttr,Qr,Xq])
   | (refine(n1 _).thenW ?_;rintro _ _ hn hw2 ⟨rfl,k,rfl⟩;(try simp only[Qc,Ql,Qt]at hn);simp(disch:=(first | omega | (simp only[hnP];try omega))) only[WE,WF,WG,WH,Qk,simprocAttr,Qr,Xq])
   | (with_reducible refine⟨by simp[Qh,plain],by omega,?_⟩)
   | (with_reducible refine⟨by simp[Qh,plain],?_⟩)
   | fail)
 all_goals refine .ext hw ?_ ⟨?_,_,rfl⟩
 all_goals try (repeat' (first | exact Ext.refl _ | refine Ext.push ?_ _ | refine Ext.up ?_ (by simp only[Qc,Qt,Ql];omega) | refine Ext.set ?_ (by omega) _))
 all_goals clear q n1
 all_goals first | (simp_all [isR,J7,Mm.cells];done) | (simp_all [isR,J7,Mm.cells];(repeat' split)<;>first | rfl | (simp_all;done) | omega)
theorem Zo (a:Ar)(H:Qa):Qe prog 53 [.agg a.cells.toArray] H λu H'=>u=.int .i64 (Wn a)∧∃k,H'=H.up k:=by
 refine QhW λhw=>?_;have q1:=W6 a.r;have q2:=Qck a.m;have hs:Wn a=(if(a.k==1)=true then(if(!XF a.r||a.r.c==8)=true then 2 else 0)
 else if(a.k==2)=true then Qw a.m
 else if(a.k==3)=true then 0
 else if(a.k==4)=true then(if(decide (a.n < -2147483648)||decide (2147483647<a.n))=true then 5 else 0)
 else 2):=rfl
 rw[hs];clear hs;generalize XF a.r=v at *;generalize Qw a.m=e at *;obtain⟨k,⟨rc,rn⟩,⟨⟨bc,bn⟩,⟨ic,nn⟩,sc,d,sz⟩,n⟩:=a;simp only[Rg.cells,Mm.cells]at q1 q2;simp(disch:=(first | omega | (simp only[hnP];try omega))) only[Ar.cells,QaH,Wv,Ww,Wx,Wy,Wz,Qk,simprocAttr,Xh]
 repeat' (first
   | (refine Qp (λh=>?_) (λh=>?_)<;>(try simp only[Lr,Lu]at h)<;>simp(disch:=(first | omega | (simp only[hnP];try omega))) only[Wv,Ww,Wx,Wy,Wz,Qk,simprocAttr,Xh,h])
   | (refine Qf (λh=>?_) (λh=>?_)<;>(try simp only[Lr,Lu]at h)<;>simp(disch:=(first | omega | (simp only[hnP];try omega))) only[Wv,Ww,Wx,Wy,Wz,Qk,simprocAttr,Xh,h])
   | (refine(q1 _).thenW ?_;rintro _ _ hn hw2 ⟨rfl,k,rfl⟩;(try simp only[Qc,Ql,Qt]at hn);simp(disch:=(first | omega | (simp only[hnP];try omega))) only[Wv,Ww,Wx,Wy,Wz,Qk,simprocAttr,Xh])
   | (refine(q2 _).thenW ?_;rintro _ _ hn hw2 ⟨rfl,k,rfl⟩;(try simp only[Qc,Ql,Qt]at hn);simp(disch:=(first | omega | (simp only[hnP];try omega))) only[Wv,Ww,Wx,Wy,Wz,Qk,simprocAttr,Xh])
   | (with_reducible refine⟨by simp[Qh,plain],by omega,?_⟩)
   | (with_reducible refine⟨by simp[Qh,plain],?_⟩)
   | fail)
 all_goals refine .ext hw ?_ ⟨?_,_,rfl⟩
 all_goals try (repeat' (first | exact Ext.refl _ | refine Ext.push ?_ _ | refine Ext.up ?_ (by simp only[Qc,Qt,Ql];omega) | refine Ext.set ?_ (by omega) _))
 all_goals clear q1 q2
 all_goals simp_all
theorem QjM (a:Ar)(H:Qa):Qe prog 120 [.agg a.cells.toArray] H λu H'=>u=.tuple #[.agg (Wu a).1.cells.toArray,.int .i64 (Wu a).2]∧∃k,H'=H.up k:=by
 refine Qh2 λhw=>?_;have q1:=Zo a;have q2:=Qcl a.m;have hm:=@Qnd a;have hcc:Qa3 a.m=if Qw a.m=0 then(Y4 a.m,0) else(J7,Qw a.m):=rfl
 have hce:Wu a=if(Wn a==0)=true then(QdD a,0) else(Wc,Wn a):=rfl
 rw[hce];rw[hcc]at q2;clear hce hcc;generalize Wn a=e at *;generalize Qw a.m=f at *;have hca:QdD a=if(a.k==1)=true then⟨a.k,a.r,J7,0⟩ else if(a.k==2)=true then⟨a.k,⟨0,0⟩,Y4 a.m,0⟩ else⟨a.k,⟨0,0⟩,J7,a.n⟩:=rfl
 rw[hca];clear hca;generalize Y4 a.m=mc at *;obtain⟨k,⟨rc,rn⟩,⟨⟨bc,bn⟩,⟨ic,nn⟩,sc,d,sz⟩,n⟩:=a;obtain⟨⟨mb,mbn⟩,⟨mi,min⟩,msc,md,msz⟩:=mc;simp only[Ar.cells,Mm.cells]at q1 q2 hm;simp(disch:=(first | omega | (simp only[hnP];try omega))) only[Ar.cells,QaL,WC,WD,Qk,simprocAttr,Xp]
 repeat' (first
   | (refine Qp (λh=>?_) (λh=>?_)<;>(try simp only[Lr,Lu]at h)<;>simp(disch:=(first | omega | (simp only[hnP];try omega))) only[WC,WD,Qk,simprocAttr,Xp,h])
   | (refine Qf (λh=>?_) (λh=>?_)<;>(try simp only[Lr,Lu]at h)<;>simp(disch:=(first | omega | (simp only[hnP];try omega))) only[WC,WD,Qk,simprocAttr,Xp,h])
   | (refine(q1 _).thenW ?_;rintro _ _ hn hw2 ⟨rfl,k,rfl⟩;(try simp only[Qc,Ql,Qt]at hn);simp(disch:=(first | omega | (simp only[hnP];try omega))) only[WC,WD,Qk,simprocAttr,Xp])
   | (refine(q2 _).thenW ?_;rintro _ _ hn hw2 ⟨rfl,k,rfl⟩;(try simp only[Qc,Ql,Qt]at hn);simp(disch:=(first | omega | (simp only[hnP];try omega))) only[WC,WD,Qk,simprocAttr,Xp])
   | (with_reducible refine⟨by simp[Qh,plain],by omega,?_⟩)
   | (with_reducible refine⟨by simp[Qh,plain],?_⟩)
   | fail)
 all_goals refine .ext hw ?_ ⟨?_,_,rfl⟩
 all_goals try (repeat' (first | exact Ext.refl _ | refine Ext.push ?_ _ | refine Ext.up ?_ (by simp only[Qc,Qt,Ql];omega) | refine Ext.set ?_ (by omega) _))
 all_goals simp_all [Wc,J7,Ar.cells,Mm.cells]
theorem Qk0 (r:Rg)(H:Qa):Qe prog 119 [.agg r.cells.toArray] H λu H'=>u=.int .i64 (QgR r)∧∃k,H'=H.up k:=by
 refine Qjn λhw=>?_;have q1:=W6 r;have hs:QgR r=if XF r=false then 0 else if r.c=7 then 32 else if r.c=6 then 16 else if r.c=5∨r.c=8 then 8 else if r.c=4 then 4 else if r.c=3 then 2 else 1:=rfl
 rw[hs];clear hs;generalize XF r=v at *;obtain⟨c,n⟩:=r;simp only[Rg.cells]at q1;simp(disch:=(first | omega | (simp only[hnP];try omega))) only[Rg.cells,QbV,Xj,Xl,Xm,Xn,Xo,Qk,simprocAttr,Y3]
 repeat' (first
   | (refine Qp (λh=>?_) (λh=>?_)<;>(try simp only[Lr,Lu]at h)<;>simp(disch:=(first | omega | (simp only[hnP];try omega))) only[Xj,Xl,Xm,Xn,Xo,Qk,simprocAttr,Y3,h])
   | (refine Qf (λh=>?_) (λh=>?_)<;>(try simp only[Lr,Lu]at h)<;>simp(disch:=(first | omega | (simp only[hnP];try omega))) only[Xj,Xl,Xm,Xn,Xo,Qk,simprocAttr,Y3,h])
   | (refine(q1 _).thenW ?_;rintro _ _ hn hw2 ⟨rfl,k,rfl⟩;(try simp only[Qc,Ql,Qt]at hn);simp(disch:=(first | omega | (simp only[hnP];try omega))) only[Xj,Xl,Xm,Xn,Xo,Qk,simprocAttr,Y3])
   | (with_reducible refine⟨by simp[Qh,plain],by omega,?_⟩)
   | (with_reducible refine⟨by simp[Qh,plain],?_⟩)
   | fail)
 all_goals refine .ext hw ?_ ⟨?_,_,rfl⟩
 all_goals try (repeat' (first | exact Ext.refl _ | refine Ext.push ?_ _ | refine Ext.up ?_ (by simp only[Qc,Qt,Ql];omega) | refine Ext.set ?_ (by omega) _))
 all_goals clear q1
 all_goals first | (simp_all;done) | (simp_all;omega)
theorem Qk1 (a:Ar)(H:Qa):Qe prog 79 [.agg a.cells.toArray] H λu H'=>u=.int .i64 (QkC a)∧∃k,H'=H.up k:=by
 refine Qjj λhw=>?_;have q1:=Zo a;have q2:=Qk0 a.r;have hs:QkC a=if(Wn a==0)=true then(if(a.k==1)=true then QgR a.r else if(a.k==2)=true then a.m.sz else 0) else 0:=rfl
 rw[hs];clear hs;generalize Wn a=e at *;generalize QgR a.r=sr at *;obtain⟨k,⟨rc,rn⟩,⟨⟨bc,bn⟩,⟨ic,nn⟩,sc,d,sz⟩,n⟩:=a;simp only[Ar.cells,Rg.cells]at q1 q2;simp(disch:=(first | omega | (simp only[hnP];try omega))) only[Ar.cells,QbQ,WM,WN,Qk,simprocAttr,XJ]
 repeat' (first
   | (refine Qp (λh=>?_) (λh=>?_)<;>(try simp only[Lr,Lu]at h)<;>simp(disch:=(first | omega | (simp only[hnP];try omega))) only[WM,WN,Qk,simprocAttr,XJ,h])
   | (refine Qf (λh=>?_) (λh=>?_)<;>(try simp only[Lr,Lu]at h)<;>simp(disch:=(first | omega | (simp only[hnP];try omega))) only[WM,WN,Qk,simprocAttr,XJ,h])
   | (refine(q1 _).thenW ?_;rintro _ _ hn hw2 ⟨rfl,k,rfl⟩;(try simp only[Qc,Ql,Qt]at hn);simp(disch:=(first | omega | (simp only[hnP];try omega))) only[WM,WN,Qk,simprocAttr,XJ])
   | (refine(q2 _).thenW ?_;rintro _ _ hn hw2 ⟨rfl,k,rfl⟩;(try simp only[Qc,Ql,Qt]at hn);simp(disch:=(first | omega | (simp only[hnP];try omega))) only[WM,WN,Qk,simprocAttr,XJ])
   | (with_reducible refine⟨by simp[Qh,plain],by omega,?_⟩)
   | (with_reducible refine⟨by simp[Qh,plain],?_⟩)
   | fail)
 all_goals refine .ext hw ?_ ⟨?_,_,rfl⟩
 all_goals try (repeat' (first | exact Ext.refl _ | refine Ext.push ?_ _ | refine Ext.up ?_ (by simp only[Qc,Qt,Ql];omega) | refine Ext.set ?_ (by omega) _))
 all_goals clear q1 q2
 all_goals simp_all
theorem QcP (op:Int)(H:Qa):Qe prog 52 [.int .i64 op] H λu H'=>u=.bool (Y5 op)∧H'=H:=by
 refine QhV λhw=>?_;simp only[QaG,Qb,simprocAttr];unfold Y5;cases h1:decide (1<=op)
 all_goals cases h2:decide (op<=322)
 all_goals (simp only[Qb,simprocAttr,h1,h2,QgD,Be,NJ,LJ,NG,Bj];exact .mk (Lb _) ⟨rfl,rfl⟩)
def QoV (n all:Int)(sg:Bool):Int×Int:=
 if(decide (n < -(all / 2))||decide (all<=n))=true then(0,5)
 else if(sg&&decide (all / 2<=n))=true then(n - all,0)
 else if(!sg&&decide (n<0))=true then(n+all,0)
 else(n,0)
theorem QHw (n:Int)(sg:Bool):QoV n 256 sg=WZ n 8 sg:=by
 have e1:Qgc n 8=n % 256:=rfl;have e2:Qgd n 8=(n+128) % 256 - 128:=rfl;unfold QoV WZ;rw[e1,e2];have hb:((8:Int)==8||(8:Int)==16||(8:Int)==32||(8:Int)==64)=true:=rfl;rw[hb];simp only[Fe,LN]
 by_cases c1:n < -(256 / 2)∨256<=n
 ·have d1:(decide (n < -(256 / 2))||decide (256<=n))=true:=by simp only[Nw,Lv];exact c1
  have d2:(!(n==n % 256)&&!(n==(n+128) % 256 - 128))=true:=by
   simp only[Lm,Lr,LC,Da];omega
  rw[Lc d1,Lc d2]
 ·have d1:¬ (decide (n < -(256 / 2))||decide (256<=n))=true:=by simp only[Nw,Lv];exact c1
  have d2:¬ (!(n==n % 256)&&!(n==(n+128) % 256 - 128))=true:=by
   simp only[Lm,Lr,LC,Da];omega
  rw[Le d1,Le d2];cases sg
  ·by_cases c2:n<0
   ·simp[c2];omega
   ·simp[c2];omega
  ·by_cases c2:256 / 2<=n
   ·rw[Lc (by simp only[LJ,Lv];exact c2)];simp;omega
   ·rw[Le (by simp only[LJ,Lv];exact c2)];simp;omega
theorem QFw (n:Int)(sg:Bool):QoV n 65536 sg=WZ n 16 sg:=by
 have e1:Qgc n 16=n % 65536:=rfl;have e2:Qgd n 16=(n+32768) % 65536 - 32768:=rfl;unfold QoV WZ;rw[e1,e2];have hb:((16:Int)==8||(16:Int)==16||(16:Int)==32||(16:Int)==64)=true:=rfl;rw[hb];simp only[Fe,LN]
 by_cases c1:n < -(65536 / 2)∨65536<=n
 ·have d1:(decide (n < -(65536 / 2))||decide (65536<=n))=true:=by simp only[Nw,Lv];exact c1
  have d2:(!(n==n % 65536)&&!(n==(n+32768) % 65536 - 32768))=true:=by
   simp only[Lm,Lr,LC,Da];omega
  rw[Lc d1,Lc d2]
 ·have d1:¬ (decide (n < -(65536 / 2))||decide (65536<=n))=true:=by simp only[Nw,Lv];exact c1
  have d2:¬ (!(n==n % 65536)&&!(n==(n+32768) % 65536 - 32768))=true:=by
   simp only[Lm,Lr,LC,Da];omega
  rw[Le d1,Le d2];cases sg
  ·by_cases c2:n<0
   ·simp[c2];omega
   ·simp[c2];omega
  ·by_cases c2:65536 / 2<=n
   ·rw[Lc (by simp only[LJ,Lv];exact c2)];simp;omega
   ·rw[Le (by simp only[LJ,Lv];exact c2)];simp;omega
theorem QFx (n:Int)(sg:Bool):QoV n 4294967296 sg=WZ n 32 sg:=by
 have e1:Qgc n 32=n % 4294967296:=rfl;have e2:Qgd n 32=(n+2147483648) % 4294967296 - 2147483648:=rfl;unfold QoV WZ;rw[e1,e2];have hb:((32:Int)==8||(32:Int)==16||(32:Int)==32||(32:Int)==64)=true:=rfl;rw[hb];simp only[Fe,LN]
 by_cases c1:n < -(4294967296 / 2)∨4294967296<=n
 ·have d1:(decide (n < -(4294967296 / 2))||decide (4294967296<=n))=true:=by simp only[Nw,Lv];exact c1
  have d2:(!(n==n % 4294967296)&&!(n==(n+2147483648) % 4294967296 - 2147483648))=true:=by
   simp only[Lm,Lr,LC,Da];omega
  rw[Lc d1,Lc d2]
 ·have d1:¬ (decide (n < -(4294967296 / 2))||decide (4294967296<=n))=true:=by simp only[Nw,Lv];exact c1
  have d2:¬ (!(n==n % 4294967296)&&!(n==(n+2147483648) % 4294967296 - 2147483648))=true:=by
   simp only[Lm,Lr,LC,Da];omega
  rw[Le d1,Le d2];cases sg
  ·by_cases c2:n<0
   ·simp[c2];omega
   ·simp[c2];omega
  ·by_cases c2:4294967296 / 2<=n
   ·rw[Lc (by simp only[LJ,Lv];exact c2)];simp;omega
   ·rw[Le (by simp only[LJ,Lv];exact c2)];simp;omega
theorem Qf1 (n bits:Int)(sg:Bool)(hn:I64 n)(H:Qa):Qe prog 56 [.int .i64 n,.int .i64 bits,.bool sg] H λu H'=>u=.tuple #[.int .i64 (WZ n bits sg).1,.int .i64 (WZ n bits sg).2]∧H'=H:=by
 refine Qj6 λhw=>?_
 by_cases hb:bits=8∨bits=16∨bits=32∨bits=64
 ·have z2:((2:Int)≠0)=True:=by simp
  rcases hb with rfl | rfl | rfl | rfl
  ·have t1:((8:Int)==8)=true:=rfl;have t2:((8:Int)==16)=false:=rfl;have t3:((8:Int)==32)=false:=rfl;have t4:((8:Int)==64)=false:=rfl;have z0:((0:Int)<=8)=True:=eq_true (by decide);have w1:IntKind.i64.wrap (1 * 2 ^ min (Int.toNat 8) IntKind.i64.bits)=256:=by decide
   have w2:IntKind.i64.wrap (-256)=-256:=by decide
   have w3:IntKind.i64.wrap ((-256:Int).tdiv 2)=-(256 / 2):=by decide
   have w4:IntKind.i64.wrap ((256:Int).tdiv 2)=256 / 2:=by decide
   have w5:IntKind.i64.wrap (n+256)=n+256∨¬n<0:=by
    by_cases h:n<0
    ·exact .inl (w64 (by unfold I64 at *;omega))
    ·exact .inr h
   have w6:IntKind.i64.wrap (n - 256)=n - 256∨¬256 / 2<=n:=by
    by_cases h:256 / 2<=n
    ·exact .inl (w64 (by unfold I64 at *;omega))
    ·exact .inr h
   rw[<- QHw];simp(disch:=(first | omega | (simp only[hnP];try omega))) only[Xi,QD,QE,QF,QG,sxA,sxB,Nat.reduceBEq,Nat.reduceEqDiff,reduceCtorEq,mxD,mxB,Nat.reduceAdd,reduceIte,Nat.reduceLeDiff,splice,t1,t2,t3,t4,z0,z2,w1,Qy]
   rw[Qsj (ik:=.i64) (n:=256) (by simp only[Qg,simprocAttr])];simp(disch:=(first | omega | (simp only[hnP];try omega))) only[sxA,sxB,Nat.reduceBEq,Nat.reduceEqDiff,reduceCtorEq,mxD,mxB,Nat.reduceAdd,reduceIte,Nat.reduceLeDiff,splice,z2,w2,w3,w4,Qy]
   unfold QoV
   repeat' (first
    | (refine Qp (λh=>?_) (λh=>?_)<;>(try simp only[Lr,Lu]at h)<;>simp(disch:=(first | omega | (simp only[hnP];try omega))) only[QD,QE,QF,QG,sxA,sxB,Nat.reduceBEq,Nat.reduceEqDiff,reduceCtorEq,mxD,mxB,Nat.reduceAdd,reduceIte,Nat.reduceLeDiff,splice,z2,w4,Qy,h])
    | (refine Qf (λh=>?_) (λh=>?_)<;>(try simp only[Lr,Lu]at h)<;>simp(disch:=(first | omega | (simp only[hnP];try omega))) only[QD,QE,QF,QG,sxA,sxB,Nat.reduceBEq,Nat.reduceEqDiff,reduceCtorEq,mxD,mxB,Nat.reduceAdd,reduceIte,Nat.reduceLeDiff,splice,z2,w4,Qy,h])
    | fail)
   all_goals refine .mk (Lb _) ⟨?_,rfl⟩
   all_goals (try simp_all)
   all_goals first
    | (rcases w5 with h9 | h9<;>first | exact h9 | omega)
    | (rcases w6 with h9 | h9<;>first | exact h9 | omega)
  ·have t1:((16:Int)==8)=false:=rfl;have t2:((16:Int)==16)=true:=rfl;have t3:((16:Int)==32)=false:=rfl;have t4:((16:Int)==64)=false:=rfl;have z0:((0:Int)<=16)=True:=eq_true (by decide);have w1:IntKind.i64.wrap (1 * 2 ^ min (Int.toNat 16) IntKind.i64.bits)=65536:=by decide
   have w2:IntKind.i64.wrap (-65536)=-65536:=by decide
   have w3:IntKind.i64.wrap ((-65536:Int).tdiv 2)=-(65536 / 2):=by decide
   have w4:IntKind.i64.wrap ((65536:Int).tdiv 2)=65536 / 2:=by decide
   have w5:IntKind.i64.wrap (n+65536)=n+65536∨¬n<0:=by
    by_cases h:n<0
    ·exact .inl (w64 (by unfold I64 at *;omega))
    ·exact .inr h
   have w6:IntKind.i64.wrap (n - 65536)=n - 65536∨¬65536 / 2<=n:=by
    by_cases h:65536 / 2<=n
    ·exact .inl (w64 (by unfold I64 at *;omega))
    ·exact .inr h
   rw[<- QFw];simp(disch:=(first | omega | (simp only[hnP];try omega))) only[Xi,QD,QE,QF,QG,sxA,sxB,Nat.reduceBEq,Nat.reduceEqDiff,reduceCtorEq,mxD,mxB,Nat.reduceAdd,reduceIte,Nat.reduceLeDiff,splice,t1,t2,t3,t4,z0,z2,w1,Qy]
   rw[Qsj (ik:=.i64) (n:=65536) (by simp only[Qg,simprocAttr])];simp(disch:=(first | omega | (simp only[hnP];try omega))) only[sxA,sxB,Nat.reduceBEq,Nat.reduceEqDiff,reduceCtorEq,mxD,mxB,Nat.reduceAdd,reduceIte,Nat.reduceLeDiff,splice,z2,w2,w3,w4,Qy]
   unfold QoV
   repeat' (first
    | (refine Qp (λh=>?_) (λh=>?_)<;>(try simp only[Lr,Lu]at h)<;>simp(disch:=(first | omega | (simp only[hnP];try omega))) only[QD,QE,QF,QG,sxA,sxB,Nat.reduceBEq,Nat.reduceEqDiff,reduceCtorEq,mxD,mxB,Nat.reduceAdd,reduceIte,Nat.reduceLeDiff,splice,z2,w4,Qy,h])
    | (refine Qf (λh=>?_) (λh=>?_)<;>(try simp only[Lr,Lu]at h)<;>simp(disch:=(first | omega | (simp only[hnP];try omega))) only[QD,QE,QF,QG,sxA,sxB,Nat.reduceBEq,Nat.reduceEqDiff,reduceCtorEq,mxD,mxB,Nat.reduceAdd,reduceIte,Nat.reduceLeDiff,splice,z2,w4,Qy,h])
    | fail)
   all_goals refine .mk (Lb _) ⟨?_,rfl⟩
   all_goals (try simp_all)
   all_goals first
    | (rcases w5 with h9 | h9<;>first | exact h9 | omega)
    | (rcases w6 with h9 | h9<;>first | exact h9 | omega)
  ·have t1:((32:Int)==8)=false:=rfl;have t2:((32:Int)==16)=false:=rfl;have t3:((32:Int)==32)=true:=rfl;have t4:((32:Int)==64)=false:=rfl;have z0:((0:Int)<=32)=True:=eq_true (by decide);have w1:IntKind.i64.wrap (1 * 2 ^ min (Int.toNat 32) IntKind.i64.bits)=4294967296:=by decide
   have w2:IntKind.i64.wrap (-4294967296)=-4294967296:=by decide
   have w3:IntKind.i64.wrap ((-4294967296:Int).tdiv 2)=-(4294967296 / 2):=by decide
   have w4:IntKind.i64.wrap ((4294967296:Int).tdiv 2)=4294967296 / 2:=by decide
   have w5:IntKind.i64.wrap (n+4294967296)=n+4294967296∨¬n<0:=by
    by_cases h:n<0
    ·exact .inl (w64 (by unfold I64 at *;omega))
    ·exact .inr h
   have w6:IntKind.i64.wrap (n - 4294967296)=n - 4294967296∨¬4294967296 / 2<=n:=by
    by_cases h:4294967296 / 2<=n
    ·exact .inl (w64 (by unfold I64 at *;omega))
    ·exact .inr h
   rw[<- QFx];simp(disch:=(first | omega | (simp only[hnP];try omega))) only[Xi,QD,QE,QF,QG,sxA,sxB,Nat.reduceBEq,Nat.reduceEqDiff,reduceCtorEq,mxD,mxB,Nat.reduceAdd,reduceIte,Nat.reduceLeDiff,splice,t1,t2,t3,t4,z0,z2,w1,Qy]
   rw[Qsj (ik:=.i64) (n:=4294967296) (by simp only[Qg,simprocAttr])];simp(disch:=(first | omega | (simp only[hnP];try omega))) only[sxA,sxB,Nat.reduceBEq,Nat.reduceEqDiff,reduceCtorEq,mxD,mxB,Nat.reduceAdd,reduceIte,Nat.reduceLeDiff,splice,z2,w2,w3,w4,Qy]
   unfold QoV
   repeat' (first
    | (refine Qp (λh=>?_) (λh=>?_)<;>(try simp only[Lr,Lu]at h)<;>simp(disch:=(first | omega | (simp only[hnP];try omega))) only[QD,QE,QF,QG,sxA,sxB,Nat.reduceBEq,Nat.reduceEqDiff,reduceCtorEq,mxD,mxB,Nat.reduceAdd,reduceIte,Nat.reduceLeDiff,splice,z2,w4,Qy,h])
    | (refine Qf (λh=>?_) (λh=>?_)<;>(try simp only[Lr,Lu]at h)<;>simp(disch:=(first | omega | (simp only[hnP];try omega))) only[QD,QE,QF,QG,sxA,sxB,Nat.reduceBEq,Nat.reduceEqDiff,reduceCtorEq,mxD,mxB,Nat.reduceAdd,reduceIte,Nat.reduceLeDiff,splice,z2,w4,Qy,h])
    | fail)
   all_goals refine .mk (Lb _) ⟨?_,rfl⟩
   all_goals (try simp_all)
   all_goals first
    | (rcases w5 with h9 | h9<;>first | exact h9 | omega)
    | (rcases w6 with h9 | h9<;>first | exact h9 | omega)
  ·have t1:((64:Int)==8)=false:=rfl;have t2:((64:Int)==16)=false:=rfl;have t3:((64:Int)==32)=false:=rfl;have t4:((64:Int)==64)=true:=rfl;simp(disch:=(first | omega | (simp only[hnP];try omega))) only[Xi,QD,QE,QF,QG,Qk,simprocAttr,t1,t2,t3,t4,Qy]
   refine .mk (Lb _) ⟨?_,rfl⟩;have e1:Qgc n 64=n:=rfl;have e2:Qgd n 64=n:=rfl;simp[WZ,e1,e2]
 ·have t1:(bits==8)=false:=by simp;omega
  have t2:(bits==16)=false:=by simp;omega
  have t3:(bits==32)=false:=by simp;omega
  have t4:(bits==64)=false:=by simp;omega
  simp(disch:=(first | omega | (simp only[hnP];try omega))) only[Xi,QD,QE,QF,QG,Qk,simprocAttr,t1,t2,t3,t4,Qy]
  refine .mk (Lb _) ⟨?_,rfl⟩;simp[WZ,t1,t2,t3,t4]
theorem QlO (o:Int)(H:Qa):Qe prog 78 [.int .i64 o] H λu H'=>u=.tuple #[.int .i64 (QoN o).1,.bool (QoN o).2]∧H'=H:=by
 refine Qj7 λhw=>?_;have q1:=QcP o;have hs:QoN o=if Y5 o=false then(0,false) else if(1<=o∧o<=10)∨o=16 then(0,true) else if o=48 then(64,true) else if o=51 then(16,false) else(8,false):=by
  unfold QoN
  by_cases hv:Y5 o=false
  ·rw[Lc hv,Lc hv]
  ·rw[Le hv,Le hv]
   by_cases h:(1<=o∧o<=10)∨o=16
   ·rw[Lc h,Lc (by omega)]
   ·rw[Le h,Le (by omega)]
 rw[hs];clear hs;generalize Y5 o=v at *;simp(disch:=(first | omega | (simp only[hnP];try omega))) only[QcX,XH,XI,Qk,simprocAttr,Zm]
 repeat' (first
   | (refine Qp (λh=>?_) (λh=>?_)<;>(try simp only[Lr,Lu]at h)<;>simp(disch:=(first | omega | (simp only[hnP];try omega))) only[XH,XI,Qk,simprocAttr,Zm,h])
   | (refine Qf (λh=>?_) (λh=>?_)<;>(try simp only[Lr,Lu]at h)<;>simp(disch:=(first | omega | (simp only[hnP];try omega))) only[XH,XI,Qk,simprocAttr,Zm,h])
   | (refine(q1 _).thenW ?_;rintro _ _ hn hw2 ⟨rfl,rfl⟩;(try simp only[Qc,Ql,Qt]at hn);simp(disch:=(first | omega | (simp only[hnP];try omega))) only[XH,XI,Qk,simprocAttr,Zm])
   | (with_reducible refine⟨by simp[Qh,plain],by omega,?_⟩)
   | (with_reducible refine⟨by simp[Qh,plain],?_⟩)
   | fail)
 all_goals refine .mk (Lb _) ⟨?_,rfl⟩
 all_goals clear q1
 all_goals (try simp_all)
 all_goals (rw[Le (by omega)];exact⟨rfl,rfl⟩)
theorem Qea (op:Int)(v:Value)(l:List Ar)(H:Qa)(hv:Qv H v l)(hl:l.length<=1000):Qe prog 55 [.agg #[.int .i64 op,v]] H λu H'=>u=.tuple #[.int .i64 (QU op l).1,.bool (QU op l).2]∧∃k,H'=H.up k:=by
 refine Qji λhw=>?_;have q1:=QcP op;have q2:=QlO op;have hp:0<=(QoN op).1:=by unfold QoN;repeat' (split<;>try decide)
 unfold QU;generalize Y5 op=v1 at *;generalize QoN op=v2 at *;obtain⟨v2a,v2b⟩:=v2;simp only at hp;obtain⟨a0,cap,rfl,h1⟩:=hv;cases l with
 | nil=>
  have el0:(((0:Nat):Int)==0)=true:=rfl;simp(disch:=(first | omega | (simp only[hnP];try omega))) only[Kl,QA,QB,Qk,simprocAttr,el0,QT]
  repeat' (first
    | (refine Qp (λh=>?_) (λh=>?_)<;>(try simp only[Lr,Lu]at h)<;>simp(disch:=(first | omega | (simp only[hnP];try omega))) only[QA,QB,Qk,simprocAttr,el0,QT,h])
    | (refine Qf (λh=>?_) (λh=>?_)<;>(try simp only[Lr,Lu]at h)<;>simp(disch:=(first | omega | (simp only[hnP];try omega))) only[QA,QB,Qk,simprocAttr,el0,QT,h])
    | (refine(q1 _).thenW ?_;rintro _ _ hn hw2 ⟨rfl,rfl⟩;(try simp only[Qc,Ql,Qt]at hn);simp(disch:=(first | omega | (simp only[hnP];try omega))) only[QA,QB,Qk,simprocAttr,el0,QT])
    | (refine(q2 _).thenW ?_;rintro _ _ hn hw2 ⟨rfl,rfl⟩;(try simp only[Qc,Ql,Qt]at hn);simp(disch:=(first | omega | (simp only[hnP];try omega))) only[QA,QB,Qk,simprocAttr,el0,QT])
    | (with_reducible refine⟨by simp[Qh,plain],by omega,?_⟩)
    | (with_reducible refine⟨by simp[Qh,plain],?_⟩)
    | fail)
  all_goals refine .ext hw ?_ ⟨?_,_,rfl⟩
  all_goals try (repeat' (first | exact Ext.refl _ | refine Ext.push ?_ _ | refine Ext.up ?_ (by simp only[Qc,Qt,Ql];omega) | refine Ext.set ?_ (by omega) _))
  all_goals clear q1 q2 hw
  all_goals (try simp_all)
  all_goals first
   | (have hz:v2a=0:=(by omega);simp[hz];done)
   | (have hz:v2a=0:=(by omega);subst hz;simp_all;done)
   | (have hz:¬v2a=0:=(by omega);simp[hz])
 | cons a l=>
  dsimp only;have et0:(0:Int).toNat=0:=rfl;have q3:=Qk1 a;have h8:=Qxr a;generalize QkC a=s at *;obtain⟨b,e,ro,rfl,hgb⟩:=h1 (by simp);have el0:(((l.length+1:Nat):Int)==0)=false:=by simp;omega
  have ec1:((0:Int)<=0∧(0:Int)<((l.length+1:Nat):Int)):=by omega
  have hb:=hw.lt hgb;have e8:IntKind.i64.wrap (8 * s)=8 * s:=w64 (by unfold I64;omega);have hd11:List.take 11 (Qi (a::l))=a.cells:=by
   have:=WI (a::l) 0 a rfl;simpa using this
  have hle:11<=(Qi (a::l)).length:=by rw[QJ];simp;omega
  simp(disch:=(first | omega | (simp only[hnP];try omega))) only[Kl,QA,QB,Qk,simprocAttr,el0,ec1,et0,hgb,hd11,hle,e8,QT]
  repeat' (first
    | (refine Qp (λh=>?_) (λh=>?_)<;>(try simp only[Lr,Lu]at h)<;>simp(disch:=(first | omega | (simp only[hnP];try omega))) only[QA,QB,Qk,simprocAttr,el0,ec1,et0,hgb,hd11,hle,e8,QT,h])
    | (refine Qf (λh=>?_) (λh=>?_)<;>(try simp only[Lr,Lu]at h)<;>simp(disch:=(first | omega | (simp only[hnP];try omega))) only[QA,QB,Qk,simprocAttr,el0,ec1,et0,hgb,hd11,hle,e8,QT,h])
    | (refine(q1 _).thenW ?_;rintro _ _ hn hw2 ⟨rfl,rfl⟩;(try simp only[Qc,Ql,Qt]at hn);simp(disch:=(first | omega | (simp only[hnP];try omega))) only[QA,QB,Qk,simprocAttr,el0,ec1,et0,hgb,hd11,hle,e8,QT])
    | (refine(q2 _).thenW ?_;rintro _ _ hn hw2 ⟨rfl,rfl⟩;(try simp only[Qc,Ql,Qt]at hn);simp(disch:=(first | omega | (simp only[hnP];try omega))) only[QA,QB,Qk,simprocAttr,el0,ec1,et0,hgb,hd11,hle,e8,QT])
    | (refine(q3 _).thenW ?_;rintro _ _ hn hw2 ⟨rfl,k,rfl⟩;(try simp only[Qc,Ql,Qt]at hn);simp(disch:=(first | omega | (simp only[hnP];try omega))) only[QA,QB,Qk,simprocAttr,el0,ec1,et0,hgb,hd11,hle,e8,QT])
    | (with_reducible refine⟨by simp[Qh,plain],by omega,?_⟩)
    | (with_reducible refine⟨by simp[Qh,plain],?_⟩)
    | fail)
  all_goals refine .ext hw ?_ ⟨?_,_,rfl⟩
  all_goals try (repeat' (first | exact Ext.refl _ | refine Ext.push ?_ _ | refine Ext.up ?_ (by simp only[Qc,Qt,Ql];omega) | refine Ext.set ?_ (by omega) _))
  all_goals clear q1 q2 hw
  all_goals (try simp_all)
  all_goals first
   | (have hz:v2a=0:=(by omega);simp[hz];done)
   | (have hz:v2a=0:=(by omega);subst hz;simp_all;done)
   | (have hz:¬v2a=0:=(by omega);simp[hz])
theorem QvT (op:Int)(v:Value)(l:List Ar)(kd:Int)(H:Qa)(hv:Qv H v l)(hl:l.length<=1000):Qe prog 54 [.agg #[.int .i64 op,v],.int .i64 kd] H λu H'=>u=.int .i64 (W4 kd l)∧∃k,H'=H.up k:=by
 refine Qjh λhw=>?_;obtain⟨a0,cap,rfl,h1⟩:=hv;simp(disch:=(first | omega | (simp only[hnP];try omega))) only[QbP,Qk,simprocAttr]
 refine Qo (λm A' H'=>∃i:Nat,i<=l.length∧m=l.length - i∧Ext H H'∧H.next<H'.next∧H'.get H.next=some (.cells [.int .i64 op,.slice a0 l.length cap] 24 false)∧A' 1=.int .i64 kd∧A' 2=.pointer (some ⟨H.next,0,none⟩)∧A' 5=.int .i64 (W4 kd (l.take i))∧A' 6=.int .i64 i) l.length ?_ ?_
 ·refine⟨0,L7 _,by omega,(Ext.refl H).push _,by rw[Qc];omega,by rw[Qd,Lc rfl],?_,?_,?_,?_⟩
  all_goals simp only[Qg,simprocAttr]
  all_goals rfl
 ·rintro m A' H' ⟨i,hi,rfl,hx,hb0,g0,r1,r2,r5,r6⟩;simp(disch:=(first | omega | (simp only[hnP];try omega))) only[V7,Qk,simprocAttr,g0,r1,r2,r5,r6]
  refine Qf (λh2=>?_) (λh2=>?_)
  ·have h2:i<l.length:=by have:=Lg h2;omega
   obtain⟨a,ha⟩:∃a,l[i]? = some a:=⟨_,La h2⟩;obtain⟨b,e,ro,rfl,hgb0⟩:=h1 (by omega);have hbl:=hw.lt hgb0;have hgb:H'.get b=some (.cells (Qi l) e ro):=by rw[hx.get b hbl];exact hgb0
   have htk:=WI l i a ha;have hle:i * 11+11<=(Qi l).length:=by rw[QJ];omega
   have d1:(0:Int)<=i∧(i:Int)<l.length:=by omega
   have d3:(i:Int).toNat=i:=by omega
   have ei:IntKind.i64.wrap ((i:Int)+1)=((i+1:Nat):Int):=by rw[w64 (by unfold I64;omega)];omega
   have bk:=Qir kd (l.take i);have hlt:(l.take i).length<=1000:=by rw[Sb];omega
   have ek:IntKind.i64.wrap (W4 kd (l.take i)+1)=W4 kd (l.take i)+1:=w64 (by unfold I64;omega);have sk:=Qhz kd (l.take i) a;rw[<- QpR l i a ha]at sk;have hk0:(Qi l)[i * 11]? = some (.int .i64 a.k):=by
    have:=congrArg (·[0]?) htk;simp only[Nl,Nk,Ar.cells]at this;simpa using this
   simp(disch:=(first | omega | (simp only[hnP];try omega))) only[V6,Qk,simprocAttr,g0,r1,r2,r5,r6,d1,d3,hgb,hk0,ei]
   refine Qf (λh=>?_) (λh=>?_)
   all_goals simp(disch:=(first | omega | (simp only[hnP];try omega))) only[Qk,simprocAttr,r5,r6,ei,ek]
   all_goals refine⟨l.length - (i+1),by omega,i+1,by omega,rfl,hx,hb0,g0,?_,?_,?_,?_⟩
   all_goals (try simp only[Qg,simprocAttr,r1,r2,r5])
   all_goals (rw[sk,h];simp)
  ·have h2:i=l.length:=by have:=Ll h2;omega
   subst h2;simp(disch:=(first | omega | (simp only[hnP];try omega))) only[Qk,simprocAttr,r5,QhX]
   refine .ext hw hx ⟨by rw[Nr],_,rfl⟩
def Qe6 (ib:Int×Bool):List Ar->Int
 | []=>0
 | a::l=>if(a.k==3)=true then(if((WZ a.n ib.1 ib.2).2==0)=true then Qe6 ib l else(WZ a.n ib.1 ib.2).2) else Qe6 ib l
def QcH (op:Int)(l:List Ar):Int:=
 if Y5 op=false then 6 else if l.length>4 then 3 else if(Qdk l==0)=false then Qdk l
 else if(decide (1<W4 2 l)||decide (1<W4 3 l)||decide (1<W4 4 l))=true then 2
 else Qe6 (QU op l) l
theorem QpS (ib:Int×Bool):∀ (l:List Ar) (n:Int),W4 3 l=0->Qe6 ib l=0∧Qhy n l=n
 | [],n,_=>⟨rfl,rfl⟩
 | a::l,n,h=>by
  have hp:=(Qir 3 l).1;unfold W4 at h;cases hk:a.k==3 with
  | true=>rw[hk]at h;simp at h;omega
  | false=>
   rw[hk]at h;unfold Qe6 Qhy;rw[hk];simpa using QpS ib l n (by simpa using h)
theorem QxG (ib:Int×Bool):∀ (l:List Ar) (n:Int),W4 3 l=1->Qe6 ib l=(WZ (Qhy n l) ib.1 ib.2).2
 | [],n,h=>by simp[W4]at h
 | a::l,n,h=>by
  unfold W4 at h;cases hk:a.k==3 with
  | true=>
   rw[hk]at h;obtain⟨h1,h2⟩:=QpS ib l a.n (by simp at h;omega);unfold Qe6 Qhy;rw[hk];simp only[N3,h1,h2];split
   ·rename_i h3;exact(L0.1 h3).symm
   ·rfl
  | false=>
   rw[hk]at h;unfold Qe6 Qhy;rw[hk];simpa using QxG ib l n (by simpa using h)
theorem QpT (op:Int)(l:List Ar):QcH op l=Q8 op l:=by
 unfold QcH Q8;split
 ·rfl
 split
 ·rfl
 split
 ·rfl
 have hp:=Qir 3 l;have hc:(decide (1<W4 2 l)||decide (1<W4 3 l)||decide (1<W4 4 l))=(decide (1<W4 2 l)||decide (1<W4 4 l)||decide (1<W4 3 l)):=by rw[FP,Bool.or_comm (decide (1<W4 3 l)),<- FP]
 rw[hc];split
 ·rfl
 rename_i h;have h3:W4 3 l<=1:=by
  simp only[Nw,Lv,not_or]at h;omega
 by_cases h0:W4 3 l=0
 ·rw[(QpS _ l 0 h0).1,h0];rfl
 ·rw[Le (by simpa using h0),QxG _ l 0 (by omega)];split
  ·rename_i hb;unfold WZ;rw[Lc];have:=L0.1 hb;rw[this];rfl
  ·rfl
theorem QuG (ib:Int×Bool):∀ (l:List Ar) (i:Nat) (a:Ar),l[i]? = some a->Qe6 ib (l.drop i)=if(a.k==3)=true then(if((WZ a.n ib.1 ib.2).2==0)=true then Qe6 ib (l.drop (i+1)) else(WZ a.n ib.1 ib.2).2) else Qe6 ib (l.drop (i+1))
 | [],i,a,h=>by simp at h
 | b::l,0,a,h=>by simp at h;subst h;rfl
 | b::l,i+1,a,h=>by simpa using QuG ib l i a (by simpa using h)
def rcF (H:Qa)(op:Int)(v:Value)(A:Env)(H':Qa):Prop:=Ext H H'∧H.next<H'.next∧A 1=.pointer (some ⟨H.next,0,none⟩)∧H'.get H.next=some (.cells [.int .i64 op,v] 24 false)
theorem rcF.env {H H':Qa}{op:Int}{v:Value}{A B:Env}(h:rcF H op v A H')(h1:B 1=A 1):rcF H op v B H':=⟨h.1,h.2.1,h1.trans h.2.2.1,h.2.2.2⟩
theorem rcF.up {H H':Qa}{op:Int}{v:Value}{A:Env}(h:rcF H op v A H'){k:Nat}(hk:H'.next<=k):rcF H op v A (H'.up k):=⟨h.1.up hk,by have:=h.2.1;rw[Ql];omega,h.2.2.1,by rw[Y0];exact h.2.2.2⟩
structure AtI (H':Qa) (l:List Ar) (i b:Nat) (a:Ar):Prop where
 g:∃e ro,H'.get b=some (.cells (Qi l) e ro)
 d1:(0:Int)<=i∧(i:Int)<l.length
 d3:(i:Int).toNat=i
 tk:List.take 11 (List.drop (i * 11) (Qi l))=a.cells
 le:i * 11+11<=(Qi l).length
 k:(Qi l)[i * 11]? = some (.int .i64 a.k)
 n:(Qi l)[i * 11+10]? = some (.int .i64 a.n)
 ei:IntKind.i64.wrap ((i:Int)+1)=((i+1:Nat):Int)
theorem atI {H H':Qa}{l:List Ar}{i:Nat}{a:Ar}{a0:Option Addr}{cap:Nat}(hv:Qv H (.slice a0 l.length cap) l)(hw:H.Wf)(hx:Ext H H')(hl:l.length<=1000)(ha:l[i]? = some a):∃b,a0=some ⟨b,0,none⟩∧b<H.next∧AtI H' l i b a:=by
 have h2:i<l.length:=(Lk.1 ha).1;obtain⟨a1,cap1,e1,h1⟩:=hv;cases e1;obtain⟨b,e,ro,rfl,hgb0⟩:=h1 (by omega);have hbl:=hw.lt hgb0;have htk:=WI l i a ha;refine⟨b,rfl,hbl,⟨e,ro,by rw[hx.get b hbl];exact hgb0⟩,by omega,by omega,htk,by rw[QJ];omega,?_,?_,by rw[w64 (by unfold I64;omega)];omega⟩
 ·have:=congrArg (·[0]?) htk;simp only[Nl,Nk,Ar.cells]at this;simpa using this
 ·have:=congrArg (·[10]?) htk;simp only[Nl,Nk,Ar.cells]at this;simpa using this
section
variable {H:Qa} {op:Int} {a0:Option Addr} {cap:Nat} {l:List Ar}
abbrev KK (H:Qa)(op:Int)(l:List Ar):Value->Qa->Prop:=λu H'=>u=.int .i64 (QcH op l)∧∃k,H'=H.up k
abbrev KR (H:Qa)(op:Int)(l:List Ar):Env->Qa->Prop:=Rt prog Tryz.f31 H (KK H op l)
theorem QHz (hw:H.Wf)(hv:Qv H (.slice a0 l.length cap) l)(hl:l.length<=1000)(hI:∀a∈l,I64 a.n)(c1:Y5 op=true)(c2:l.length<=4)(c3:(Qdk l==0)=true)(c4:(decide (1<W4 2 l)||decide (1<W4 3 l)||decide (1<W4 4 l))=false)(A:Env)(H1:Qa)(hw1:H1.Wf)(hF:rcF H op (.slice a0 l.length cap) A H1):
  Qm prog ZU ⟨KR H op l,WJ⟩ (KR H op l) A H1:=by
 have hrc:QcH op l=Qe6 (QU op l) l:=by
  unfold QcH;rw[Le (by simp[c1]),Le (by omega),Le (by simp[c3]),Le (by simp[c4])]
 simp(disch:=(first | omega | (simp only[hnP];try omega))) only[ZU,Qk,simprocAttr]
 refine Qo (λm A' H'=>∃i:Nat,i<=l.length∧m=l.length - i∧H'.Wf∧rcF H op (.slice a0 l.length cap) A' H'∧A' 5=.int .i64 i∧Qe6 (QU op l) l=Qe6 (QU op l) (l.drop i)) l.length ?_ ?_
 ·refine⟨0,L7 _,by omega,hw1,hF.env ?_,?_,rfl⟩
  all_goals simp only[uxA,uxB,Nat.reduceBEq]
  rfl
 ·rintro m A' H' ⟨i,hi,rfl,hw',⟨hx,hb0,r1,g0⟩,r5,he⟩;simp(disch:=(first | omega | (simp only[hnP];try omega))) only[GU,Qk,simprocAttr,g0,r1,r5]
  refine Qf (λh2=>?_) (λh2=>?_)
  ·have h2:i<l.length:=by have:=Lg h2;omega
   obtain⟨a,ha⟩:∃a,l[i]? = some a:=⟨_,La h2⟩;obtain⟨b,rfl,hbl,⟨e,ro,hgb⟩,d1,d3,htk,hle,hk,hn,ei⟩:=atI hv hw hx hl ha;rw[QuG _ l i a ha]at he;have han:=hI a (Ln ha);simp(disch:=(first | omega | (simp only[hnP];try omega))) only[GT,Qk,simprocAttr,g0,r1,r5,d1,d3,hgb,hk]
   refine Qf (λh=>?_) (λh=>?_)
   ·have h3:(a.k==3)=false:=by simpa using h
    rw[h3]at he;simp(disch:=(first | omega | (simp only[hnP];try omega))) only[Qk,simprocAttr,r5,ei]
    refine⟨l.length - (i+1),by omega,i+1,by omega,rfl,hw',⟨hx,hb0,?_,g0⟩,?_,by simpa using he⟩
    all_goals simp only[Qg,simprocAttr,r1]
   ·have h3:(a.k==3)=true:=by simpa using h
    rw[h3]at he;simp only[N3]at he;simp(disch:=(first | omega | (simp only[hnP];try omega))) only[GS,Qk,simprocAttr,g0,r1,r5]
    refine(Qea op _ l H' (hv.ext hw hx) hl).thenW ?_;rintro _ _ hn2 hw2 ⟨rfl,k,rfl⟩;have hbk:H.next<k:=N5 hb0 hn2;simp(disch:=(first | omega | (simp only[hnP];try omega))) only[Qk,simprocAttr,g0,r1,r5,d1,d3,hgb,hn]
    refine(Qf1 a.n _ _ han _).thenW ?_;rintro _ _ hn3 hw3 ⟨rfl,rfl⟩;generalize hE:Qe6 (QU op l) (l.drop (i+1))=er at he;generalize himm:WZ a.n (QU op l).1 (QU op l).2=im at *;simp(disch:=(first | omega | (simp only[hnP];try omega))) only[Qk,simprocAttr,r5]
    refine Qf (λh4=>?_) (λh4=>?_)
    ·have h4:(im.2==0)=false:=by simpa using h4
     rw[h4]at he;simp(disch:=(first | omega | (simp only[hnP];try omega))) only[Qk,simprocAttr,WL]
     exact .ext hw (hx.up hn2) ⟨by rw[hrc,he];simp,_,rfl⟩
    ·have h4:(im.2==0)=true:=by simpa using h4
     rw[h4]at he;simp(disch:=(first | omega | (simp only[hnP];try omega))) only[Qk,simprocAttr,r5,ei]
     refine⟨l.length - (i+1),by omega,i+1,by omega,rfl,hw2,⟨hx.up hn2,hbk,?_,g0⟩,?_,by rw[hE];simpa using he⟩
     all_goals simp only[Qg,simprocAttr,r1]
  ·have h2:i=l.length:=by have:=Ll h2;omega
   subst h2;rw[BU]at he;simp(disch:=(first | omega | (simp only[hnP];try omega))) only[Qk,simprocAttr,WL]
   exact .ext hw hx ⟨by rw[hrc,he];rfl,_,rfl⟩
theorem QFB (hw:H.Wf)(hv:Qv H (.slice a0 l.length cap) l)(hl:l.length<=1000)(hI:∀a∈l,I64 a.n)(c1:Y5 op=true)(c2:l.length<=4)(c3:(Qdk l==0)=true)(A:Env)(H1:Qa)(hw1:H1.Wf)(hF:rcF H op (.slice a0 l.length cap) A H1):
  Qm prog ZV ⟨KR H op l,WJ⟩ (KR H op l) A H1:=by
 have P4:=λc4=>QHz (op:=op) hw hv hl hI c1 c2 c3 c4;have hrc:(decide (1<W4 2 l)||decide (1<W4 3 l)||decide (1<W4 4 l))=true->QcH op l=2:=λh=>by
  unfold QcH;rw[Le (by simp[c1]),Le (by omega),Le (by simp[c3]),Lc h]
 obtain⟨hx,hb0,r1,g0⟩:=hF;have qm:=λkd H' (hx:Ext H H')=>QvT op _ l kd H' (hv.ext hw hx) hl;simp(disch:=(first | omega | (simp only[hnP];try omega))) only[ZV,Qk,simprocAttr,g0,r1]
 refine(qm 2 H1 hx).thenW ?_;rintro _ _ hn2 hw2 ⟨rfl,k2,rfl⟩;have hx2:=hx.up hn2;have hb2:H.next<k2:=N5 hb0 hn2;simp(disch:=(first | omega | (simp only[hnP];try omega))) only[Qk,simprocAttr,g0,r1]
 have fin:∀A H',Ext H H'->(decide (1<W4 2 l)||decide (1<W4 3 l)||decide (1<W4 4 l))=true->(A 2=.int .i64 2)->KR H op l A H':=λA H' hx h r2=>by
  simp(disch:=(first | omega | (simp only[hnP];try omega))) only[KR,WL,r2]
  exact .ext hw hx ⟨by rw[hrc h],_,rfl⟩
 cases h:decide (1<W4 2 l) with
 | true=>
  rw[h]at fin;simp(disch:=(first | omega | (simp only[hnP];try omega))) only[Qk,simprocAttr,h]
  refine fin _ _ hx2 (by simp) ?_;simp only[Qg,simprocAttr]
 | false=>
  simp(disch:=(first | omega | (simp only[hnP];try omega))) only[Qk,simprocAttr,h,g0,r1]
  refine(qm 3 _ hx2).thenW ?_;rintro _ _ hn3 hw3 ⟨rfl,k3,rfl⟩;have hx3:=hx2.up hn3;have hb3:H.next<k3:=N5 hb2 hn3;cases h3:decide (1<W4 3 l) with
  | true=>
   rw[h3]at fin;simp(disch:=(first | omega | (simp only[hnP];try omega))) only[Qk,simprocAttr,h3]
   refine fin _ _ hx3 (by simp) ?_;simp only[Qg,simprocAttr]
  | false=>
   simp(disch:=(first | omega | (simp only[hnP];try omega))) only[Qk,simprocAttr,h3,g0,r1]
   refine(qm 4 _ hx3).thenW ?_;rintro _ _ hn4 hw4 ⟨rfl,k4,rfl⟩;have hx4:=hx3.up hn4;have hb4:H.next<k4:=N5 hb3 hn4;cases h4:decide (1<W4 4 l) with
   | true=>
    rw[h4]at fin;simp(disch:=(first | omega | (simp only[hnP];try omega))) only[Qk,simprocAttr,h4]
    refine fin _ _ hx4 (by simp) ?_;simp only[Qg,simprocAttr]
   | false=>
    simp(disch:=(first | omega | (simp only[hnP];try omega))) only[Qk,simprocAttr,h4]
    refine P4 (by rw[h,h3,h4];rfl) _ _ hw4 ⟨hx4,hb4,?_,g0⟩;simp only[Qg,simprocAttr,r1]
end
theorem QcQ (op:Int)(v:Value)(l:List Ar)(H:Qa)(hv:Qv H v l)(hl:l.length<=1000)(hI:∀a∈l,I64 a.n):Qe prog 31 [.agg #[.int .i64 op,v]] H λu H'=>u=.int .i64 (Q8 op l)∧∃k,H'=H.up k:=by
 rw[<- QpT];refine QhU λhw=>?_;obtain⟨a0,cap,rfl⟩:=Qu hv;simp(disch:=(first | omega | (simp only[hnP];try omega))) only[QaF,Qk,simprocAttr]
 refine(QcP op _).thenW ?_;rintro _ H1 hn1 hw1 ⟨rfl,hH1⟩;have hx1:Ext H H1:=by rw[hH1];exact(Ext.refl H).push _
 have g1:H1.get H.next=some (.cells [.int .i64 op,.slice a0 l.length cap] 24 false):=by rw[hH1,Qd,Lc rfl]
 have hb1:H.next<H1.next:=by rw[hH1,Qc];omega
 clear hH1;simp(disch:=(first | omega | (simp only[hnP];try omega))) only[Qk,simprocAttr]
 cases c1:Y5 op with
 | false=>
  simp(disch:=(first | omega | (simp only[hnP];try omega))) only[Qk,simprocAttr,WL]
  exact .ext hw hx1 ⟨by unfold QcH;rw[Lc c1],_,rfl⟩
 | true=>
  simp(disch:=(first | omega | (simp only[hnP];try omega))) only[GZ,Qk,simprocAttr,g1]
  refine Qf (λh=>?_) (λh=>?_)
  ·have c2:4<l.length:=by have:=Lg h;omega
   simp(disch:=(first | omega | (simp only[hnP];try omega))) only[Qk,simprocAttr,WL]
   exact .ext hw hx1 ⟨by unfold QcH;rw[Le (by simp[c1]),Lc c2],_,rfl⟩
  ·have c2:l.length<=4:=by have:=Ll h;omega
   have hrc:(Qdk l==0)=false->QcH op l=Qdk l:=λh=>by
    unfold QcH;rw[Le (by simp[c1]),Le (by omega),Lc (by simpa using h)]
   simp(disch:=(first | omega | (simp only[hnP];try omega))) only[GY,Qk,simprocAttr]
   refine Qo (λm A' H'=>∃i:Nat,i<=l.length∧m=l.length - i∧H'.Wf∧rcF H op (.slice a0 l.length cap) A' H'∧A' 3=.int .i64 i∧Qdk l=Qdk (l.drop i)) l.length ?_ ?_
   ·refine⟨0,L7 _,by omega,hw1,⟨hx1,hb1,?_,g1⟩,?_,rfl⟩
    all_goals simp only[uxA,uxB,Nat.reduceBEq]
    rfl
   ·rintro m A' H' ⟨i,hi,rfl,hw',⟨hx,hb0,r1,g0⟩,r3,he⟩;simp(disch:=(first | omega | (simp only[hnP];try omega))) only[GW,Qk,simprocAttr,g0,r1,r3]
    refine Qf (λh2=>?_) (λh2=>?_)
    ·have h2:i<l.length:=by have:=Lg h2;omega
     obtain⟨a,ha⟩:∃a,l[i]? = some a:=⟨_,La h2⟩;obtain⟨b,rfl,hbl,⟨e,ro,hgb⟩,d1,d3,htk,hle,hk,hn,ei⟩:=atI hv hw hx hl ha;rw[QpQ l i a ha]at he;simp(disch:=(first | omega | (simp only[hnP];try omega))) only[GV,Qk,simprocAttr,g0,r1,r3,d1,d3,hgb,htk,hle]
     refine(Zo a _).thenW ?_;rintro _ _ hn2 hw2 ⟨rfl,k,rfl⟩;have hbk:H.next<k:=N5 hb0 hn2;simp(disch:=(first | omega | (simp only[hnP];try omega))) only[Qk,simprocAttr,r3]
     refine Qf (λh4=>?_) (λh4=>?_)
     ·have h4:(Wn a==0)=false:=by simpa using h4
      rw[h4]at he;have he:Qdk l=Wn a:=by simpa using he
      simp(disch:=(first | omega | (simp only[hnP];try omega))) only[Qk,simprocAttr,WL]
      exact .ext hw (hx.up hn2) ⟨by rw[hrc (by rw[he];exact h4),he],_,rfl⟩
     ·have h4:(Wn a==0)=true:=by simpa using h4
      rw[h4]at he;simp(disch:=(first | omega | (simp only[hnP];try omega))) only[Qk,simprocAttr,r3,ei]
      refine⟨l.length - (i+1),by omega,i+1,by omega,rfl,hw2,⟨hx.up hn2,hbk,?_,g0⟩,?_,by simpa using he⟩
      all_goals simp only[Qg,simprocAttr,r1]
    ·have h2:i=l.length:=by have:=Ll h2;omega
     subst h2;rw[BU]at he;simp(disch:=(first | omega | (simp only[hnP];try omega))) only[Qk,simprocAttr]
     refine QFB hw hv hl hI c1 c2 (by rw[he];rfl) _ _ hw' ⟨hx,hb0,r1,g0⟩
def Gs (size:Nat)(e:TypeId)(H0 H:Qa)(v:Value)(n:Nat)(cs:List Value):Prop:=(v=.slice none 0 0∧n=0∧cs=[])∨∃b,v=.slice (some ⟨b,0,none⟩) n (UNK+size)∧H0.next<=b∧H.get b=some (.cells cs e false)∧cs.length=n * size
def Qla (v:Value)(id:Nat):Prop:=∃o n c,v=.slice (some ⟨id,o,none⟩) n c
theorem Gs.ext {size:Nat}{e:TypeId}{H0 H H':Qa}{v:Value}{n:Nat}{cs:List Value}(h:Gs size e H0 H v n cs)(hk:∀id,Qla v id->H'.get id=H.get id):Gs size e H0 H' v n cs:=by
 rcases h with h | ⟨b,rfl,h2,h3,h4⟩
 ·exact .inl h
 ·exact .inr ⟨b,rfl,h2,by rw[hk b ⟨_,_,_,rfl⟩];exact h3,h4⟩
theorem Gs.low {size:Nat}{e:TypeId}{H0 H:Qa}{v:Value}{n:Nat}{cs:List Value}(h:Gs size e H0 H v n cs)(hw:H.Wf){id:Nat}(hi:Qla v id):H0.next<=id∧id<H.next:=by
 obtain⟨o,n',c,rfl⟩:=hi;rcases h with⟨h,_,_⟩ | ⟨b,h,h2,h3,h4⟩
 ·cases h
 ·cases h;exact⟨h2,hw.lt h3⟩
theorem QHI {size:Nat}{e bytes:Nat}{H0 H:Qa}{v x:Value}{n m:Nat}{cs ms:List Value}{k:Value->Qa->Prop}(hs:Gs size e H0 H v n cs)(hx:Ext H0 H)(hw:H.Wf)(hsrc:J4 size x H=some (m,ms))(hone:ms.all (·.oneCell')=true)(hm:1<=m)(hml:ms.length=m * size)(hb:(n+m) * bytes<=140737488355328)(hn:n+m<=9223372036854775807)
  (h:∀v' H',Gs size e H0 H' v' (n+m) (cs++ms)->Ext H0 H'->H'.Wf->(∀id,id<H.next->¬Qla v id->H'.get id=H.get id)->H'.next=H.next+1->(∀id,Qla v' id->id=H.next)->k v' H'):Qdr e size bytes v x H k:=by
 have hnn:=hx.next;rcases hs with⟨rfl,rfl,rfl⟩ | ⟨b,rfl,h2,h3,h4⟩
 ·refine QnT hsrc hone (by omega) (by rw[LP]at hb;exact hb) (by omega) (h _ _ (.inr ⟨H.next,by rw[LP],hnn,by rw[Qd,Lc rfl,LH],by rw[LH,LP];exact hml⟩) (hx.push _) (hw.push _) (λid hid _=>by rw[Qd,Le (by omega)]) (by rw[Qc]) ?_);rintro id ⟨o,n',c,he⟩;cases he;rfl
 ·have hbl:=hw.lt h3;refine QnS rfl hsrc hone (by omega) h3 (by rw[LP];omega) hb hn (by omega) (h _ _ (.inr ⟨H.next,rfl,hnn,?_,by rw[Lh,h4,hml,Ry]⟩) ?_ ?_ ?_ (by rw[Qc,Qdm]) ?_)
  ·rw[Qd,Qdm,Lc rfl,Lw]
  ·refine⟨by rw[Qc,Qdm];omega,λid hid=>?_⟩;rw[Qd,Qdm,Le (by omega),WS,Le (by omega)];exact hx.get id hid
  ·exact(hw.kill b).push _
  ·intro id hid hnb;have hne:¬id=b:=λh=>hnb ⟨_,_,_,by rw[h]⟩;rw[Qd,Qdm,Le (by omega),WS,Le hne]
  ·rintro id ⟨o,n',c,he⟩;cases he;rfl
theorem QDZ {size m b:Nat}{cap:Nat}{c:List Value}{e:TypeId}{ro:Bool}{H:Qa}(hb:H.get b=some (.cells c e ro))(hm:m≠0)(hc:c.length=m * size):J4 size (.slice (some ⟨b,0,none⟩) m cap) H=some (m,c):=by
 rw[JI hb hm (by omega),Lw,LF (by omega)]
theorem Qs1 (op:Int)(v:Value)(l:List Ar)(x y:Int)(H:Qa)(hv:Qv H v l)(hl:l.length<=1000):Qe prog 81 [.agg #[.int .i64 op,v],.int .i64 x,.int .i64 y] H λu H'=>u=.bool (QbJ x y l)∧∃k,H'=H.up k:=by
 refine QlA λhw=>?_;obtain⟨a0,cap,rfl⟩:=Qu hv;have hx1:Ext H (H.push (.cells [.int .i64 op,.slice a0 l.length cap] 24 false)):=(Ext.refl H).push _;cases h2:((l.length:Int)==2) with
 | false=>
  have hn:QbJ x y l=false:=by
   match l,h2 with
   | [],_=>rfl
   | [_],_=>rfl
   | [_,_],h=>exact absurd h (by simp)
   | _::_::_::_,_=>rfl
  rw[hn];simp(disch:=(first | omega | (simp only[hnP];try omega))) only[GI,Qk,simprocAttr,h2,KJ]
  exact .ext hw hx1 ⟨rfl,_,rfl⟩
 | true=>
  have hl2:l.length=2:=by have:=L0.1 h2;omega
  obtain⟨p,q,rfl⟩:=QxX hl2;obtain⟨b,rfl,hbl,⟨e,ro,hgb⟩,d1,d3,htk,hle,hk,hn,ei⟩:=atI hv hw hx1 hl (i:=0) (a:=p) rfl;obtain⟨b',hbb,hbl',⟨e',ro',hgb'⟩,d1',d3',htk',hle',hk',hn',ei'⟩:=atI hv hw hx1 hl (i:=1) (a:=q) rfl;cases hbb;have c0:(0:Int)<=0∧(0:Int)<(([p,q]:List Ar).length:Int):=by simp
  have c1:(0:Int)<=1∧(1:Int)<(([p,q]:List Ar).length:Int):=by simp
  have z0:(0:Int).toNat=0:=rfl;have z1:(1:Int).toNat=1:=rfl;simp only[BH,Fx]at hk hk';have hA:QbJ x y [p,q]=((p.k==x)&&(q.k==y)):=rfl;rw[hA];clear hA;generalize hH1:H.push _=H1 at *;have g0:H1.get H.next=some (.cells [.int .i64 op,.slice (some ⟨b,0,none⟩) ([p,q]:List Ar).length cap] 24 false):=by rw[<- hH1,Qd,Lc rfl]
  generalize ([p,q]:List Ar).length=len at *;simp(disch:=(first | omega | (simp only[hnP];try omega))) only[GI,Qk,simprocAttr,hH1,h2,g0,c0,c1,z0,z1,hgb,hk]
  cases hp:p.k==x with
  | false=>
   simp(disch:=(first | omega | (simp only[hnP];try omega))) only[Qk,simprocAttr,hp,KJ,NG]
   exact .ext hw hx1 ⟨rfl,_,rfl⟩
  | true=>
   simp(disch:=(first | omega | (simp only[hnP];try omega))) only[Qk,simprocAttr,hp,g0,c0,c1,z0,z1,hgb,hk',KJ,LJ]
   exact .ext hw hx1 ⟨rfl,_,rfl⟩
theorem Qiv (op:Int)(v:Value)(p q:Ar)(H:Qa)(hv:Qv H v [p,q]):Qe prog 82 [.agg #[.int .i64 op,v]] H λu H'=>∃v',u=.agg #[.int .i64 op,v']∧Qv H' v' [q,p]∧Ext H H'∧∀id,Qla v' id->H.next<=id:=by
 refine Qjk λhw=>?_;obtain⟨a0,cap,rfl⟩:=Qu hv;have hx1:Ext H ((H.push (.cells [.int .i64 op,.slice a0 ([p,q]:List Ar).length cap] 24 false)).push (.cells [.int .i64 0,.slice none 0 0] 24 false)):=((Ext.refl H).push _).push _;obtain⟨b,rfl,hbl,⟨e,ro,hgb⟩,d1,d3,htk,hle,hk,hn,ei⟩:=atI hv hw hx1 (by simp) (i:=0) (a:=p) rfl;obtain⟨b',hbb,hbl',⟨e',ro',hgb'⟩,d1',d3',htk',hle',hk',hn',ei'⟩:=atI hv hw hx1 (by simp) (i:=1) (a:=q) rfl;cases hbb;have c0:(0:Int)<=0∧(0:Int)<(([p,q]:List Ar).length:Int):=by simp
 have c1:(0:Int)<=1∧(1:Int)<(([p,q]:List Ar).length:Int):=by simp
 have z0:(0:Int).toNat=0:=rfl;have z1:(1:Int).toNat=1:=rfl;simp only[BH,Fx,LP]at htk htk' hle hle';generalize hH1:(H.push _).push _=H1 at *;have hn1:H1.next=H.next+2:=by rw[<- hH1];rfl
 have g0:H1.get H.next=some (.cells [.int .i64 op,.slice (some ⟨b,0,none⟩) ([p,q]:List Ar).length cap] 24 false):=by rw[<- hH1,Qd,Le (by rw[Qc];omega),Qd,Lc rfl]
 have g1:H1.get (H.next+1)=some (.cells [.int .i64 0,.slice none 0 0] 24 false):=by rw[<- hH1,Qd,Lc (by rw[Qc])]
 generalize ([p,q]:List Ar).length=len at *;obtain⟨C,hC⟩:∃C,Qi [p,q]=C:=⟨_,rfl⟩;rw[hC]at hgb htk htk' hle hle';rw[Lw]at htk;have hcc:Qi [q,p]=q.cells++p.cells:=by simp[Qi]
 have hxe:Ext H H1:=hx1;unfold Qv;rw[hcc];clear hcc hgb' hk hk' hn hn' hv hC hx1;obtain⟨pk,⟨prc,prn⟩,⟨⟨pbc,pbn⟩,⟨pic,pin⟩,psc,pd,psz⟩,pn⟩:=p;obtain⟨qk,⟨qrc,qrn⟩,⟨⟨qbc,qbn⟩,⟨qic,qin⟩,qsc,qd,qsz⟩,qn⟩:=q;simp only[Ar.cells,Nm,LH]at htk htk' ⊢;simp(disch:=(first | omega | (simp only[hnP];try omega))) only[QbR,Qk,simprocAttr,hH1,g0,g1,c0,c1,z0,z1,hgb,htk,htk',hle,hle',LP]
 simp(disch:=(first | omega | (simp only[hnP];try omega))) only[Qk,simprocAttr,List.drop_succ_cons,List.take_succ_cons,Rb,LH,Nm,Qh1]
 refine .mk (by simp only[Qt,Qc];omega) ⟨_,rfl,⟨_,_,rfl,λ_=>⟨H1.next,58,false,rfl,?_⟩⟩,(hxe.push _).set (by omega) _,λid ⟨_,_,_,h⟩=>by cases h;omega⟩;rw[Qq,Le (by omega),Qd,Lc rfl]
def cF (ib:Int×Bool)(a:Ar):Ar:=if((Wu a).1.k==3)=true then {(Wu a).1 with n:=(WZ (Wu a).1.n ib.1 ib.2).1} else(Wu a).1
theorem Qx0 (ib:Int×Bool):∀l:List Ar,Qdk l=0->Qe6 ib l=0->XE ib l=(l.map (cF ib),0)
 | [],_,_=>rfl
 | a::l,h1,h2=>by
  have ha:(Wn a==0)=true:=by
   unfold Qdk at h1;split at h1
   ·assumption
   ·rename_i h9;rw[h1]at h9;exact absurd rfl h9
  have h1':Qdk l=0:=by unfold Qdk at h1;rw[Lc ha]at h1;exact h1
  have hE:Wu a=(QdD a,0):=by unfold Wu;rw[Lc ha]
  have hk:(QdD a).k=a.k:=by unfold QdD;split;rfl;split<;>rfl
  have hn:(a.k==3)=true->(QdD a).n=a.n:=λh=>by
   have:=L0.1 h;unfold QdD;rw[this];rfl
  have key:VT ib a=(cF ib a,0)∧Qe6 ib l=0:=by
   unfold Qe6 at h2;unfold VT cF;rw[hE];simp only[hk];cases h3:a.k==3 with
   | false=>rw[h3]at h2;exact⟨rfl,by simpa using h2⟩
   | true=>
    rw[h3]at h2;simp only[N3]at h2;cases h4:(WZ a.n ib.1 ib.2).2==0 with
    | true=>
     rw[h4]at h2;rw[hn h3];refine⟨?_,by simpa using h2⟩;simp[L0.1 h4]
    | false=>
     rw[h4]at h2;have:(WZ a.n ib.1 ib.2).2=0:=by simpa using h2
     rw[this]at h4;exact absurd h4 (by simp)
  unfold XE;rw[key.1,Qx0 ib l h1' key.2];rfl
theorem QCo {op:Int}{l:List Ar}(h:Q8 op l=0):Wa op l=(op,ZR op (l.map (cF (QU op l))),0):=by
 have hr:=QpT op l;rw[h]at hr;have:Qdk l=0∧Qe6 (QU op l) l=0:=by
  unfold QcH at hr;split at hr
  ·omega
  split at hr
  ·omega
  split at hr
  ·rename_i h9;rw[hr]at h9;exact absurd h9 (by simp)
  rename_i h9;split at hr
  ·omega
  exact⟨by simpa using h9,hr⟩
 unfold Wa;rw[h,Qx0 _ l this.1 this.2];rfl
theorem QCp {op:Int}{l:List Ar}(h:(Q8 op l==0)=false):Wa op l=(0,[],Q8 op l):=by
 unfold Wa;rw[Lc h]
theorem QJd {size e n:Nat}{H0 H:Qa}{v:Value}{cs:List Value}(h:Gs size e H0 H v n cs)(hs:0<size):Qdw H v n cs:=by
 rcases h with⟨rfl,rfl,rfl⟩ | ⟨b,rfl,h1,h2,h3⟩
 ·exact⟨none,0,rfl,λh=>absurd h (NX 0)⟩
 ·exact⟨_,_,rfl,λ_=>⟨b,e,false,rfl,h2⟩⟩
def QJe (op:Int)(l:List Ar)(H:Qa)(u:Value)(H':Qa):Prop:=
 Ext H H'∧∃v',u=.tuple #[.agg #[.int .i64 (Wa op l).1,v'],.int .i64 (Wa op l).2.2]∧Qv H' v' (Wa op l).2.1∧∀a n c,v'=.slice (some a) n c->H.next<=a.block∧a.block<H'.next
section
variable {H:Qa} {op:Int} {l:List Ar}
abbrev KD (H:Qa)(op:Int)(l:List Ar):Env->Qa->Prop:=Rt prog Tryz.f80 H (QJe op l H)
structure CnF (H:Qa) (op:Int) (v:Value) (D:Nat) (w:Value) (m:List Ar) (A:Env) (H':Qa):Prop where
 x:Ext H H'
 lt:H.next+2<=D
 r1:A 1=.pointer (some ⟨H.next,0,none⟩)
 r2:A 2=.pointer (some ⟨H.next+1,0,none⟩)
 r5:A 5=.pointer (some ⟨D,0,none⟩)
 g0:H'.get H.next=some (.cells [.int .i64 op,v] 24 false)
 g1:H'.get (H.next+1)=some (.cells [.int .i64 0,.slice none 0 0] 24 false)
 gD:H'.get D=some (.cells [.int .i64 op,w] 24 false)
 ars:Qv H' w m
 hi:∀id,Qla w id->D<id
 hb:∀a n c,w=.slice (some a) n c->H.next<=a.block∧a.block<H'.next
theorem CnF.ext {v w:Value}{D:Nat}{m:List Ar}{A B:Env}{H1 H2:Qa}(h:CnF H op v D w m A H1)(hw:H1.Wf)(hx:Ext H1 H2)(e1:B 1=A 1)(e2:B 2=A 2)(e5:B 5=A 5):CnF H op v D w m B H2:=by
 have hn:=hx.next;exact⟨⟨by have:=h.x.next;omega,λid hid=>by rw[hx.get id (by have:=h.x.next;omega)];exact h.x.get id hid⟩,h.lt,e1.trans h.r1,e2.trans h.r2,e5.trans h.r5,by rw[hx.get _ (hw.lt h.g0)];exact h.g0,by rw[hx.get _ (hw.lt h.g1)];exact h.g1,by rw[hx.get _ (hw.lt h.gD)];exact h.gD,h.ars.ext hw hx,h.hi,λa n c e=>by have:=h.hb a n c e;omega⟩
def Qmp:PC:=(.seq (.ops [Ow 134 (.ld true 2 (t 5)),Ov (.st 2 (t 2) (t 134)),Om 3 (Ci 0)]) .ret)
theorem QHJ {v w:Value}{D:Nat}{m:List Ar}{A:Env}{H1:Qa}(hw1:H1.Wf)(hF:CnF H op v D w m A H1)(hm:Wa op l=(op,m,0))(e:Nat->Env->Qa->Prop):
  Qm prog Qmp ⟨KD H op l,e⟩ (KD H op l) A H1:=by
 obtain⟨hx,hlt,r1,r2,r5,g0,g1,gD,hars,hhi,hhb⟩:=hF;obtain⟨ca,cap,rfl⟩:=Qu hars;simp(disch:=(first | omega | (simp only[hnP];try omega))) only[Qmp,Qk,simprocAttr,r2,r5,gD,g1,V8]
 have hx2:Ext H (H1.set (H.next+1) (.cells [.int .i64 op,.slice ca m.length cap] 24 false)):=hx.set (by omega) _;refine .mk hx2.next ⟨hx2,_,by rw[hm],?_,hhb⟩;rw[hm];obtain⟨a1,cap1,e1,h1⟩:=hars;cases e1;refine⟨ca,cap,rfl,λhn=>?_⟩;obtain⟨b,e',ro,rfl,hb⟩:=h1 hn;have:=hhi b ⟨_,_,_,rfl⟩;exact⟨b,e',ro,rfl,by rw[Qq,Le (by omega)];exact hb⟩
theorem QzN {v w w':Value}{D:Nat}{m m':List Ar}{A:Env}{H1 H2:Qa}(hw1:H1.Wf)(hF:CnF H op v D w m A H1)(hx:Ext H1 H2)(hw2:H2.Wf)(hm0:0<m'.length)(ha:Qv H2 w' m')(hn:∀id,Qla w' id->H1.next<=id){B:Env}(e1:B 1=A 1)(e2:B 2=A 2)(e5:B 5=A 5):
  CnF H op v D w' m' B (H2.set D (.cells [.int .i64 op,w'] 24 false)):=by
 have h:=hF.ext (B:=B) hw1 hx e1 e2 e5;have hD:=hw1.lt hF.gD;refine⟨h.x.set (by have:=h.lt;omega) _,h.lt,h.r1,h.r2,h.r5,?_,?_,by rw[Qq,Lc rfl],?_,λid hid=>by have:=hn id hid;omega,λa n c e=>?_⟩
 ·rw[Qq,Le (by have:=h.lt;omega)];exact h.g0
 ·rw[Qq,Le (by have:=h.lt;omega)];exact h.g1
 ·obtain⟨a,cap,rfl,h1⟩:=ha;refine⟨a,cap,rfl,λhn0=>?_⟩;obtain⟨b,e,ro,rfl,hb⟩:=h1 hn0;have:=hn b ⟨_,_,_,rfl⟩;exact⟨b,e,ro,rfl,by rw[Qq,Le (by omega)];exact hb⟩
 ·obtain⟨a',cap,e',h1⟩:=ha;obtain⟨b,e9,ro,rfl,hb⟩:=h1 hm0;rw[e']at e hn;cases e;have:=hn b ⟨_,_,_,rfl⟩;have:=hF.x.next;exact⟨by show H.next<=b;omega,by show b<H2.next;exact hw2.lt hb⟩
theorem QD0 {op:Int}{l:List Ar}(h:Qrf op l=true):∃x y,l=[x,y]:=by
 match l,h with
 | [x,y],_=>exact⟨x,y,rfl⟩
theorem QHK:WB=(.seq (.block 2 (.seq (.ops [Ow 60 (.fldA 0 (t 1)),Ow 61 (.ld false 1 (t 60)),Ow 62 (.bin .eql (t 61) (Ci 16)),Om 63 (t 62),Og 64 (.ld true 2 (t 5)) 63 true,Og 65 (.call 81 [(t 64),(Ci 1),(Ci 3)]) 63 true,Ow 66 (.pick (t 63) (t 65) (.const (.bool false))),Om 59 (t 66)]) (.cond (t 59) ZW WA))) Qmp):=rfl
theorem QD1 {v w:Value}{D:Nat}{m:List Ar}{A:Env}{H1:Qa}(hw1:H1.Wf)(hF:CnF H op v D w m A H1)(hml:m.length<=4)(hm:Wa op l=(op,ZR op m,0)):
  Qm prog WB ⟨KD H op l,WJ⟩ (KD H op l) A H1:=by
 have hend:∀ (w:Value) (m:List Ar) (A:Env) (H1:Qa),H1.Wf->CnF H op v D w m A H1->Wa op l=(op,m,0)->Qm prog Qmp ⟨KD H op l,WJ⟩ (KD H op l) A H1:=λw m A H1 a b c=>QHJ a b c WJ;have hF0:=hF;obtain⟨hx,hlt,r1,r2,r5,g0,g1,gD,hars,hhi⟩:=hF;have hD:=hw1.lt gD;have hsw:∀ (x y:Ar) (ks:Kp) (A2:Env) (H2:Qa),m=[x,y]->H2.Wf->Ext H1 H2->A2 1=A 1->A2 2=A 2->A2 5=A 5->ZR op m=[y,x]->Qm prog (.ops [Ow 94 (.ld true 2 (t 5)),Ow 95 (.call 82 [(t 94)]),Ov (.st 2 (t 5) (t 95))]) ks (Qm prog Qmp ⟨KD H op l,WJ⟩ (KD H op l)) A2 H2:=by
  intro x y ks A2 H2 hm2 hw2 hx2 q1 q2 q5 hr;have hF2:=hF0.ext hw1 hx2 q1 q2 q5;subst hm2;simp(disch:=(first | omega | (simp only[hnP];try omega))) only[Qk,simprocAttr,hF2.r5,hF2.gD]
  refine(Qiv op w x y H2 hF2.ars).thenW ?_;rintro _ H3 hn3 hw3 ⟨v',rfl,ha3,hx3,hn'⟩;obtain⟨b,cap,hb⟩:=Qu ha3;have gD3:H3.get D=some (.cells [.int .i64 op,w] 24 false):=by rw[hx3.get D (hw2.lt hF2.gD)];exact hF2.gD
  subst hb;simp(disch:=(first | omega | (simp only[hnP];try omega))) only[Qk,simprocAttr,hF2.r5,gD3]
  refine hend (.slice b ([y,x]:List Ar).length cap) [y,x] _ _ (hw3.set gD3 _) ?_ (by rw[hm,hr]);refine QzN hw2 hF2 hx3 hw3 (by simp) ha3 hn' ?_ ?_ ?_
  all_goals simp only[Qg,simprocAttr]
 have hsw2:∀ (x y:Ar) (ks:Kp) (A2:Env) (H2:Qa),m=[x,y]->H2.Wf->Ext H1 H2->A2 1=A 1->A2 2=A 2->A2 5=A 5->ZR op m=[y,x]->Qm prog (.ops [Ow 132 (.ld true 2 (t 5)),Ow 133 (.call 82 [(t 132)]),Ov (.st 2 (t 5) (t 133))]) ks (Qm prog Qmp ⟨KD H op l,WJ⟩ (KD H op l)) A2 H2:=by
  intro x y ks A2 H2 hm2 hw2 hx2 q1 q2 q5 hr;have hF2:=hF0.ext hw1 hx2 q1 q2 q5;subst hm2;simp(disch:=(first | omega | (simp only[hnP];try omega))) only[Qk,simprocAttr,hF2.r5,hF2.gD]
  refine(Qiv op w x y H2 hF2.ars).thenW ?_;rintro _ H3 hn3 hw3 ⟨v',rfl,ha3,hx3,hn'⟩;obtain⟨b,cap,hb⟩:=Qu ha3;have gD3:H3.get D=some (.cells [.int .i64 op,w] 24 false):=by rw[hx3.get D (hw2.lt hF2.gD)];exact hF2.gD
  subst hb;simp(disch:=(first | omega | (simp only[hnP];try omega))) only[Qk,simprocAttr,hF2.r5,gD3]
  refine hend (.slice b ([y,x]:List Ar).length cap) [y,x] _ _ (hw3.set gD3 _) ?_ (by rw[hm,hr]);refine QzN hw2 hF2 hx3 hw3 (by simp) ha3 hn' ?_ ?_ ?_
  all_goals simp only[Qg,simprocAttr]
 have his:∀ (x y:Int) (H2:Qa),H2.Wf->Ext H1 H2->Qe prog 81 [.agg #[.int .i64 op,w],.int .i64 x,.int .i64 y] H2 λu H'=>u=.bool (QbJ x y m)∧∃k,H'=H2.up k:=λx y H2 hw2 hx2=>Qs1 op w m x y H2 (hars.ext hw1 hx2) (by omega)
 -- nothing more
 have hno:∀ (A2:Env) (H2:Qa),H2.Wf->Ext H1 H2->A2 1=A 1->A2 2=A 2->A2 5=A 5->ZR op m=m->Qm prog Qmp ⟨KD H op l,WJ⟩ (KD H op l) A2 H2:=λA2 H2 hw2 hx2 q1 q2 q5 hr=>hend w m _ _ hw2 (hF0.ext hw1 hx2 q1 q2 q5) (by rw[hm,hr])
 -- ranked
 have P3:∀ (A2:Env) (H2:Qa) (ks:Kp),H2.Wf->Ext H1 H2->A2 1=A 1->A2 2=A 2->A2 5=A 5->QsZ op m=false->Qt0 op m=false->Qm prog ZX ks (Qm prog Qmp ⟨KD H op l,WJ⟩ (KD H op l)) A2 H2:=by
  intro A2 H2 ks hw2 hx2 q1 q2 q5 h1 h2;have hF2:=hF0.ext hw1 hx2 q1 q2 q5;have hr:ZR op m=if Qrf op m=true then m.reverse else m:=by unfold ZR;rw[h1,h2];simp
  simp(disch:=(first | omega | (simp only[hnP];try omega))) only[ZX,Qk,simprocAttr,hF2.r1,hF2.r5,hF2.g0,hF2.gD]
  have hrno:(op==11)=false∨QbJ 1 1 m=false->ZR op m=m:=λh=>by
   rw[hr,Le];intro hk;obtain⟨x,y,hxy⟩:=QD0 hk;rw[hxy]at hk h;have hk2:((op==11)&&(((x.k==1)&&(y.k==1))&&(x.r.c==y.r.c))&&!(decide (x.r.n<=y.r.n)))=true:=hk;simp only[Lm]at hk2;rcases h with h | h
   ·rw[hk2.1.1]at h;cases h
   ·have:QbJ 1 1 [x,y]=((x.k==1)&&(y.k==1)):=rfl;rw[this,hk2.1.2.1.1,hk2.1.2.1.2]at h;cases h
  cases h11:op==11 with
  | false=>
   simp(disch:=(first | omega | (simp only[hnP];try omega))) only[Qk,simprocAttr]
   refine hno _ _ hw2 hx2 ?_ ?_ ?_ (hrno (.inl h11))
   all_goals simp only[Qg,simprocAttr,q1,q2,q5]
  | true=>
   simp(disch:=(first | omega | (simp only[hnP];try omega))) only[Qk,simprocAttr,hF2.r5,hF2.gD]
   refine(his 1 1 _ hw2 hx2).thenW ?_;rintro _ _ hn3 hw3 ⟨rfl,k3,rfl⟩;have hx3:Ext H1 (H2.up k3):=hx2.up hn3;cases hA:QbJ 1 1 m with
   | false=>
    simp(disch:=(first | omega | (simp only[hnP];try omega))) only[Qk,simprocAttr]
    refine hno _ _ hw3 hx3 ?_ ?_ ?_ (hrno (.inr hA))
    all_goals simp only[Qg,simprocAttr,q1,q2,q5]
   | true=>
    obtain⟨x,y,rfl⟩:=QhB hA;have hF3:=hF0.ext (B:=A2) hw1 hx3 q1 q2 q5;obtain⟨a0,cap,hwv⟩:=Qu hF3.ars;have hars3:=hF3.ars;rw[hwv]at hars3;obtain⟨b,rfl,hbl,⟨e,ro,hgb⟩,d1,d3,htk,hle,hk,hn,ei⟩:=atI (H:=H2.up k3) (H':=H2.up k3) hars3 hw3 (.refl _) (by simp) (i:=0) (a:=x) rfl;have gD3:=hF3.gD;rw[hwv]at gD3;have c0:(0:Int)<=0∧(0:Int)<(([x,y]:List Ar).length:Int):=by simp
    have c1:(0:Int)<=1∧(1:Int)<(([x,y]:List Ar).length:Int):=by simp
    have z0:(0:Int).toNat=0:=rfl;have z1:(1:Int).toNat=1:=rfl;have f0:(Qi [x,y])[0 * 11+1]? = some (.int .i64 x.r.c):=rfl;have f1:(Qi [x,y])[0 * 11+1+1]? = some (.int .i64 x.r.n):=rfl;have f2:(Qi [x,y])[1 * 11+1]? = some (.int .i64 y.r.c):=rfl;have f3:(Qi [x,y])[1 * 11+1+1]? = some (.int .i64 y.r.n):=rfl;simp only[BH,Fx,LP]at f0 f1 f2 f3;simp only[Nat.reduceAdd]at f0 f1 f2 f3;have hrr:ZR op [x,y]=if((x.r.c==y.r.c)&&decide (y.r.n<x.r.n))=true then[y,x] else[x,y]:=by
     rw[hr];have hk2:(x.k==1)=true∧(y.k==1)=true:=by
      have:QbJ 1 1 [x,y]=((x.k==1)&&(y.k==1)):=rfl;rw[this]at hA;simpa using hA
     have:Qrf op [x,y]=((x.r.c==y.r.c)&&decide (y.r.n<x.r.n)):=by
      show((op==11)&&QdF [x,y]&&!(decide (x.r.n<=y.r.n)))=_;rw[h11];show(true&&(((x.k==1)&&(y.k==1))&&(x.r.c==y.r.c))&&!(decide (x.r.n<=y.r.n)))=_;rw[hk2.1,hk2.2];simp only[LJ];congr 1
      by_cases hle:x.r.n<=y.r.n
      ·rw[Lp hle,Lj (by omega)];rfl
      ·rw[Lj hle,Lp (by omega)];rfl
     rw[this];rfl
    generalize Qi [x,y]=C at f0 f1 f2 f3 hgb;generalize ([x,y]:List Ar).length=len at gD3 c0 c1;simp(disch:=(first | omega | (simp only[hnP];try omega))) only[G0,Qk,simprocAttr,hF3.r5,gD3,c0,c1,z0,z1,hgb,f0,f1,f2,f3]
    cases hcc:x.r.c==y.r.c with
    | false=>
     simp(disch:=(first | omega | (simp only[hnP];try omega))) only[Qk,simprocAttr]
     refine hno _ _ hw3 hx3 ?_ ?_ ?_ (by rw[hrr,hcc];rfl)
     all_goals simp only[Qg,simprocAttr,q1,q2,q5]
    | true=>
     simp(disch:=(first | omega | (simp only[hnP];try omega))) only[Qk,simprocAttr,hF3.r5,gD3,c0,c1,z0,z1,hgb,f0,f1,f2,f3]
     cases hnn:decide (y.r.n<x.r.n) with
     | false=>
      simp(disch:=(first | omega | (simp only[hnP];try omega))) only[Qk,simprocAttr]
      refine hno _ _ hw3 hx3 ?_ ?_ ?_ (by rw[hrr,hcc,hnn];rfl)
      all_goals simp only[Qg,simprocAttr,q1,q2,q5]
     | true=>
      simp only[KE,QqW,J5,VG,Nat.reduceBEq,bf,bt,Qfj,QnK,Lq];have hrl:ZR op [x,y]=[y,x]:=by rw[hrr,hcc,hnn];rfl
      refine hsw2 x y _ _ _ rfl hw3 hx3 ?_ ?_ ?_ hrl
      all_goals simp only[Qg,simprocAttr,q1,q2,q5]
 -- placed
 have P4:∀ (A2:Env) (H2:Qa) (ks:Kp),H2.Wf->Ext H1 H2->A2 1=A 1->A2 2=A 2->A2 5=A 5->QsZ op m=false->Qm prog WA ks (Qm prog Qmp ⟨KD H op l,WJ⟩ (KD H op l)) A2 H2:=by
  intro A2 H2 ks hw2 hx2 q1 q2 q5 h1;have hF2:=hF0.ext hw1 hx2 q1 q2 q5;have hpl:Qt0 op m=((op==10||op==11)&&QbJ 1 2 m):=rfl;cases h10:op==10 with
  | true=>
   have hop:(op==10||op==11)=true:=by rw[h10];rfl
   simp(disch:=(first | omega | (simp only[hnP];try omega))) only[WA,Qk,simprocAttr,hF2.r1,hF2.r5,hF2.g0,hF2.gD,h10]
   refine(his 1 2 _ hw2 hx2).thenW ?_;rintro _ _ hn3 hw3 ⟨rfl,k3,rfl⟩;have hx3:Ext H1 (H2.up k3):=hx2.up hn3;cases hA:QbJ 1 2 m with
   | false=>
    simp only[Yk,Zb,J6,JH,Qlm,Qcw,Qj4,KE,QqW,J5,VG,YJ,Nat.reduceBEq,bf,bt,Qfj,Qem,Ls,Lq];refine P3 _ _ _ hw3 hx3 ?_ ?_ ?_ h1 (by rw[hpl,hA,NJ])
    all_goals simp only[Qg,simprocAttr,q1,q2,q5]
   | true=>
    obtain⟨x,y,hxy⟩:=QhB hA;simp only[Yk,Zb,J6,JH,Qlm,Qcw,Qj4,KE,QqW,J5,VG,YJ,Nat.reduceBEq,bf,bt,Qfj,QnK,Ls,Lq];refine hsw x y _ _ _ hxy hw3 hx3 ?_ ?_ ?_ (by unfold ZR;rw[h1,hpl,hA,hop,hxy];rfl)
    all_goals simp only[Qg,simprocAttr,q1,q2,q5]
  | false=>
   cases h11:op==11 with
   | true=>
    have hop:(op==10||op==11)=true:=by rw[h11,Bd]
    simp(disch:=(first | omega | (simp only[hnP];try omega))) only[WA,Qk,simprocAttr,hF2.r1,hF2.r5,hF2.g0,hF2.gD,h10,h11]
    refine(his 1 2 _ hw2 hx2).thenW ?_;rintro _ _ hn3 hw3 ⟨rfl,k3,rfl⟩;have hx3:Ext H1 (H2.up k3):=hx2.up hn3;cases hA:QbJ 1 2 m with
    | false=>
     simp only[Yk,Zb,J6,JH,Qlm,Qcw,Qj4,KE,QqW,J5,VG,YJ,Nat.reduceBEq,bf,bt,Qfj,Qem,Ls,Lq];refine P3 _ _ _ hw3 hx3 ?_ ?_ ?_ h1 (by rw[hpl,hA,NJ])
     all_goals simp only[Qg,simprocAttr,q1,q2,q5]
    | true=>
     obtain⟨x,y,hxy⟩:=QhB hA;simp only[Yk,Zb,J6,JH,Qlm,Qcw,Qj4,KE,QqW,J5,VG,YJ,Nat.reduceBEq,bf,bt,Qfj,QnK,Ls,Lq];refine hsw x y _ _ _ hxy hw3 hx3 ?_ ?_ ?_ (by unfold ZR;rw[h1,hpl,hA,hop,hxy];rfl)
     all_goals simp only[Qg,simprocAttr,q1,q2,q5]
   | false=>
    simp(disch:=(first | omega | (simp only[hnP];try omega))) only[WA,Qk,simprocAttr,hF2.r1,hF2.r5,hF2.g0,hF2.gD,h10,h11]
    refine P3 _ _ _ hw2 hx2 ?_ ?_ ?_ h1 (by rw[hpl,h10,h11];rfl)
    all_goals simp only[Qg,simprocAttr,q1,q2,q5]
 have hdb:QsZ op m=((op==16)&&QbJ 1 3 m):=rfl;simp only[QHK,V1,Qfi];cases h16:op==16 with
 | false=>
  simp(disch:=(first | omega | (simp only[hnP];try omega))) only[Qk,simprocAttr,r1,r5,g0,gD,h16]
  refine P4 _ _ _ hw1 (.refl _) ?_ ?_ ?_ (by rw[hdb,h16];rfl)
  all_goals simp only[Qg,simprocAttr]
 | true=>
  simp(disch:=(first | omega | (simp only[hnP];try omega))) only[Qk,simprocAttr,r1,r5,g0,gD,h16]
  refine(his 1 3 _ hw1 (.refl _)).thenW ?_;rintro _ _ hn3 hw3 ⟨rfl,k3,rfl⟩;have hx3:Ext H1 (H1.up k3):=(Ext.refl H1).up hn3;cases hA:QbJ 1 3 m with
  | false=>
   simp only[Yk,Zb,J6,JH,Qlm,Qcw,Qj4,KE,QqW,J5,VG,YJ,Nat.reduceBEq,bf,bt,Qfj,Qem,Ls,Lq];refine P4 _ _ _ hw3 hx3 ?_ ?_ ?_ (by rw[hdb,hA,NJ])
   all_goals simp only[Qg,simprocAttr]
  | true=>
   obtain⟨x,y,hxy⟩:=QhB hA;subst hxy;have hF3:=hF0.ext (B:=A) hw1 hx3 rfl rfl rfl;obtain⟨a0,cap,hwv⟩:=Qu hF3.ars;have hars3:=hF3.ars;rw[hwv]at hars3;obtain⟨b,rfl,hbl,⟨e,ro,hgb⟩,d1,d3,htk,hle,hk,hn,ei⟩:=atI (H:=H1.up k3) (H':=H1.up k3) hars3 hw3 (.refl _) (by simp) (i:=0) (a:=x) rfl;obtain⟨b',hbb,hbl',⟨e',ro',hgb'⟩,d1',d3',htk',hle',hk',hn',ei'⟩:=atI (H:=H1.up k3) (H':=H1.up k3) hars3 hw3 (.refl _) (by simp) (i:=1) (a:=y) rfl;cases hbb;have gD3:=hF3.gD;rw[hwv]at gD3;have hrl:ZR op [x,y]=[x,x,y]:=by unfold ZR;rw[hdb,h16,hA];rfl
   have c0:(0:Int)<=0∧(0:Int)<(([x,y]:List Ar).length:Int):=by simp
   have c1:(0:Int)<=1∧(1:Int)<(([x,y]:List Ar).length:Int):=by simp
   have z0:(0:Int).toNat=0:=rfl;have z1:(1:Int).toNat=1:=rfl;simp only[BH,Fx,LP,Lw]at htk htk' hle hle';have hcc:Qi [x,x,y]=x.cells++(x.cells++y.cells):=by simp[Qi]
   have hput:=fun(H2:Qa) (w':Value) (hx2:Ext (H1.up k3) H2) (hw2:H2.Wf) (ha:Qv H2 w' [x,x,y]) (hnn:∀id,Qla w' id->(H1.up k3).next<=id) (B:Env) (e1:B 1=A 1) (e2:B 2=A 2) (e5:B 5=A 5)=>QzN (A:=A) hw3 hF3 hx2 hw2 (by simp) ha hnn e1 e2 e5;generalize ([x,y]:List Ar).length=len at gD3 c0 c1;generalize Qi [x,y]=C at hgb hgb' htk htk' hle hle';have hrx:=hrl;unfold Qv at hput;rw[hcc]at hput;clear hcc hk hk' hn hn' hwv;have hfin:∀ (w':Value) (A2:Env) (H2:Qa),H2.Wf->CnF H op v D w' [x,x,y] A2 H2->Qm prog Qmp ⟨KD H op l,WJ⟩ (KD H op l) A2 H2:=λw' A2 H2 a b=>hend w' [x,x,y] A2 H2 a b (by rw[hm,hrl]);have hwf3:=hw3;have hD3:D<k3:=by have:=hw3.lt gD3;exact this
   clear hm hrl hrx hF0 hF3 hend hsw hsw2 his hno P3 P4 hars hars3 hA hdb;obtain⟨pk,⟨prc,prn⟩,⟨⟨pbc,pbn⟩,⟨pic,pin⟩,psc,pd,psz⟩,pn⟩:=x;obtain⟨qk,⟨qrc,qrn⟩,⟨⟨qbc,qbn⟩,⟨qic,qin⟩,qsc,qd,qsz⟩,qn⟩:=y;simp only[Ar.cells,Nm,LH]at htk htk' hput;simp(disch:=(first | omega | (simp only[hnP];try omega))) only[ZW,sxA,sxB,Nat.reduceBEq,Nat.reduceEqDiff,reduceCtorEq,mxD,mxB,Nat.reduceAdd,reduceIte,Nat.reduceLeDiff,splice,r5,gD3,c0,c1,z0,z1,hgb,htk,htk',hle,hle',LP]
   rw[Lc (by decide)];simp(disch:=(first | omega | (simp only[hnP];try omega))) only[Qk,simprocAttr,r5,gD3]
   refine hfin (.slice (some ⟨k3,0,none⟩) 3 3) _ _ ((hwf3.push _).set (b0:=.cells [.int .i64 op,.slice (some ⟨b,0,none⟩) len cap] 24 false) (by rw[Qd,Le (by rw[Ql];omega)];exact gD3) _) (hput _ _ ((Ext.refl _).push _) (hwf3.push _) ⟨_,_,rfl,λ_=>⟨k3,58,false,rfl,?_⟩⟩ (λid ⟨_,_,_,h⟩=>by cases h;exact Lb _) _ ?_ ?_ ?_)
   ·rw[Qd,Lc (by rw[Ql])]
   all_goals simp only[Qg,simprocAttr]
end
def QAV:PC:=(.ops [Ow 53 (.fldA 1 (t 5)),Ow 54 (.ld false 1 (t 53)),Ow 55 (.ld true 11 (t 7)),Ow 56 (.bslice 58 11 1 [.int .i64 0,.int .i64 0,.int .i64 0,.int .i64 0,.int .i64 0,.int .i64 0,.int .i64 0,.int .i64 0,.int .i64 0,.int .i64 0,.int .i64 0] [(0,(t 55))]),Ow 57 (.app 58 11 88 (t 54) (t 56)),Ow 58 (.fldA 1 (t 5)),Ov (.st 1 (t 58) (t 57))])
theorem QHL:G3=(.seq (.block 1 (.seq (.ops [Ow 28 (.fldA 1 (t 1)),Ow 29 (.ld false 1 (t 28)),Om 30 (t 6),Ow 31 (.idxS 11 (t 29) (t 30)),Ow 32 (.ld true 11 (t 31)),Ow 33 (.call 120 [(t 32)]),Om 27 (t 33),Ow 34 (.ext (t 27) 0),Ow 35 (.ext (t 27) 1),Ow 7 (.alloc 58 [.int .i64 0,.int .i64 0,.int .i64 0,.int .i64 0,.int .i64 0,.int .i64 0,.int .i64 0,.int .i64 0,.int .i64 0,.int .i64 0,.int .i64 0]),Ov (.st 11 (t 7) (t 34)),Om 8 (t 35)]) (.seq (.seq (.ops [Ow 36 (.fldA 0 (t 7)),Ow 37 (.ld false 1 (t 36)),Ow 38 (.bin .eql (t 37) (Ci 3))]) (.cond (t 38) ZY .skip)) QAV))) (.ops [Om 25 (t 6),Ow 26 (.bin .add (t 25) (Ci 1)),Om 6 (t 26)])):=rfl
structure CnL (HC:Qa) (D:Nat) (op:Int) (H:Qa) (w:Value) (d:List Ar) (A:Env) (H':Qa):Prop where
 wf:H'.Wf
 x:Ext HC H'
 r1:A 1=.pointer (some ⟨H.next,0,none⟩)
 r2:A 2=.pointer (some ⟨H.next+1,0,none⟩)
 r5:A 5=.pointer (some ⟨D,0,none⟩)
 gD:H'.get D=some (.cells [.int .i64 op,w] 24 false)
 gs:Gs 11 58 HC H' w d.length (Qi d)
 ap:¬Qla w D
theorem CnL.ext {HC:Qa}{D:Nat}{op:Int}{H:Qa}{w:Value}{d:List Ar}{A B:Env}{H1 H2:Qa}(h:CnL HC D op H w d A H1)(hx:Ext H1 H2)(hw2:H2.Wf)(e1:B 1=A 1)(e2:B 2=A 2)(e5:B 5=A 5):CnL HC D op H w d B H2:=by
 have hn:=hx.next;have hn0:=h.x.next;refine⟨hw2,⟨by omega,λid hid=>by rw[hx.get id (by omega)];exact h.x.get id hid⟩,e1.trans h.r1,e2.trans h.r2,e5.trans h.r5,by rw[hx.get _ (h.wf.lt h.gD)];exact h.gD,h.gs.ext λid hid=>hx.get id ?_,h.ap⟩;exact(h.gs.low h.wf hid).2
theorem QzO {HC:Qa}{D E:Nat}{op:Int}{H:Qa}{w:Value}{d:List Ar}{A:Env}{H':Qa}{ks:Kp}{k:Env->Qa->Prop}{b:Ar}(hF:CnL HC D op H w d A H')(hD:HC.next<=D)(hd:d.length<=100)(r7:A 7=.pointer (some ⟨E,0,none⟩))(gE:H'.get E=some (.cells b.cells 58 false))
  (hk:∀ (B:Env) (w':Value) (H2:Qa),CnL HC D op H w' (d++[b]) B H2->B 6=A 6->k B H2):Qm prog QAV ks k A H':=by
 obtain⟨hw,hx,r1,r2,r5,gD,hgs,hap⟩:=hF;have hDl:=hw.lt gD;have h11:b.cells.length=11:=rfl;have htk:List.take 11 b.cells=b.cells:=rfl;have hbf:Qw1 11 [.int .i64 0,.int .i64 0,.int .i64 0,.int .i64 0,.int .i64 0,.int .i64 0,.int .i64 0,.int .i64 0,.int .i64 0,.int .i64 0,.int .i64 0] [(0,.agg b.cells.toArray)]=some b.cells:=rfl;have hone:(b.cells.all λv=>v.oneCell')=true:=rfl;have hone2:(b.cells.all (·.oneCell'))=true:=rfl;have hcs:Qi [b]=b.cells:=by simp[Qi]
 generalize hbc:b.cells=bc at *;have hle:0+11<=bc.length:=by omega
 have hle2:11<=bc.length:=by omega
 simp only[QAV,Quo,Zb,Yk,JH,YJ,Qgy,Qrt,QGq,Qup,QDg,QAD,NZ,Bq,QDb,QqW,J5,VG,Nat.reduceBEq,bf,bt,r5,r7,Qln,QAB,gD,gE,Ls,Lq,hbf,QnL,htk,Qw2,QAC,LP,N9,Bg,Bp,Lw,hle,hle2];have hg1:(H'.push (.cells bc 58 false)).get H'.next=some (.cells bc 58 false):=by rw[Qd,Lc rfl]
 have hx1:Ext HC (H'.push (.cells bc 58 false)):=hx.push _;have hw1:=hw.push (.cells bc 58 false);have hgs1:Gs 11 58 HC (H'.push (.cells bc 58 false)) w d.length (Qi d):=hgs.ext λid hid=>by
  have:=(hgs.low hw hid).2;rw[Qd,Le (by omega)]
 have gD1:(H'.push (.cells bc 58 false)).get D=some (.cells [.int .i64 op,w] 24 false):=by rw[Qd,Le (by omega)];exact gD
 have hDl1:D<(H'.push (.cells bc 58 false)).next:=by rw[Qc];omega
 generalize (H'.push (.cells bc 58 false))=H1 at *;refine⟨w,rfl,trivial,?_⟩;refine QHI hgs1 hx1 hw1 (QDZ (c:=bc) hg1 (by decide) (by omega)) hone2 (Lb _) (by omega) (by omega) (by omega) ?_;intro v' H2 hgs2 hx2 hw2 hkeep hn2 hnew;have gD2:H2.get D=some (.cells [.int .i64 op,w] 24 false):=by rw[hkeep D hDl1 hap];exact gD1
 have hapD:¬Qla v' D:=λhi=>by have:=hnew D hi;omega
 have hone3:(([v']:List Value).all λx=>x.oneCell')=true:=by
  rcases hgs2 with⟨rfl,_⟩ | ⟨b',rfl,_⟩
  ·rfl
  ·rfl
 have hcells:v'.cells.toList=[v']:=by
  rcases hgs2 with⟨rfl,_⟩ | ⟨b',rfl,_⟩
  ·rfl
  ·rfl
 simp only[Zb,J6,Yk,JH,YJ,Qgy,Qrt,QAD,QqW,J5,VG,Nat.reduceBEq,bf,bt,r5,Qln,Ls,Lq,Qr3,QmE,gD2,hcells,LP];refine⟨⟨rfl,by simp,hone3⟩,?_⟩;have hsp:splice [Value.int .i64 op,w] 1 [v']=[.int .i64 op,v']:=rfl;rw[hsp];refine hk _ v' _ ⟨hw2.set gD2 _,hx2.set hD _,?_,?_,?_,by rw[Qq,Lc rfl],?_,hapD⟩ ?_
 ·simp only[Qg,simprocAttr,r1]
 ·simp only[Qg,simprocAttr,r2]
 ·simp only[Qg,simprocAttr,r5]
 ·rw[Lh,Qgg,hcs];refine hgs2.ext λid hid=>?_;have:id≠D:=λh=>hapD (by rw[<- h];exact hid);rw[Qq,Le this]
 ·simp only[Qg,simprocAttr]
section
variable {H:Qa} {op:Int} {l:List Ar} {a0:Option Addr} {cap:Nat}
theorem QFN (hw:H.Wf)(hv:Qv H (.slice a0 l.length cap) l)(hl:l.length<=4)(hI:∀a∈l,I64 a.n)(hc0:Q8 op l=0){HC:Qa}{D:Nat}(hHC:HC.Wf)(hxC:Ext H HC)(hD:HC.next=D)(hD2:H.next+2<=D)
  (c0:HC.get H.next=some (.cells [.int .i64 op,.slice a0 l.length cap] 24 false)) (c1:HC.get (H.next+1)=some (.cells [.int .i64 0,.slice none 0 0] 24 false)) (A:Env) (H1:Qa) (hF:CnL HC D op H (.slice none 0 0) [] A H1) (r6:A 6=.int .i64 0):
  Qm prog (.seq (.block 0 (.loop ZZ)) WB) ⟨KD H op l,WJ⟩ (KD H op l) A H1:=by
 have hend:∀ (w:Value) (A:Env) (H':Qa),CnL HC D op H w (l.map (cF (QU op l))) A H'->Qm prog WB ⟨KD H op l,WJ⟩ (KD H op l) A H':=by
  intro w A H' ⟨hw',hx,r1,r2,r5,gD,hgs,hap⟩;have hn:=hx.next;refine QD1 (v:=.slice a0 l.length cap) (w:=w) (D:=D) (m:=l.map (cF (QU op l))) hw' ⟨⟨by have:=hxC.next;omega,λid hid=>by rw[hx.get id (by have:=hxC.next;omega)];exact hxC.get id hid⟩,hD2,r1,r2,r5,by rw[hx.get _ (by omega)];exact c0,by rw[hx.get _ (by omega)];exact c1,gD,QJd hgs (by decide),λid hid=>?_,λa n c e=>?_⟩ (by rw[Nn];exact hl) (QCo hc0)
  ·have:=(hgs.low hw' hid).1;rcases Nq D id with h | h
   ·exact h
   ·exact absurd (by rw[show D=id by omega];exact hid) hap
  ·rcases hgs with⟨h,_⟩ | ⟨b,h,h2,h3,_⟩
   ·rw[h]at e;cases e
   ·rw[h]at e;cases e;have:=hxC.next;exact⟨by show H.next<=b;omega,by show b<H'.next;exact hw'.lt h3⟩
 simp only[V1,Qfi];refine Qo (λm A' H'=>∃ (i:Nat) (w:Value),i<=l.length∧m=l.length - i∧CnL HC D op H w ((l.take i).map (cF (QU op l))) A' H'∧A' 6=.int .i64 i) l.length ?_ ?_
 ·exact⟨0,_,L7 _,by omega,hF,r6⟩
 ·rintro m A' H' ⟨i,w,hi,rfl,hL,r6⟩;have hn:=hL.x.next;have g0:H'.get H.next=some (.cells [.int .i64 op,.slice a0 l.length cap] 24 false):=by rw[hL.x.get _ (by omega)];exact c0
  have hxH:Ext H H':=⟨by have:=hxC.next;omega,λid hid=>by rw[hL.x.get id (by have:=hxC.next;omega)];exact hxC.get id hid⟩;simp(disch:=(first | omega | (simp only[hnP];try omega))) only[ZZ,Qk,simprocAttr,hL.r1,g0,r6]
  refine Qf (λh2=>?_) (λh2=>?_)
  ·have h2:i<l.length:=by have:=Lg h2;omega
   obtain⟨a,ha⟩:∃a,l[i]? = some a:=⟨_,La h2⟩;obtain⟨b,rfl,hbl,⟨e,ro,hgb⟩,d1,d3,htk,hle,hk,hnn,ei⟩:=atI hv hw hxH (by omega) ha;have han:=hI a (Ln ha);have hdl:((l.take i).map (cF (QU op l))).length<=100:=by rw[Nn,Sb];omega
   have hstep:∀ (B:Env) (w':Value) (H2:Qa),CnL HC D op H w' ((l.take i).map (cF (QU op l))++[cF (QU op l) a]) B H2->B 6=.int .i64 i->Qm prog (.ops [Om 25 (t 6),Ow 26 (.bin .add (t 25) (Ci 1)),Om 6 (t 26)]) ⟨KD H op l,exK 0 (Qm prog WB ⟨KD H op l,WJ⟩ (KD H op l)) WJ⟩ (Qqt (λm A' H'=>∃ (i:Nat) (w:Value),i<=l.length∧m=l.length - i∧CnL HC D op H w ((l.take i).map (cF (QU op l))) A' H'∧A' 6=.int .i64 i) (l.length - i)) B H2:=by
    intro B w' H2 hL2 q6;simp only[KG,simprocAttr,q6,ei];refine⟨l.length - (i+1),by omega,i+1,w',by omega,rfl,?_,?_⟩
    ·rw[QpR l i a ha,N6];exact⟨hL2.wf,hL2.x,by simp only[Qg,simprocAttr];exact hL2.r1,by simp only[Qg,simprocAttr];exact hL2.r2,by simp only[Qg,simprocAttr];exact hL2.r5,hL2.gD,hL2.gs,hL2.ap⟩
    ·simp only[Qg,simprocAttr]
   simp(disch:=(first | omega | (simp only[hnP];try omega))) only[QHL,Qk,simprocAttr,hL.r1,g0,r6,d1,d3,hgb,htk,hle]
   refine(QjM a _).thenW ?_;rintro _ _ hn2 hw2 ⟨rfl,k,rfl⟩;have hcn:=QuN a han;have hcf:cF (QU op l) a=if((Wu a).1.k==3)=true then {(Wu a).1 with n:=(WZ (Wu a).1.n (QU op l).1 (QU op l).2).1} else(Wu a).1:=rfl
   rw[hcf]at hstep;clear hcf;generalize (Wu a).1=ca at *;generalize (Wu a).2=er at *;have hkH:H'.next<=k:=hn2;have hLk:∀ (B:Env) (H2:Qa),Ext (H'.up k) H2->H2.Wf->B 1=A' 1->B 2=A' 2->B 5=A' 5->CnL HC D op H w ((l.take i).map (cF (QU op l))) B H2:=λB H2 hx2 hw2 e1 e2 e5=>hL.ext ⟨by have:=hx2.next;rw[Ql]at this;omega,λid hid=>by rw[hx2.get id (by rw[Ql];omega),Y0]⟩ hw2 e1 e2 e5;have g0k:∀H2:Qa,Ext (H'.up k) H2->H2.get H.next=some (.cells [.int .i64 op,.slice (some ⟨b,0,none⟩) l.length cap] 24 false):=λH2 hx2=>by
    rw[hx2.get _ (by rw[Ql];omega),Y0];exact g0
   have hrest:∀ (ks:Kp) (b:Ar) (B:Env) (H2:Qa) (nx:Env->Qa->Prop),(∀ (B:Env) (w':Value) (H2:Qa),CnL HC D op H w' ((l.take i).map (cF (QU op l))++[b]) B H2->B 6=.int .i64 i->nx B H2)->Ext (H'.up k) H2->H2.Wf->B 1=A' 1->B 2=A' 2->B 5=A' 5->B 6=.int .i64 i->B 7=.pointer (some ⟨k,0,none⟩)->H2.get k=some (.cells b.cells 58 false)->Qm prog QAV ks nx B H2:=by
    intro ks b B H2 nx hnx hx2 hw2 e1 e2 e5 e6 e7 gk;refine QzO (hLk B H2 hx2 hw2 e1 e2 e5) (by omega) hdl e7 gk ?_;intro B2 w' H3 hL3 q6;exact hnx B2 w' H3 hL3 (q6.trans e6)
   obtain⟨ck,⟨crc,crn⟩,⟨⟨cbc,cbn⟩,⟨cic,cin⟩,csc,cd,csz⟩,cn⟩:=ca
   try simp only at hcn hstep
   simp(disch:=(first | omega | (simp only[hnP];try omega))) only[Ar.cells,Qk,simprocAttr]
   have hxk:∀C C',Ext (H'.up k) (((H'.up k).push (.cells C 58 false)).set k (.cells C' 58 false)):=λC C'=>((Ext.refl _).push _).set (by rw[Ql];exact Lb _) _;have hwk:∀C C',(((H'.up k).push (.cells C 58 false)).set k (.cells C' 58 false)).Wf:=λC C'=>(hw2.push _).set (b0:=.cells C 58 false) (by rw[Qd,Lc (by rw[Ql])]) _;have gkk:∀C C',(((H'.up k).push (.cells C 58 false)).set k (.cells C' 58 false)).get k=some (.cells C' 58 false):=λC C'=>by rw[Qq,Lc rfl]
   generalize hH2:((H'.up k).push _).set k _=H2;have hx2:Ext (H'.up k) H2:=by rw[<- hH2];exact hxk _ _
   have hw3:H2.Wf:=by rw[<- hH2];exact hwk _ _
   have gk:H2.get k=some (.cells [.int .i64 ck,.int .i64 crc,.int .i64 crn,.int .i64 cbc,.int .i64 cbn,.int .i64 cic,.int .i64 cin,.int .i64 csc,.int .i64 cd,.int .i64 csz,.int .i64 cn] 58 false):=by rw[<- hH2];exact gkk _ _
   clear hH2 hxk hwk gkk;cases h3:ck==3 with
   | false=>
    rw[h3]at hstep;simp only[V1,KE,QhQ,QqW,J5,VG,Nat.reduceBEq,bf,bt,Qfj,Qem,Ls,Lq];refine hrest _ ⟨ck,⟨crc,crn⟩,⟨⟨cbc,cbn⟩,⟨cic,cin⟩,csc,cd,csz⟩,cn⟩ _ _ _ ?_ hx2 hw3 ?_ ?_ ?_ ?_ ?_ gk
    ·intro B w' H3 hL3 q6;exact hstep B w' H3 (by simpa using hL3) q6
    all_goals simp only[Qg,simprocAttr,r6]
   | true=>
    rw[h3]at hstep;have hnk:=hx2.next;rw[Ql]at hnk;simp(disch:=(first | omega | (simp only[hnP];try omega))) only[ZY,Qk,simprocAttr,hL.r1,g0k H2 hx2]
    refine(Qea op _ l H2 (hv.ext hw ⟨by omega,λid hid=>by rw[hx2.get id (by rw[Ql];omega),Y0];exact hxH.get id hid⟩) (by omega)).thenW ?_;rintro _ _ hn4 hw4 ⟨rfl,k4,rfl⟩;have hkl:=hw3.lt gk;simp(disch:=(first | omega | (simp only[hnP];try omega))) only[Qk,simprocAttr,gk]
    refine(Qf1 cn _ _ hcn _).thenW ?_;rintro _ _ hn5 hw5 ⟨rfl,rfl⟩;simp only[Yk,Zb,J6,JH,QC6,QC7,QC8,Qrt,Qln,QAD,Qr3,QmE,Y0,gk,Qj4,QqW,J5,VG,YJ,Qgy,Nat.reduceBEq,bf,bt,Ls,Lq,LP,QmG];refine⟨⟨rfl,by simp,rfl⟩,?_⟩;refine hrest _ ⟨ck,⟨crc,crn⟩,⟨⟨cbc,cbn⟩,⟨cic,cin⟩,csc,cd,csz⟩,(WZ cn (QU op l).1 (QU op l).2).1⟩ _ _ _ ?_ ((hx2.up hn4).set (by rw[Ql];exact Lb _) _) (hw5.set (by rw[Y0];exact gk) _) ?_ ?_ ?_ ?_ ?_ ?_
    ·intro B w' H3 hL3 q6;exact hstep B w' H3 (by simpa using hL3) q6
    all_goals (try simp only[Qg,simprocAttr,r6])
    rw[Qq,Lc rfl];rfl
  ·have h2:i=l.length:=by have:=Ll h2;omega
   subst h2;rw[Nr]at hL;simp only[KG,simprocAttr];refine hend w _ _ ⟨hL.wf,hL.x,?_,?_,?_,hL.gD,hL.gs,hL.ap⟩
   ·simp only[Qg,simprocAttr];exact hL.r1
   ·simp only[Qg,simprocAttr];exact hL.r2
   ·simp only[Qg,simprocAttr];exact hL.r5
end
theorem Qt3 (op:Int)(v:Value)(l:List Ar)(H:Qa)(hv:Qv H v l)(hl:l.length<=1000)(hI:∀a∈l,I64 a.n):Qe prog 80 [.agg #[.int .i64 op,v]] H (QJe op l H):=by
 refine Qh0 λhw=>?_;obtain⟨a0,cap,rfl⟩:=Qu hv;simp(disch:=(first | omega | (simp only[hnP];try omega))) only[QaK,Qk,simprocAttr]
 generalize hH1:(H.push _).push _=H1;have hx1:Ext H H1:=by rw[<- hH1];exact((Ext.refl H).push _).push _
 have hn1:H1.next=H.next+2:=by rw[<- hH1];rfl
 have g0:H1.get H.next=some (.cells [.int .i64 op,.slice a0 l.length cap] 24 false):=by rw[<- hH1,Qd,Le (by rw[Qc];omega),Qd,Lc rfl]
 have g1:H1.get (H.next+1)=some (.cells [.int .i64 0,.slice none 0 0] 24 false):=by rw[<- hH1,Qd,Lc (by rw[Qc])]
 have hw1:H1.Wf:=by rw[<- hH1];exact(hw.push _).push _
 clear hH1;refine(QcQ op _ l H1 (hv.ext hw hx1) hl hI).thenW ?_;rintro _ _ hn2 hw2 ⟨rfl,k,rfl⟩;have hk:H.next+2<=k:=by rw[<- hn1];exact hn2
 cases hc:Q8 op l==0 with
 | false=>
  simp(disch:=(first | omega | (simp only[hnP];try omega))) only[Qk,simprocAttr,hc,g1,V8]
  have hcan:=QCp hc;have hx2:Ext H ((H1.up k).set (H.next+1) (.cells [.int .i64 0,.slice none 0 0] 24 false)):=(hx1.up hn2).set (by omega) _;refine .mk hx2.next ⟨hx2,_,by rw[hcan],?_,λa n c e=>by cases e⟩;rw[hcan];exact⟨none,0,rfl,λh=>absurd h (NX 0)⟩
 | true=>
  have hc0:Q8 op l=0:=L0.1 hc;simp(disch:=(first | omega | (simp only[hnP];try omega))) only[G4,Qk,simprocAttr,hc,g0]
  have hl4:l.length<=4:=Qiu hc;have hL:=λA q1 q2 q5 q6=>QFN (op:=op) hw hv hl4 hI hc0 (HC:=H1.up k) (D:=k) hw2 (hx1.up hn2) rfl hk (by rw[Y0];exact g0) (by rw[Y0];exact g1) A (((H1.up k).push (.cells [.int .i64 0,.slice none 0 0] 24 false)).set k (.cells [.int .i64 op,.slice none 0 0] 24 false)) ⟨(hw2.push _).set (b0:=.cells [.int .i64 0,.slice none 0 0] 24 false) (by rw[Qd,Lc (by rw[Ql])]) _,((Ext.refl _).push _).set (by rw[Ql];exact Lb _) _,q1,q2,q5,by rw[Qq,Lc rfl],.inl ⟨rfl,rfl,rfl⟩,fun⟨_,_,_,h⟩=>by cases h⟩ q6;simp only[V1,Qfi]at hL;refine hL _ ?_ ?_ ?_ ?_
  all_goals simp only[Qg,simprocAttr]
end Go.Proofs.YtgepgbbjfhggfaaGreatDoor.code
