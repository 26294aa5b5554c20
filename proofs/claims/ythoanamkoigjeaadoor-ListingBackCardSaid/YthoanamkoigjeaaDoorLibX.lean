/- linotypekit: SameImage, OverImage; the law's longLines. -/
import Derived.Test.YthoanamkoigjeaaDoorLibT
import Derived.Test.YthoanamkoigjeaaDoorAbD
set_option linter.unusedVariables false
set_option linter.unusedSimpArgs false
set_option maxRecDepth 100000
set_option maxHeartbeats 4000000
namespace Go.Proofs.YthoanamkoigjeaaDoor.code
open Go.Ab
theorem Gs.cells {size:Nat} {e:TypeId} {H0 H:Qa} {v:Value} {n:Nat} {cs:List Value} (h:Gs size e H0 H v n cs):Wp size v H=some cs:=by
 rcases h with⟨rfl,rfl,rfl⟩ | ⟨b,rfl,h2,h3,h4⟩
 ·rfl
 ·by_cases h0:n=0
  ·subst h0
   have:cs=[]:=List.length_eq_zero_iff.1 (by omega)
   subst this
   simp[Wp]
  ·simp only[Wp,h0,if_false,h3]
   rw[if_pos (by omega),List.drop_zero,List.take_of_length_le (by omega)]
theorem QkF {l:List Sy} {i:Nat} {m:Sy} (h:l[i]? = some m):((YV l).drop (i * 3)).take 3=m.cells:=by
 induction l generalizing i with
 | nil=>simp at h
 | cons a l ih=>
  have e:YV (a::l)=a.cells++YV l:=rfl
  have hl:a.cells.length=3:=rfl
  cases i with
  | zero=>simp at h;subst h;rfl
  | succ i=>
   rw[e,List.drop_append,hl,show(i+1) * 3 - 3=i * 3 by omega,List.drop_eq_nil_of_le (by omega),List.nil_append]
   exact ih (by simpa using h)
theorem Qi6 {l:List Mk} {i:Nat} {m:Mk} (h:l[i]? = some m):((WS l).drop (i * 3)).take 3=m.cells:=by
 induction l generalizing i with
 | nil=>simp at h
 | cons a l ih=>
  have e:WS (a::l)=a.cells++WS l:=rfl
  have hl:a.cells.length=3:=rfl
  cases i with
  | zero=>simp at h;subst h;rfl
  | succ i=>
   rw[e,List.drop_append,hl,show(i+1) * 3 - 3=i * 3 by omega,List.drop_eq_nil_of_le (by omega),List.nil_append]
   exact ih (by simpa using h)
theorem Qpo (y:Sy):YK [.s,.i,.b] y.cells.toArray y.cells.toArray 0=some true:=by
 refine(YL (a:=.string (mkS y.name)) (b:=.string (mkS y.name)) (p:=true) (q:=true) rfl rfl (by simp[Qe2]) ?_)
 refine(YL (a:=.int .i64 y.n) (b:=.int .i64 y.n) (p:=true) (q:=true) rfl rfl (by simp[Qe2]) ?_)
 refine(YL (a:=.bool y.here) (b:=.bool y.here) (p:=true) (q:=true) rfl rfl (by simp[Qe2]) ?_)
 rfl
theorem Qpp (y:Mk):YK [.i,.i,.i] y.cells.toArray y.cells.toArray 0=some true:=by
 refine(YL (a:=.int .i64 y.line) (b:=.int .i64 y.line) (p:=true) (q:=true) rfl rfl (by simp[Qe2]) ?_)
 refine(YL (a:=.int .i64 y.at_) (b:=.int .i64 y.at_) (p:=true) (q:=true) rfl rfl (by simp[Qe2]) ?_)
 refine(YL (a:=.int .i64 y.size) (b:=.int .i64 y.size) (p:=true) (q:=true) rfl rfl (by simp[Qe2]) ?_)
 rfl
theorem Qfj (va vb:Value) (l:List Sy) (hn:l.length≤1000000) (H:Qa) (ha:YD H va l.length (YV l)) (hb:YD H vb l.length (YV l)):Qf prog WW [va,vb] H fun u H'=>u=.bool true∧H'=H:=by
 refine K7 fun hw=>?_
 obtain⟨aa,ac,rfl,ha⟩:=ha
 obtain⟨ba,bc,rfl,hb⟩:=hb
 simp only[YC,sxA,sxB,Nat.reduceBEq,Nat.reduceEqDiff,reduceCtorEq,mxA,mxB,Nat.reduceAdd,reduceIte,Nat.reduceLeDiff,splice,Qb,beq_self_eq_true,X6]
 refine QC (fun m A' H'=>∃i:Nat,i≤l.length∧m=l.length - i∧H'=H∧A' 0=.slice aa l.length ac∧A' 1=.slice ba l.length bc∧A' 5=.int .i64 i) l.length ?_ ?_
 ·refine⟨0,Nat.zero_le _,rfl,rfl,?_,?_,?_⟩
  all_goals simp only[uxA,uxB,Nat.reduceBEq]
  all_goals rfl
 ·rintro m A' H' ⟨i,hi,rfl,hEq,r0,r1,r5⟩
  subst hEq
  by_cases h2:i<l.length
  ·have e1:decide ((i:Int)<(l.length:Int))=true:=decide_eq_true (by omega)
   have c1:(0:Int)≤(i:Int)∧(i:Int)<(l.length:Int):=by omega
   have u1:(i:Int).toNat=i:=Int.toNat_natCast _
   have ei:IntKind.i64.wrap ((i:Int)+1)=((i+1:Nat):Int):=by rw[w64 (by unfold I64;omega)];rfl
   obtain⟨b1,e1',ro1,rfl,hg1⟩:=ha (by omega)
   obtain⟨b2,e2',ro2,rfl,hg2⟩:=hb (by omega)
   have p1:=List.getElem?_eq_getElem h2
   generalize l[i]=y at *
   have t1:=QkF p1
   have hle:i * 3+3≤(YV l).length:=by rw[QeJ];omega
   simp only[Wu,X5,sxA,sxB,Nat.reduceBEq,Nat.reduceEqDiff,reduceCtorEq,mxA,mxB,Nat.reduceAdd,reduceIte,Nat.reduceLeDiff,splice,syA,r0,r1,r5,e1,c1,decide_true,u1,hg1,hg2,t1,hle]
   rw[QfJ (Qpo y)]
   simp only[sxA,sxB,Nat.reduceBEq,Nat.reduceEqDiff,reduceCtorEq,mxA,mxB,Nat.reduceAdd,reduceIte,Nat.reduceLeDiff,splice,r5,ei,cond_true,Bool.not_true]
   refine⟨l.length - (i+1),by omega,i+1,by omega,rfl,rfl,?_,?_,?_⟩
   all_goals simp only[uxA,uxB,Nat.reduceBEq,r0,r1]
  ·have e1:decide ((i:Int)<(l.length:Int))=false:=decide_eq_false (by omega)
   simp only[Wu,sxA,sxB,Nat.reduceBEq,Nat.reduceEqDiff,reduceCtorEq,mxA,mxB,Nat.reduceAdd,reduceIte,Nat.reduceLeDiff,splice,r0,r1,r5,e1,Qb,KE]
   exact .mk (Nat.le_refl _) ⟨rfl,rfl⟩
theorem Ki.slp {H0 H:Qa} {x:Im} {vb vs vm:Value} (h:Ki H0 H x vb vs vm):∃a1 a2 a3 c1 c2 c3,vb=.slice a1 x.b.length c1∧vs=.slice a2 x.syms.length c2∧vm=.slice a3 x.marks.length c3:=by
 obtain⟨a1,c1,h1⟩:=h.gb.sl
 obtain⟨a2,c2,h2⟩:=h.gs.sl
 obtain⟨a3,c3,h3⟩:=h.gm.sl
 exact⟨a1,a2,a3,c1,c2,c3,h1,h2,h3⟩
theorem QhQ (l:List (List UInt8)) (lv:Value) (H:Qa) (hs:YD H lv l.length (YU l)):Qf prog WU [lv] H fun u H'=>(∃t:Bool,u=.bool t∧(t=false→l.length≤80∧∀s∈l,s.length≤2100))∧H'=H:=by
 refine KS fun hw=>?_
 obtain⟨a,cap,rfl,hla⟩:=hs
 simp only[Yv,sxA,sxB,Nat.reduceBEq,Nat.reduceEqDiff,reduceCtorEq,mxA,mxB,Nat.reduceAdd,reduceIte,Nat.reduceLeDiff,splice]
 refine QC (fun m A' H'=>∃i:Nat,i≤l.length∧i≤81∧m=81 - i∧H'=H∧(∀s∈l.take i,s.length≤2100)∧A' 0=.slice a l.length cap∧A' 3=.int .i64 i) 81 ?_ ?_
 ·refine⟨0,Nat.zero_le _,by omega,rfl,rfl,fun s hs=>by simp at hs,?_,?_⟩
  all_goals simp only[uxA,uxB,Nat.reduceBEq]
  all_goals rfl
 ·rintro m A' H' ⟨i,hi,hi81,rfl,hEq,hall,r0,r3⟩
  subst hEq
  have last:∀A:Env,A 2=.bool (decide ((80:Int)<(l.length:Int)))→(l.length≤80→i=l.length)→Rt prog Gj H' (fun u H'_1=>(∃t:Bool,u=.bool t∧(t=false→l.length≤80∧∀s∈l,s.length≤2100))∧H'_1=H') A H':=fun A q2 hend=>by
   rw[Yk,q2]
   refine .mk (Nat.le_refl _) ⟨⟨_,rfl,fun h=>?_⟩,rfl⟩
   have h:=of_decide_eq_false h
   have h80:l.length≤80:=by omega
   refine⟨h80,?_⟩
   have:=hend h80
   rw[this,List.take_length]at hall
   exact hall
  by_cases h2:i<l.length
  ·have e1:decide ((i:Int)<(l.length:Int))=true:=decide_eq_true (by omega)
   by_cases h3:i<81
   ·have e3:decide ((i:Int)<81)=true:=decide_eq_true (by omega)
    have c1:(0:Int)≤(i:Int)∧(i:Int)<(l.length:Int):=by omega
    have u1:(i:Int).toNat=i:=Int.toNat_natCast _
    have ei:IntKind.i64.wrap ((i:Int)+1)=((i+1:Nat):Int):=by rw[w64 (by unfold I64;omega)];rfl
    obtain⟨b,e,ro,rfl,hgl⟩:=hla (by omega)
    have p1:=List.getElem?_eq_getElem h2
    have htk:l.take (i+1)=l.take i++[l[i]]:=by rw[List.take_add_one,p1];rfl
    generalize l[i]=s at *
    have p2:=Qez p1
    simp only[QR,X3,sxA,sxB,Nat.reduceBEq,Nat.reduceEqDiff,reduceCtorEq,mxA,mxB,Nat.reduceAdd,reduceIte,Nat.reduceLeDiff,splice,r0,r3,e1,e3,c1,decide_true,u1,hgl,p2,Qe,Qg,Qb]
    by_cases h4:(2100:Int)<(s.length:Int)
    ·simp only[sxA,sxB,Nat.reduceBEq,Nat.reduceEqDiff,reduceCtorEq,mxA,mxB,Nat.reduceAdd,reduceIte,Nat.reduceLeDiff,splice,decide_eq_true h4,Yk]
     exact .mk (Nat.le_refl _) ⟨⟨true,rfl,fun h=>nomatch h⟩,rfl⟩
    ·simp only[sxA,sxB,Nat.reduceBEq,Nat.reduceEqDiff,reduceCtorEq,mxA,mxB,Nat.reduceAdd,reduceIte,Nat.reduceLeDiff,splice,decide_eq_false h4,r3,ei]
     refine⟨81 - (i+1),by omega,i+1,by omega,by omega,rfl,rfl,?_,?_,?_⟩
     ·rw[htk]
      intro z hz
      rcases List.mem_append.1 hz with hz | hz
      ·exact hall z hz
      ·simp at hz;subst hz;omega
     all_goals simp only[uxA,uxB,Nat.reduceBEq,r0]
   ·have e3:decide ((i:Int)<81)=false:=decide_eq_false (by omega)
    simp only[QR,sxA,sxB,Nat.reduceBEq,Nat.reduceEqDiff,reduceCtorEq,mxA,mxB,Nat.reduceAdd,reduceIte,Nat.reduceLeDiff,splice,r0,r3,e1,e3,Qb]
    refine last _ ?_ (by omega)
    simp only[uxA,uxB,Nat.reduceBEq]
  ·have e1:decide ((i:Int)<(l.length:Int))=false:=decide_eq_false (by omega)
   simp only[QR,sxA,sxB,Nat.reduceBEq,Nat.reduceEqDiff,reduceCtorEq,mxA,mxB,Nat.reduceAdd,reduceIte,Nat.reduceLeDiff,splice,r0,r3,e1,Qb]
   refine last _ ?_ (by omega)
   simp only[uxA,uxB,Nat.reduceBEq]
theorem QoH (H0 H:Qa):Ki H0 H im0 (.slice none 0 0) (.slice none 0 0) (.slice none 0 0):=by
 have nb:∀id,¬Qr (.slice none 0 0) id:=fun id h=>by obtain⟨o,n,c,h⟩:=h;cases h
 exact⟨.inl ⟨rfl,rfl,rfl⟩,.inl ⟨rfl,rfl,rfl⟩,.inl ⟨rfl,rfl,rfl⟩,fun id h=>absurd h (nb _),fun id h=>absurd h (nb _),fun id h=>absurd h (nb _)⟩
def ImE (r:Except Nat Im) (x:Im) (e i:Int):Prop:=match r with | .ok y=>x=y∧e=0∧i=0 | .error n=>x=im0∧e=4∧i=(n:Int)
theorem ImP.one {H0:Qa} {r:Except Nat Im} {u:Value} {H':Qa} (h:ImP H0 r u H'):∃ (x:Im) (vb vs vm:Value) (e i:Int),u=.tuple #[.agg #[.int .i64 x.org,vb,vs,vm],.agg #[.int .i64 e,.int .i64 i]]∧Ki H0 H' x vb vs vm∧Ext H0 H'∧ImE r x e i:=by
 cases r with
 | error n=>exact⟨im0,_,_,_,4,n,h.1,QoH _ _,h.2,rfl,rfl,rfl⟩
 | ok x=>
  obtain⟨vb,vs,vm,h1,h2,h3⟩:=h
  exact⟨x,vb,vs,vm,0,0,h1,h2,h3,rfl,rfl,rfl⟩
end Go.Proofs.YthoanamkoigjeaaDoor.code
