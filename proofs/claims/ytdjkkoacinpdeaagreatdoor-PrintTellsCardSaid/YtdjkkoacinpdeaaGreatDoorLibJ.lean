/- Numbers of immediates. -/
import Derived.Test.YtdjkkoacinpdeaaGreatDoorLibI
import Derived.Test.YtdjkkoacinpdeaaGreatDoorC0Code
set_option linter.unusedVariables false
set_option linter.unusedSimpArgs false
set_option maxRecDepth 100000
set_option maxHeartbeats 2000000
namespace Go.Proofs.YtdjkkoacinpdeaaGreatDoor.code
open Go.Ab
def QbH (n bits:Int):Int:=if bits=8 then n % 256 else if bits=16 then n % 65536 else if bits=32 then n % 4294967296 else n
def QbI (n bits:Int):Int:=if bits=8 then(n+128) % 256 - 128 else if bits=16 then(n+32768) % 65536 - 32768 else if bits=32 then(n+2147483648) % 4294967296 - 2147483648 else n
def Yw (n bits:Int) (sg:Bool):Int×Int:=
 if(bits==8||bits==16||bits==32||bits==64)=false then(0,2)
 else if(!(n==QbH n bits)&&!(n==QbI n bits))=true then(0,5)
 else if sg=true then(QbI n bits,0) else(QbH n bits,0)
theorem Qgw (n bits:Int) (sg:Bool) (hn:I64 n) (hb:bits=8∨bits=16∨bits=32∨bits=64) (H:Qa):Qf prog Jt [.int .i64 n,.int .i64 bits,.bool sg] H fun u H'=>u=.tuple #[.int .i64 (Yw n bits sg).1,.int .i64 (Yw n bits sg).2]∧H'=H:=by
 refine QdW fun hw=>?_
 rcases hb with rfl | rfl | rfl | rfl
 ·have t1:((8:Int)==8)=true:=rfl
  have t2:((8:Int)==16)=false:=rfl
  have t3:((8:Int)==32)=false:=rfl
  have t4:((8:Int)==64)=false:=rfl
  have w1:IntKind.i64.wrap (64 - 8)=56:=by decide
  have p1:(2:Int) ^ min (Int.toNat 56) IntKind.u64.bits=72057594037927936:=by decide
  have p2:(2:Int) ^ min (Int.toNat 56) IntKind.i64.bits=72057594037927936:=by decide
  have z0:((0:Int)≤56)=True:=eq_true (by decide)
  have eL:IntKind.i64.wrap ((IntKind.u64.wrap (IntKind.u64.wrap n * 72057594037927936)).fdiv 72057594037927936)=QbH n 8:=by
   unfold I64 at hn
   rw[Int.fdiv_eq_ediv_of_nonneg _ (by decide),IntKind.wrap_i64,IntKind.wrap_u64,IntKind.wrap_u64]
   rw[show QbH n 8=n % 256 from rfl];omega
  have eC:(IntKind.i64.wrap (IntKind.u64.wrap (IntKind.u64.wrap n * 72057594037927936))).fdiv 72057594037927936=QbI n 8:=by
   unfold I64 at hn
   rw[Int.fdiv_eq_ediv_of_nonneg _ (by decide),IntKind.wrap_i64,IntKind.wrap_u64,IntKind.wrap_u64]
   rw[show QbI n 8=(n+128) % 256 - 128 from rfl];omega
  simp(disch:=(first | omega | ((repeat (first | rw[Qa.next_push] | rw[Qa.next_set] | rw[Qa.next_up]));done) | ((repeat (first | rw[Qa.next_push] | rw[Qa.next_set] | rw[Qa.next_up]));omega))) only[Y4,QK,QL,QM,sxA,sxB,Nat.reduceBEq,Nat.reduceEqDiff,reduceCtorEq,mxD,mxB,Nat.reduceAdd,reduceIte,Nat.reduceLeDiff,splice,t1,t2,t3,t4,w1,z0,p1,p2,eL,eC,QR]
  obtain⟨lo,hlo⟩:∃lo,QbH n 8=lo:=⟨_,rfl⟩
  obtain⟨cu,hcu⟩:∃cu,QbI n 8=cu:=⟨_,rfl⟩
  have hI:Yw n 8 sg=if(!(n==lo)&&!(n==cu))=true then(0,5) else if sg=true then(cu,0) else(lo,0):=by
   rw[← hlo,← hcu];rfl
  rw[hI,hlo,hcu]
  clear hI eL eC hlo hcu
  repeat' (first
   | (refine Qp (fun h=>?_) (fun h=>?_)<;>(try simp only[Bool.not_eq_true',Bool.not_eq_false']at h)<;>simp(disch:=(first | omega | ((repeat (first | rw[Qa.next_push] | rw[Qa.next_set] | rw[Qa.next_up]));done) | ((repeat (first | rw[Qa.next_push] | rw[Qa.next_set] | rw[Qa.next_up]));omega))) only[QK,QL,QM,sxA,sxB,Nat.reduceBEq,Nat.reduceEqDiff,reduceCtorEq,mxD,mxB,Nat.reduceAdd,reduceIte,Nat.reduceLeDiff,splice,QR,h])
   | (refine Qe (fun h=>?_) (fun h=>?_)<;>(try simp only[Bool.not_eq_true',Bool.not_eq_false']at h)<;>simp(disch:=(first | omega | ((repeat (first | rw[Qa.next_push] | rw[Qa.next_set] | rw[Qa.next_up]));done) | ((repeat (first | rw[Qa.next_push] | rw[Qa.next_set] | rw[Qa.next_up]));omega))) only[QK,QL,QM,sxA,sxB,Nat.reduceBEq,Nat.reduceEqDiff,reduceCtorEq,mxD,mxB,Nat.reduceAdd,reduceIte,Nat.reduceLeDiff,splice,QR,h])
   | fail)
  all_goals refine .mk (Nat.le_refl _) ⟨?_,rfl⟩
  all_goals simp_all
 ·have t1:((16:Int)==8)=false:=rfl
  have t2:((16:Int)==16)=true:=rfl
  have t3:((16:Int)==32)=false:=rfl
  have t4:((16:Int)==64)=false:=rfl
  have w1:IntKind.i64.wrap (64 - 16)=48:=by decide
  have p1:(2:Int) ^ min (Int.toNat 48) IntKind.u64.bits=281474976710656:=by decide
  have p2:(2:Int) ^ min (Int.toNat 48) IntKind.i64.bits=281474976710656:=by decide
  have z0:((0:Int)≤48)=True:=eq_true (by decide)
  have eL:IntKind.i64.wrap ((IntKind.u64.wrap (IntKind.u64.wrap n * 281474976710656)).fdiv 281474976710656)=QbH n 16:=by
   unfold I64 at hn
   rw[Int.fdiv_eq_ediv_of_nonneg _ (by decide),IntKind.wrap_i64,IntKind.wrap_u64,IntKind.wrap_u64]
   rw[show QbH n 16=n % 65536 from rfl];omega
  have eC:(IntKind.i64.wrap (IntKind.u64.wrap (IntKind.u64.wrap n * 281474976710656))).fdiv 281474976710656=QbI n 16:=by
   unfold I64 at hn
   rw[Int.fdiv_eq_ediv_of_nonneg _ (by decide),IntKind.wrap_i64,IntKind.wrap_u64,IntKind.wrap_u64]
   rw[show QbI n 16=(n+32768) % 65536 - 32768 from rfl];omega
  simp(disch:=(first | omega | ((repeat (first | rw[Qa.next_push] | rw[Qa.next_set] | rw[Qa.next_up]));done) | ((repeat (first | rw[Qa.next_push] | rw[Qa.next_set] | rw[Qa.next_up]));omega))) only[Y4,QK,QL,QM,sxA,sxB,Nat.reduceBEq,Nat.reduceEqDiff,reduceCtorEq,mxD,mxB,Nat.reduceAdd,reduceIte,Nat.reduceLeDiff,splice,t1,t2,t3,t4,w1,z0,p1,p2,eL,eC,QR]
  obtain⟨lo,hlo⟩:∃lo,QbH n 16=lo:=⟨_,rfl⟩
  obtain⟨cu,hcu⟩:∃cu,QbI n 16=cu:=⟨_,rfl⟩
  have hI:Yw n 16 sg=if(!(n==lo)&&!(n==cu))=true then(0,5) else if sg=true then(cu,0) else(lo,0):=by
   rw[← hlo,← hcu];rfl
  rw[hI,hlo,hcu]
  clear hI eL eC hlo hcu
  repeat' (first
   | (refine Qp (fun h=>?_) (fun h=>?_)<;>(try simp only[Bool.not_eq_true',Bool.not_eq_false']at h)<;>simp(disch:=(first | omega | ((repeat (first | rw[Qa.next_push] | rw[Qa.next_set] | rw[Qa.next_up]));done) | ((repeat (first | rw[Qa.next_push] | rw[Qa.next_set] | rw[Qa.next_up]));omega))) only[QK,QL,QM,sxA,sxB,Nat.reduceBEq,Nat.reduceEqDiff,reduceCtorEq,mxD,mxB,Nat.reduceAdd,reduceIte,Nat.reduceLeDiff,splice,QR,h])
   | (refine Qe (fun h=>?_) (fun h=>?_)<;>(try simp only[Bool.not_eq_true',Bool.not_eq_false']at h)<;>simp(disch:=(first | omega | ((repeat (first | rw[Qa.next_push] | rw[Qa.next_set] | rw[Qa.next_up]));done) | ((repeat (first | rw[Qa.next_push] | rw[Qa.next_set] | rw[Qa.next_up]));omega))) only[QK,QL,QM,sxA,sxB,Nat.reduceBEq,Nat.reduceEqDiff,reduceCtorEq,mxD,mxB,Nat.reduceAdd,reduceIte,Nat.reduceLeDiff,splice,QR,h])
   | fail)
  all_goals refine .mk (Nat.le_refl _) ⟨?_,rfl⟩
  all_goals simp_all
 ·have t1:((32:Int)==8)=false:=rfl
  have t2:((32:Int)==16)=false:=rfl
  have t3:((32:Int)==32)=true:=rfl
  have t4:((32:Int)==64)=false:=rfl
  have w1:IntKind.i64.wrap (64 - 32)=32:=by decide
  have p1:(2:Int) ^ min (Int.toNat 32) IntKind.u64.bits=4294967296:=by decide
  have p2:(2:Int) ^ min (Int.toNat 32) IntKind.i64.bits=4294967296:=by decide
  have z0:((0:Int)≤32)=True:=eq_true (by decide)
  have eL:IntKind.i64.wrap ((IntKind.u64.wrap (IntKind.u64.wrap n * 4294967296)).fdiv 4294967296)=QbH n 32:=by
   unfold I64 at hn
   rw[Int.fdiv_eq_ediv_of_nonneg _ (by decide),IntKind.wrap_i64,IntKind.wrap_u64,IntKind.wrap_u64]
   rw[show QbH n 32=n % 4294967296 from rfl];omega
  have eC:(IntKind.i64.wrap (IntKind.u64.wrap (IntKind.u64.wrap n * 4294967296))).fdiv 4294967296=QbI n 32:=by
   unfold I64 at hn
   rw[Int.fdiv_eq_ediv_of_nonneg _ (by decide),IntKind.wrap_i64,IntKind.wrap_u64,IntKind.wrap_u64]
   rw[show QbI n 32=(n+2147483648) % 4294967296 - 2147483648 from rfl];omega
  simp(disch:=(first | omega | ((repeat (first | rw[Qa.next_push] | rw[Qa.next_set] | rw[Qa.next_up]));done) | ((repeat (first | rw[Qa.next_push] | rw[Qa.next_set] | rw[Qa.next_up]));omega))) only[Y4,QK,QL,QM,sxA,sxB,Nat.reduceBEq,Nat.reduceEqDiff,reduceCtorEq,mxD,mxB,Nat.reduceAdd,reduceIte,Nat.reduceLeDiff,splice,t1,t2,t3,t4,w1,z0,p1,p2,eL,eC,QR]
  obtain⟨lo,hlo⟩:∃lo,QbH n 32=lo:=⟨_,rfl⟩
  obtain⟨cu,hcu⟩:∃cu,QbI n 32=cu:=⟨_,rfl⟩
  have hI:Yw n 32 sg=if(!(n==lo)&&!(n==cu))=true then(0,5) else if sg=true then(cu,0) else(lo,0):=by
   rw[← hlo,← hcu];rfl
  rw[hI,hlo,hcu]
  clear hI eL eC hlo hcu
  repeat' (first
   | (refine Qp (fun h=>?_) (fun h=>?_)<;>(try simp only[Bool.not_eq_true',Bool.not_eq_false']at h)<;>simp(disch:=(first | omega | ((repeat (first | rw[Qa.next_push] | rw[Qa.next_set] | rw[Qa.next_up]));done) | ((repeat (first | rw[Qa.next_push] | rw[Qa.next_set] | rw[Qa.next_up]));omega))) only[QK,QL,QM,sxA,sxB,Nat.reduceBEq,Nat.reduceEqDiff,reduceCtorEq,mxD,mxB,Nat.reduceAdd,reduceIte,Nat.reduceLeDiff,splice,QR,h])
   | (refine Qe (fun h=>?_) (fun h=>?_)<;>(try simp only[Bool.not_eq_true',Bool.not_eq_false']at h)<;>simp(disch:=(first | omega | ((repeat (first | rw[Qa.next_push] | rw[Qa.next_set] | rw[Qa.next_up]));done) | ((repeat (first | rw[Qa.next_push] | rw[Qa.next_set] | rw[Qa.next_up]));omega))) only[QK,QL,QM,sxA,sxB,Nat.reduceBEq,Nat.reduceEqDiff,reduceCtorEq,mxD,mxB,Nat.reduceAdd,reduceIte,Nat.reduceLeDiff,splice,QR,h])
   | fail)
  all_goals refine .mk (Nat.le_refl _) ⟨?_,rfl⟩
  all_goals simp_all
 ·have t1:((64:Int)==8)=false:=rfl
  have t2:((64:Int)==16)=false:=rfl
  have t3:((64:Int)==32)=false:=rfl
  have t4:((64:Int)==64)=true:=rfl
  have w1:IntKind.i64.wrap (64 - 64)=0:=by decide
  have p1:(2:Int) ^ min (Int.toNat 0) IntKind.u64.bits=1:=by decide
  have p2:(2:Int) ^ min (Int.toNat 0) IntKind.i64.bits=1:=by decide
  have z0:((0:Int)≤0)=True:=eq_true (by decide)
  have eL:IntKind.i64.wrap ((IntKind.u64.wrap (IntKind.u64.wrap n * 1)).fdiv 1)=QbH n 64:=by
   unfold I64 at hn
   rw[Int.fdiv_eq_ediv_of_nonneg _ (by decide),IntKind.wrap_i64,IntKind.wrap_u64,IntKind.wrap_u64]
   rw[show QbH n 64=n from rfl];omega
  have eC:(IntKind.i64.wrap (IntKind.u64.wrap (IntKind.u64.wrap n * 1))).fdiv 1=QbI n 64:=by
   unfold I64 at hn
   rw[Int.fdiv_eq_ediv_of_nonneg _ (by decide),IntKind.wrap_i64,IntKind.wrap_u64,IntKind.wrap_u64]
   rw[show QbI n 64=n from rfl];omega
  simp(disch:=(first | omega | ((repeat (first | rw[Qa.next_push] | rw[Qa.next_set] | rw[Qa.next_up]));done) | ((repeat (first | rw[Qa.next_push] | rw[Qa.next_set] | rw[Qa.next_up]));omega))) only[Y4,QK,QL,QM,sxA,sxB,Nat.reduceBEq,Nat.reduceEqDiff,reduceCtorEq,mxD,mxB,Nat.reduceAdd,reduceIte,Nat.reduceLeDiff,splice,t1,t2,t3,t4,w1,z0,p1,p2,eL,eC,QR]
  obtain⟨lo,hlo⟩:∃lo,QbH n 64=lo:=⟨_,rfl⟩
  obtain⟨cu,hcu⟩:∃cu,QbI n 64=cu:=⟨_,rfl⟩
  have hI:Yw n 64 sg=if(!(n==lo)&&!(n==cu))=true then(0,5) else if sg=true then(cu,0) else(lo,0):=by
   rw[← hlo,← hcu];rfl
  rw[hI,hlo,hcu]
  clear hI eL eC hlo hcu
  repeat' (first
   | (refine Qp (fun h=>?_) (fun h=>?_)<;>(try simp only[Bool.not_eq_true',Bool.not_eq_false']at h)<;>simp(disch:=(first | omega | ((repeat (first | rw[Qa.next_push] | rw[Qa.next_set] | rw[Qa.next_up]));done) | ((repeat (first | rw[Qa.next_push] | rw[Qa.next_set] | rw[Qa.next_up]));omega))) only[QK,QL,QM,sxA,sxB,Nat.reduceBEq,Nat.reduceEqDiff,reduceCtorEq,mxD,mxB,Nat.reduceAdd,reduceIte,Nat.reduceLeDiff,splice,QR,h])
   | (refine Qe (fun h=>?_) (fun h=>?_)<;>(try simp only[Bool.not_eq_true',Bool.not_eq_false']at h)<;>simp(disch:=(first | omega | ((repeat (first | rw[Qa.next_push] | rw[Qa.next_set] | rw[Qa.next_up]));done) | ((repeat (first | rw[Qa.next_push] | rw[Qa.next_set] | rw[Qa.next_up]));omega))) only[QK,QL,QM,sxA,sxB,Nat.reduceBEq,Nat.reduceEqDiff,reduceCtorEq,mxD,mxB,Nat.reduceAdd,reduceIte,Nat.reduceLeDiff,splice,QR,h])
   | fail)
  all_goals refine .mk (Nat.le_refl _) ⟨?_,rfl⟩
  all_goals simp_all
theorem QeK (n bits:Int) (sg:Bool) (hn:I64 n) (H:Qa):Qf prog Jt [.int .i64 n,.int .i64 bits,.bool sg] H fun u H'=>u=.tuple #[.int .i64 (Yw n bits sg).1,.int .i64 (Yw n bits sg).2]∧H'=H:=by
 by_cases hb:bits=8∨bits=16∨bits=32∨bits=64
 ·exact Qgw n bits sg hn hb H
 ·have t1:(bits==8)=false:=by simp;omega
  have t2:(bits==16)=false:=by simp;omega
  have t3:(bits==32)=false:=by simp;omega
  have t4:(bits==64)=false:=by simp;omega
  refine QdW fun hw=>?_
  simp(disch:=(first | omega | ((repeat (first | rw[Qa.next_push] | rw[Qa.next_set] | rw[Qa.next_up]));done) | ((repeat (first | rw[Qa.next_push] | rw[Qa.next_set] | rw[Qa.next_up]));omega))) only[Y4,QK,QL,QM,sxA,sxB,Nat.reduceBEq,Nat.reduceEqDiff,reduceCtorEq,mxD,mxB,Nat.reduceAdd,reduceIte,Nat.reduceLeDiff,splice,t1,t2,t3,t4,QR]
  refine .mk (Nat.le_refl _) ⟨?_,rfl⟩
  simp[Yw,t1,t2,t3,t4]
def Qaq:List Ar→Int
 | []=>0
 | a::l=>if(Wu a==0)=true then Qaq l else Wu a
def Wz (k:Int):List Ar→Int
 | []=>0
 | a::l=>(if(a.k==k)=true then 1 else 0)+Wz k l
def QbJ (n:Int):List Ar→Int
 | []=>n
 | a::l=>QbJ (if(a.k==3)=true then a.n else n) l
def WG (op:Int) (l:List Ar):Int:=
 if WI op=false then 6 else if l.length>4 then 3 else if(Qaq l==0)=false then Qaq l
 else if(decide (1<Wz 2 l)||decide (1<Wz 4 l)||decide (1<Wz 3 l))=true then 2
 else if(Wz 3 l==0)=true then 0
 else if((Wn op l).1==0)=true then 2 else(Yw (QbJ 0 l) (Wn op l).1 (Wn op l).2).2
theorem QbK (k:Int):∀ (l:List Ar) (a:Ar),Wz k (l++[a])=Wz k l+(if(a.k==k)=true then 1 else 0)
 | [],a=>by simp[Wz]
 | b::l,a=>by simp only[List.cons_append,Wz,QbK k l a];omega
theorem Qj0:∀ (l:List Ar) (n:Int) (a:Ar),QbJ n (l++[a])=if(a.k==3)=true then a.n else QbJ n l
 | [],n,a=>by simp[QbJ]
 | b::l,n,a=>by simp only[List.cons_append,QbJ,Qj0 l _ a]
theorem Qcs (k:Int):∀l:List Ar,0≤Wz k l∧Wz k l≤l.length
 | []=>by simp[Wz]
 | a::l=>by
  have:=Qcs k l
  simp only[Wz,List.length_cons]
  split<;>omega
theorem QiH (n:Int):∀l:List Ar,QbJ n l=n∨∃a∈l,QbJ n l=a.n
 | []=>.inl rfl
 | a::l=>by
  unfold QbJ
  split
  ·rcases QiH a.n l with h | ⟨b,hb,h⟩
   ·exact .inr ⟨a,by simp,h⟩
   ·exact .inr ⟨b,by simp[hb],h⟩
  ·rcases QiH n l with h | ⟨b,hb,h⟩
   ·exact .inl h
   ·exact .inr ⟨b,by simp[hb],h⟩
theorem Qgx:∀ (l:List Ar) (i:Nat) (a:Ar),l[i]? = some a→Qaq (l.drop i)=if(Wu a==0)=true then Qaq (l.drop (i+1)) else Wu a
 | [],i,a,h=>by simp at h
 | b::l,0,a,h=>by simp at h;subst h;rfl
 | b::l,i+1,a,h=>by simpa using Qgx l i a (by simpa using h)
theorem Qgy {α:Type} (l:List α) (i:Nat) (a:α) (h:l[i]? = some a):l.take (i+1)=l.take i++[a]:=by
 rw[List.take_add_one,h];rfl
def icF (H:Qa) (op:Int) (v:Value) (A:Env) (H':Qa):Prop:=Ext H H'∧A 1=.pointer (some ⟨H.next,0,none⟩)∧H'.get H.next=some (.cells [.int .i64 op,v] Qb false)∧H.next<H'.next
theorem QkS (op:Int) (v:Value) (l:List Ar) (H:Qa) (hv:QY H v l) (hl:l.length≤1000) (hI:∀a∈l,I64 a.n):Qf prog Qb4 [.agg #[.int .i64 op,v]] H fun u H'=>u=.int .i64 (WG op l)∧∃k,H'=H.up k:=by
 refine Qjd fun hw=>?_
 have P4:∀A H',icF H op v A H'→WI op=true→l.length≤4→Qaq l=0→A 6=.int .i64 (Wz 2 l)→A 7=.int .i64 (Wz 4 l)→A 8=.int .i64 (Wz 3 l)→A 9=.int .i64 (QbJ 0 l)→
   Qj prog VF ⟨Rt prog Jg H fun u H'=>u=.int .i64 (WG op l)∧∃k,H'=H.up k,Y8⟩ (Rt prog Jg H fun u H'=>u=.int .i64 (WG op l)∧∃k,H'=H.up k) A H':=by
  rintro A H' ⟨hx,r1,g0,hb0⟩ c1 c2 c3 r6 r7 r8 r9
  have qb:=fun H' (hx:Ext H H')=>Qhd op v l H' (hv.ext hw hx) hl
  have hn:I64 (QbJ 0 l):=by
   rcases QiH 0 l with h | ⟨a,ha,h⟩
   ·rw[h];unfold I64;omega
   ·rw[h];exact hI a ha
  have hc:WG op l=if(decide (1<Wz 2 l)||decide (1<Wz 4 l)||decide (1<Wz 3 l))=true then 2 else if(Wz 3 l==0)=true then 0 else if((Wn op l).1==0)=true then 2 else(Yw (QbJ 0 l) (Wn op l).1 (Wn op l).2).2:=by
   unfold WG
   rw[if_neg (by simp[c1]),if_neg (by omega),if_neg (by simp[c3])]
  rw[hc]
  clear hc
  generalize Wz 2 l=n2 at *
  generalize Wz 4 l=n4 at *
  generalize Wz 3 l=n3 at *
  generalize QbJ 0 l=nn at *
  generalize Wn op l=ib at *
  obtain⟨ib1,ib2⟩:=ib
  have qi:=QeK nn ib1 ib2 hn
  generalize Yw nn ib1 ib2=im at *
  obtain⟨im1,im2⟩:=im
  obtain⟨a0,cap,rfl,h1⟩:=hv
  simp(disch:=(first | omega | ((repeat (first | rw[Qa.next_push] | rw[Qa.next_set] | rw[Qa.next_up]));done) | ((repeat (first | rw[Qa.next_push] | rw[Qa.next_set] | rw[Qa.next_up]));omega))) only[VF,Yc,Yb,Ya,sxA,sxB,mxD,mxB,splice,simprocAttr,QU,r1,g0,r6,r7,r8,r9]
  repeat' (first
   | (refine Qp (fun h=>?_) (fun h=>?_)<;>(try simp only[Bool.not_eq_true',Bool.not_eq_false']at h)<;>simp(disch:=(first | omega | ((repeat (first | rw[Qa.next_push] | rw[Qa.next_set] | rw[Qa.next_up]));done) | ((repeat (first | rw[Qa.next_push] | rw[Qa.next_set] | rw[Qa.next_up]));omega))) only[Yc,Yb,Ya,sxA,sxB,mxD,mxB,splice,simprocAttr,QU,r1,g0,r6,r7,r8,r9,h])
   | (refine Qe (fun h=>?_) (fun h=>?_)<;>(try simp only[Bool.not_eq_true',Bool.not_eq_false']at h)<;>simp(disch:=(first | omega | ((repeat (first | rw[Qa.next_push] | rw[Qa.next_set] | rw[Qa.next_up]));done) | ((repeat (first | rw[Qa.next_push] | rw[Qa.next_set] | rw[Qa.next_up]));omega))) only[Yc,Yb,Ya,sxA,sxB,mxD,mxB,splice,simprocAttr,QU,r1,g0,r6,r7,r8,r9,h])
   | (refine(qb _ hx).thenW ?_;rintro _ _ hn hw2 ⟨rfl,k,rfl⟩;have hx:=hx.up (show _≤k from hn);simp(disch:=(first | omega | ((repeat (first | rw[Qa.next_push] | rw[Qa.next_set] | rw[Qa.next_up]));done) | ((repeat (first | rw[Qa.next_push] | rw[Qa.next_set] | rw[Qa.next_up]));omega))) only[Yc,Yb,Ya,sxA,sxB,mxD,mxB,splice,simprocAttr,QU,r1,g0,r6,r7,r8,r9])
   | (refine(qi _).thenW ?_;rintro _ _ hn hw2 ⟨rfl,rfl⟩;simp(disch:=(first | omega | ((repeat (first | rw[Qa.next_push] | rw[Qa.next_set] | rw[Qa.next_up]));done) | ((repeat (first | rw[Qa.next_push] | rw[Qa.next_set] | rw[Qa.next_up]));omega))) only[Yc,Yb,Ya,sxA,sxB,mxD,mxB,splice,simprocAttr,QU,r1,g0,r6,r7,r8,r9])
   | fail)
  all_goals refine .ext hw hx ⟨?_,_,rfl⟩
  all_goals simp_all
 have hS:∃a0 cap,v=.slice a0 l.length cap:=XG hv
 obtain⟨a0,cap,hvs⟩:=hS
 have hAt:∀ (i:Nat) (a:Ar) (H':Qa),Ext H H'→l[i]? = some a→∃b e ro,a0=some ⟨b,0,none⟩∧H'.get b=some (.cells (Qh l) e ro)∧b<H.next∧List.take 11 (List.drop (i * 11) (Qh l))=a.cells∧i * 11+11≤(Qh l).length:=by
  intro i a H' hx hi
  have hil:i<l.length:=(List.getElem?_eq_some_iff.1 hi).1
  obtain⟨a1,cap1,e1,h1⟩:=hv
  rw[hvs]at e1
  cases e1
  obtain⟨b,e,ro,rfl,hb⟩:=h1 (by omega)
  exact⟨b,e,ro,rfl,by rw[hx.get b (hw.lt hb)];exact hb,hw.lt hb,Y6 l i a hi,by rw[QV];omega⟩
 have P9:∀A H',icF H op v A H'→WI op=true→l.length≤4→Qaq l=0→Qj prog VG ⟨Rt prog Jg H fun u H'=>u=.int .i64 (WG op l)∧∃k,H'=H.up k,Y8⟩ (Rt prog Jg H fun u H'=>u=.int .i64 (WG op l)∧∃k,H'=H.up k) A H':=by
  rintro A H' ⟨hx,r1,g0,hb0⟩ c1 c2 c3
  simp(disch:=(first | omega | ((repeat (first | rw[Qa.next_push] | rw[Qa.next_set] | rw[Qa.next_up]));done) | ((repeat (first | rw[Qa.next_push] | rw[Qa.next_set] | rw[Qa.next_up]));omega))) only[VG,sxA,sxB,mxD,mxB,splice,simprocAttr,r1,g0,hvs]
  refine Wq (fun m A' H'=>∃i:Nat,i≤l.length∧m=l.length - i∧icF H op v A' H'∧A' 6=.int .i64 (Wz 2 (l.take i))∧A' 7=.int .i64 (Wz 4 (l.take i))∧A' 8=.int .i64 (Wz 3 (l.take i))∧A' 9=.int .i64 (QbJ 0 (l.take i))∧A' 38=.slice a0 l.length cap∧A' 39=.int .i64 l.length∧A' 40=.int .i64 i) l.length ?_ ?_
  ·refine⟨0,Nat.zero_le _,by omega,⟨hx,?_,?_,hb0⟩,?_,?_,?_,?_,?_,?_,?_⟩
   all_goals (try simp only[uxA,uxB,simprocAttr,r1,g0,hvs])
   all_goals (first | rfl | simp[Wz,QbJ])
  ·rintro m A' H' ⟨i,hi,rfl,⟨hx,r1,g0,hb0⟩,r6,r7,r8,r9,r38,r39,r40⟩
   simp(disch:=(first | omega | ((repeat (first | rw[Qa.next_push] | rw[Qa.next_set] | rw[Qa.next_up]));done) | ((repeat (first | rw[Qa.next_push] | rw[Qa.next_set] | rw[Qa.next_up]));omega))) only[QcV,sxA,sxB,mxD,mxB,splice,simprocAttr,r1,g0,r38,r39,r40]
   refine Qe (fun h2=>?_) (fun h2=>?_)
   ·have h2:i<l.length:=by have:=of_decide_eq_true h2;omega
    obtain⟨a,ha⟩:∃a,l[i]? = some a:=⟨_,List.getElem?_eq_getElem h2⟩
    obtain⟨b,e,ro,rfl,hgb,hbn,htk,hle⟩:=hAt i a H' hx ha
    have hxn:=hx.next
    have d1:(0:Int)≤i∧(i:Int)<l.length:=by omega
    have d3:(i:Int).toNat=i:=by omega
    have ei:IntKind.i64.wrap ((i:Int)+1)=((i+1:Nat):Int):=by rw[w64 (by unfold I64;omega)];omega
    have b2:=Qcs 2 (l.take i)
    have b3:=Qcs 3 (l.take i)
    have b4:=Qcs 4 (l.take i)
    have hlt:(l.take i).length≤1000:=by rw[List.length_take];omega
    have e2:IntKind.i64.wrap (Wz 2 (l.take i)+1)=Wz 2 (l.take i)+1:=w64 (by unfold I64;omega)
    have e3:IntKind.i64.wrap (Wz 3 (l.take i)+1)=Wz 3 (l.take i)+1:=w64 (by unfold I64;omega)
    have e4:IntKind.i64.wrap (Wz 4 (l.take i)+1)=Wz 4 (l.take i)+1:=w64 (by unfold I64;omega)
    have s2:=QbK 2 (l.take i) a
    have s3:=QbK 3 (l.take i) a
    have s4:=QbK 4 (l.take i) a
    have sn:=Qj0 (l.take i) 0 a
    rw[← Qgy l i a ha]at s2 s3 s4 sn
    obtain⟨k,r,mm,n⟩:=a
    simp only[Ar.cells]at htk
    simp(disch:=(first | omega | ((repeat (first | rw[Qa.next_push] | rw[Qa.next_set] | rw[Qa.next_up]));done) | ((repeat (first | rw[Qa.next_push] | rw[Qa.next_set] | rw[Qa.next_up]));omega))) only[QcU,QcT,QcS,sxA,sxB,mxD,mxB,splice,simprocAttr,r1,g0,r6,r7,r8,r9,r38,r39,r40,d1,d3,hgb,htk,hle,ei,e2,e3,e4]
    repeat' (first
     | (refine Qe (fun h=>?_) (fun h=>?_)<;>simp(disch:=(first | omega | ((repeat (first | rw[Qa.next_push] | rw[Qa.next_set] | rw[Qa.next_up]));done) | ((repeat (first | rw[Qa.next_push] | rw[Qa.next_set] | rw[Qa.next_up]));omega))) only[sxA,sxB,mxD,mxB,splice,simprocAttr,r6,r7,r8,r9,r38,r39,r40,ei,e2,e3,e4])
     | fail)
    all_goals refine⟨l.length - (i+1),by omega,i+1,by omega,rfl,⟨(hx.push _).set (by omega) _,?_,?_,?_⟩,?_,?_,?_,?_,?_,?_,?_⟩
    all_goals (first
     | (simp only[uxA,uxB,simprocAttr,r1,r38,r39];done)
     | (simp(disch:=(first | omega | ((repeat (first | rw[Qa.next_push] | rw[Qa.next_set] | rw[Qa.next_up]));done) | ((repeat (first | rw[Qa.next_push] | rw[Qa.next_set] | rw[Qa.next_up]));omega))) only[mxD,mxB,splice,simprocAttr,g0];done)
     | (simp only[Qa.next_set,Qa.next_push];omega)
     | (simp only[uxA,uxB,simprocAttr,s2,s3,s4,sn,r6,r7,r8,r9];simp_all;done)
     | (simp only[uxA,uxB,simprocAttr,s2,s3,s4,sn,r6,r7,r8,r9];simp_all<;>omega))
   ·have h2:i=l.length:=by have:=of_decide_eq_false h2;omega
    subst h2
    rw[List.take_length]at r6 r7 r8 r9
    simp(disch:=(first | omega | ((repeat (first | rw[Qa.next_push] | rw[Qa.next_set] | rw[Qa.next_up]));done) | ((repeat (first | rw[Qa.next_push] | rw[Qa.next_set] | rw[Qa.next_up]));omega))) only[sxA,sxB,mxD,mxB,splice,simprocAttr]
    refine P4 _ _ ⟨hx,?_,g0,hb0⟩ c1 c2 c3 ?_ ?_ ?_ ?_
    all_goals simp only[uxA,uxB,simprocAttr,r1,r6,r7,r8,r9]
 have P12:∀A H',icF H op v A H'→A 2=.int .i64 0→WI op=true→l.length≤4→Qj prog G9 ⟨Rt prog Jg H fun u H'=>u=.int .i64 (WG op l)∧∃k,H'=H.up k,Y8⟩ (Rt prog Jg H fun u H'=>u=.int .i64 (WG op l)∧∃k,H'=H.up k) A H':=by
  rintro A H' ⟨hx,r1,g0,hb0⟩ r2 c1 c2
  simp(disch:=(first | omega | ((repeat (first | rw[Qa.next_push] | rw[Qa.next_set] | rw[Qa.next_up]));done) | ((repeat (first | rw[Qa.next_push] | rw[Qa.next_set] | rw[Qa.next_up]));omega))) only[G9,sxA,sxB,mxD,mxB,splice,simprocAttr,r1,g0,hvs]
  refine Wq (fun m A' H'=>∃i:Nat,i≤l.length∧m=l.length - i∧icF H op v A' H'∧Qaq l=Qaq (l.drop i)∧A' 25=.slice a0 l.length cap∧A' 26=.int .i64 l.length∧A' 27=.int .i64 i) l.length ?_ ?_
  ·refine⟨0,Nat.zero_le _,by omega,⟨hx,?_,?_,hb0⟩,?_,?_,?_,?_⟩
   all_goals (try simp only[uxA,uxB,simprocAttr,r1,g0,hvs])
   all_goals (first | rfl | simp)
  ·rintro m A' H' ⟨i,hi,rfl,⟨hx,r1,g0,hb0⟩,he,r25,r26,r27⟩
   simp(disch:=(first | omega | ((repeat (first | rw[Qa.next_push] | rw[Qa.next_set] | rw[Qa.next_up]));done) | ((repeat (first | rw[Qa.next_push] | rw[Qa.next_set] | rw[Qa.next_up]));omega))) only[QbC,sxA,sxB,mxD,mxB,splice,simprocAttr,r1,g0,r25,r26,r27]
   refine Qe (fun h2=>?_) (fun h2=>?_)
   ·have h2:i<l.length:=by have:=of_decide_eq_true h2;omega
    obtain⟨a,ha⟩:∃a,l[i]? = some a:=⟨_,List.getElem?_eq_getElem h2⟩
    obtain⟨b,e,ro,rfl,hgb,hbn,htk,hle⟩:=hAt i a H' hx ha
    have hxn:=hx.next
    have d1:(0:Int)≤i∧(i:Int)<l.length:=by omega
    have d3:(i:Int).toNat=i:=by omega
    have ei:IntKind.i64.wrap ((i:Int)+1)=((i+1:Nat):Int):=by rw[w64 (by unfold I64;omega)];omega
    have q1:=VI a
    have he2:=Qgx l i a ha
    obtain⟨k,r,mm,n⟩:=a
    simp only[Ar.cells]at htk q1
    simp(disch:=(first | omega | ((repeat (first | rw[Qa.next_push] | rw[Qa.next_set] | rw[Qa.next_up]));done) | ((repeat (first | rw[Qa.next_push] | rw[Qa.next_set] | rw[Qa.next_up]));omega))) only[QbB,sxA,sxB,mxD,mxB,splice,simprocAttr,r1,g0,r25,r26,r27,d1,d3,hgb,htk,hle,ei]
    refine(q1 _).thenW ?_
    rintro _ _ hn hw2 ⟨rfl,kk,rfl⟩
    have hn2:H'.next+1≤kk:=hn
    simp(disch:=(first | omega | ((repeat (first | rw[Qa.next_push] | rw[Qa.next_set] | rw[Qa.next_up]));done) | ((repeat (first | rw[Qa.next_push] | rw[Qa.next_set] | rw[Qa.next_up]));omega))) only[sxA,sxB,mxD,mxB,splice,simprocAttr,r1,g0,r2,r25,r26,r27,ei,QU]
    refine Qe (fun h=>?_) (fun h=>?_)
    ·simp(disch:=(first | omega | ((repeat (first | rw[Qa.next_push] | rw[Qa.next_set] | rw[Qa.next_up]));done) | ((repeat (first | rw[Qa.next_push] | rw[Qa.next_set] | rw[Qa.next_up]));omega))) only[sxA,sxB,mxD,mxB,splice,simprocAttr,r1,g0,r2,r25,r26,r27,ei,QU]
     refine .ext hw (((hx.push _).set (by omega) _).up (show _≤kk from hn)) ⟨?_,_,rfl⟩
     unfold WG
     simp only[bne,Bool.not_eq_true']at h
     rw[if_neg (by simp[c1]),if_neg (by omega),he,he2,h]
     simp[h]
    ·simp(disch:=(first | omega | ((repeat (first | rw[Qa.next_push] | rw[Qa.next_set] | rw[Qa.next_up]));done) | ((repeat (first | rw[Qa.next_push] | rw[Qa.next_set] | rw[Qa.next_up]));omega))) only[sxA,sxB,mxD,mxB,splice,simprocAttr,r1,g0,r2,r25,r26,r27,ei,QU]
     refine⟨l.length - (i+1),by omega,i+1,by omega,rfl,⟨((hx.push _).set (by omega) _).up (show _≤kk from hn),?_,?_,?_⟩,?_,?_,?_,?_⟩
     ·simp only[uxA,uxB,simprocAttr,r1]
     ·simp(disch:=(first | omega | ((repeat (first | rw[Qa.next_push] | rw[Qa.next_set] | rw[Qa.next_up]));done) | ((repeat (first | rw[Qa.next_push] | rw[Qa.next_set] | rw[Qa.next_up]));omega))) only[mxD,mxB,splice,simprocAttr,g0]
     ·show H.next<kk
      omega
     ·simp only[bne,Bool.not_eq_false']at h
      rw[he,he2,h];rfl
     all_goals simp only[uxA,uxB,simprocAttr,r25,r26]
   ·have h2:i=l.length:=by have:=of_decide_eq_false h2;omega
    subst h2
    simp(disch:=(first | omega | ((repeat (first | rw[Qa.next_push] | rw[Qa.next_set] | rw[Qa.next_up]));done) | ((repeat (first | rw[Qa.next_push] | rw[Qa.next_set] | rw[Qa.next_up]));omega))) only[sxA,sxB,mxD,mxB,splice,simprocAttr]
    refine P9 _ _ ⟨hx,?_,g0,hb0⟩ c1 c2 ?_
    ·simp only[uxA,uxB,simprocAttr,r1]
    ·rw[he,List.drop_length];rfl
 have qv:=V2 op
 have hz:WG op l=if WI op=false then 6 else if l.length>4 then 3 else WG op l:=by
  split
  ·rename_i h;unfold WG;rw[if_pos h]
  ·rename_i h
   split
   ·rename_i h2;unfold WG;rw[if_neg h,if_pos h2]
   ·rfl
 have hx0:=(Ext.refl H).push (.cells [.int .i64 op,v] Qb false)
 have hx1:=(Ext.refl H).push (.cells [.int .i64 op,.slice a0 l.length cap] Qb false)
 simp(disch:=(first | omega | ((repeat (first | rw[Qa.next_push] | rw[Qa.next_set] | rw[Qa.next_up]));done) | ((repeat (first | rw[Qa.next_push] | rw[Qa.next_set] | rw[Qa.next_up]));omega))) only[QeF,sxA,sxB,mxD,mxB,splice,simprocAttr,QU]
 refine(qv _).thenW ?_
 rintro _ _ hn hw2 ⟨rfl,rfl⟩
 simp(disch:=(first | omega | ((repeat (first | rw[Qa.next_push] | rw[Qa.next_set] | rw[Qa.next_up]));done) | ((repeat (first | rw[Qa.next_push] | rw[Qa.next_set] | rw[Qa.next_up]));omega))) only[sxA,sxB,mxD,mxB,splice,simprocAttr,QU]
 refine Qe (fun h1=>?_) (fun h1=>?_)
 ·simp only[Bool.not_eq_true']at h1
  simp(disch:=(first | omega | ((repeat (first | rw[Qa.next_push] | rw[Qa.next_set] | rw[Qa.next_up]));done) | ((repeat (first | rw[Qa.next_push] | rw[Qa.next_set] | rw[Qa.next_up]));omega))) only[sxA,sxB,mxD,mxB,splice,simprocAttr,QU]
  refine .ext hw hx0 ⟨?_,_,rfl⟩
  rw[hz,if_pos h1]
 ·simp only[Bool.not_eq_false']at h1
  simp(disch:=(first | omega | ((repeat (first | rw[Qa.next_push] | rw[Qa.next_set] | rw[Qa.next_up]));done) | ((repeat (first | rw[Qa.next_push] | rw[Qa.next_set] | rw[Qa.next_up]));omega))) only[QbD,sxA,sxB,mxD,mxB,splice,simprocAttr,hvs,QU]
  refine Qe (fun h2=>?_) (fun h2=>?_)
  ·have h2:4<l.length:=by have:=of_decide_eq_true h2;omega
   simp(disch:=(first | omega | ((repeat (first | rw[Qa.next_push] | rw[Qa.next_set] | rw[Qa.next_up]));done) | ((repeat (first | rw[Qa.next_push] | rw[Qa.next_set] | rw[Qa.next_up]));omega))) only[sxA,sxB,mxD,mxB,splice,simprocAttr,QU]
   refine .ext hw hx1 ⟨?_,_,rfl⟩
   rw[hz,if_neg (by simp[h1]),if_pos h2]
  ·have h2:l.length≤4:=by have:=of_decide_eq_false h2;omega
   simp(disch:=(first | omega | ((repeat (first | rw[Qa.next_push] | rw[Qa.next_set] | rw[Qa.next_up]));done) | ((repeat (first | rw[Qa.next_push] | rw[Qa.next_set] | rw[Qa.next_up]));omega))) only[sxA,sxB,mxD,mxB,splice,simprocAttr]
   refine P12 _ _ ⟨hx1,?_,?_,?_⟩ ?_ h1 h2
   ·simp only[uxA,uxB,simprocAttr]
   ·simp(disch:=(first | omega | ((repeat (first | rw[Qa.next_push] | rw[Qa.next_set] | rw[Qa.next_up]));done) | ((repeat (first | rw[Qa.next_push] | rw[Qa.next_set] | rw[Qa.next_up]));omega))) only[mxD,mxB,splice,simprocAttr,hvs]
   ·simp only[Qa.next_push];omega
   ·simp only[uxA,uxB,simprocAttr]
def Vu (f s:Int):List Ar→Bool
 | [x,y]=>(x.k==f)&&(y.k==s)
 | _=>false
def Qct:List Ar→Bool
 | [x,y]=>((x.k==1)&&(y.k==1))&&(x.r.c==y.r.c)
 | _=>false
theorem Qeg (x y:Ar):Qh [x,y]=x.cells++y.cells:=by simp[Qh]
theorem Va (d:Nat) (op:Int) (v:Value) (l:List Ar) (f s:Int) (H:Qa) (ro:Bool) (hd:H.get d=some (.cells [.int .i64 op,v] QN ro)) (hv:QY H v l) (hl:l.length≤1000):
  Qf prog YS [.pointer (some ⟨d,0,none⟩),.int .i64 f,.int .i64 s] H fun u H'=>u=.bool (Vu f s l)∧H'=H:=by
 refine QfW fun hw=>?_
 have hdn:=hw.lt hd
 have hb:∀x y,l=[x,y]→∃b e ro cap,v=.slice (some ⟨b,0,none⟩) 2 cap∧H.get b=some (.cells (x.cells++y.cells) e ro):=by
  rintro x y rfl
  obtain⟨a0,cap,rfl,h1⟩:=hv
  obtain⟨b,e,ro,rfl,hb⟩:=h1 (by simp)
  exact⟨b,e,ro,cap,rfl,by rw[← Qeg];exact hb⟩
 by_cases h:∃x y,l=[x,y]
 ·obtain⟨x,y,rfl⟩:=h
  obtain⟨b,e,ro2,cap,rfl,hg⟩:=hb x y rfl
  obtain⟨k,r,m,n⟩:=x
  obtain⟨k',r',m',n'⟩:=y
  simp only[Ar.cells,List.cons_append,List.nil_append]at hg
  have d0:((0:Int)≤0∧(0:Int)<((2:Nat):Int)):=by omega
  have d1:((0:Int)≤1∧(1:Int)<((2:Nat):Int)):=by omega
  have t0:(0:Int).toNat=0:=rfl
  have t1:(1:Int).toNat=1:=rfl
  have e2:(((2:Nat):Int)==2)=true:=rfl
  simp(disch:=(first | omega | ((repeat (first | rw[Qa.next_push] | rw[Qa.next_set] | rw[Qa.next_up]));done) | ((repeat (first | rw[Qa.next_push] | rw[Qa.next_set] | rw[Qa.next_up]));omega))) only[Gh,sxA,sxB,Nat.reduceBEq,Nat.reduceEqDiff,reduceCtorEq,mxD,mxB,Nat.reduceAdd,reduceIte,Nat.reduceLeDiff,splice,hd,hg,d0,d1,t0,t1,e2,J9]
  repeat' (first
   | (refine Qp (fun h=>?_) (fun h=>?_)<;>simp(disch:=(first | omega | ((repeat (first | rw[Qa.next_push] | rw[Qa.next_set] | rw[Qa.next_up]));done) | ((repeat (first | rw[Qa.next_push] | rw[Qa.next_set] | rw[Qa.next_up]));omega))) only[sxA,sxB,Nat.reduceBEq,Nat.reduceEqDiff,reduceCtorEq,mxD,mxB,Nat.reduceAdd,reduceIte,Nat.reduceLeDiff,splice,hd,hg,d0,d1,t0,t1,e2,J9,h])
   | fail)
  all_goals refine .mk (Nat.le_refl _) ⟨?_,rfl⟩
  all_goals simp_all [Vu]
 ·have h2:Vu f s l=false:=by
   match l,h with
   | [],_=>rfl
   | [_],_=>rfl
   | [x,y],h=>exact absurd ⟨x,y,rfl⟩ h
   | _::_::_::_,_=>rfl
  have h3:((l.length:Int)==2)=false:=by
   have:l.length≠2:=fun h4=>h (by
    match l,h4 with
    | [x,y],_=>exact⟨x,y,rfl⟩)
   simp only[beq_eq_false_iff_ne,ne_eq];omega
  obtain⟨a0,cap,rfl,h1⟩:=hv
  rw[h2]
  simp(disch:=(first | omega | ((repeat (first | rw[Qa.next_push] | rw[Qa.next_set] | rw[Qa.next_up]));done) | ((repeat (first | rw[Qa.next_push] | rw[Qa.next_set] | rw[Qa.next_up]));omega))) only[Gh,sxA,sxB,Nat.reduceBEq,Nat.reduceEqDiff,reduceCtorEq,mxD,mxB,Nat.reduceAdd,reduceIte,Nat.reduceLeDiff,splice,hd,h3,J9]
  refine .mk (Nat.le_refl _) ⟨rfl,rfl⟩
theorem Qfc (d:Nat) (op:Int) (v:Value) (l:List Ar) (H:Qa) (ro:Bool) (hd:H.get d=some (.cells [.int .i64 op,v] QN ro)) (hv:QY H v l) (hl:l.length≤1000):
  Qf prog J5 [.pointer (some ⟨d,0,none⟩)] H fun u H'=>u=.bool (Qct l)∧H'=H:=by
 refine Qeq fun hw=>?_
 have hdn:=hw.lt hd
 have q:=Va d op v l 1 1 H ro hd hv hl
 by_cases h:∃x y,l=[x,y]
 ·obtain⟨x,y,rfl⟩:=h
  obtain⟨a0,cap,rfl,h1⟩:=hv
  obtain⟨b,e,ro2,rfl,hg⟩:=h1 (by simp)
  rw[Qeg]at hg
  obtain⟨k,r,m,n⟩:=x
  obtain⟨k',r',m',n'⟩:=y
  simp only[Ar.cells,List.cons_append,List.nil_append,List.length_cons,List.length_nil]at hg hd q ⊢
  have d0:((0:Int)≤0∧(0:Int)<((0+1+1:Nat):Int)):=by omega
  have d1:((0:Int)≤1∧(1:Int)<((0+1+1:Nat):Int)):=by omega
  have t0:(0:Int).toNat=0:=rfl
  have t1:(1:Int).toNat=1:=rfl
  simp(disch:=(first | omega | ((repeat (first | rw[Qa.next_push] | rw[Qa.next_set] | rw[Qa.next_up]));done) | ((repeat (first | rw[Qa.next_push] | rw[Qa.next_set] | rw[Qa.next_up]));omega))) only[Jo,sxA,sxB,Nat.reduceBEq,Nat.reduceEqDiff,reduceCtorEq,mxD,mxB,Nat.reduceAdd,reduceIte,Nat.reduceLeDiff,splice,WV]
  refine q.thenW ?_
  rintro _ _ hn hw2 ⟨rfl,rfl⟩
  simp(disch:=(first | omega | ((repeat (first | rw[Qa.next_push] | rw[Qa.next_set] | rw[Qa.next_up]));done) | ((repeat (first | rw[Qa.next_push] | rw[Qa.next_set] | rw[Qa.next_up]));omega))) only[sxA,sxB,Nat.reduceBEq,Nat.reduceEqDiff,reduceCtorEq,mxD,mxB,Nat.reduceAdd,reduceIte,Nat.reduceLeDiff,splice,WV]
  refine Qp (fun h=>?_) (fun h=>?_)
  ·simp(disch:=(first | omega | ((repeat (first | rw[Qa.next_push] | rw[Qa.next_set] | rw[Qa.next_up]));done) | ((repeat (first | rw[Qa.next_push] | rw[Qa.next_set] | rw[Qa.next_up]));omega))) only[sxA,sxB,Nat.reduceBEq,Nat.reduceEqDiff,reduceCtorEq,mxD,mxB,Nat.reduceAdd,reduceIte,Nat.reduceLeDiff,splice,hd,hg,d0,d1,t0,t1,WV,h]
   refine .mk (Nat.le_refl _) ⟨?_,rfl⟩
   simp_all [Vu,Qct]
  ·simp(disch:=(first | omega | ((repeat (first | rw[Qa.next_push] | rw[Qa.next_set] | rw[Qa.next_up]));done) | ((repeat (first | rw[Qa.next_push] | rw[Qa.next_set] | rw[Qa.next_up]));omega))) only[sxA,sxB,Nat.reduceBEq,Nat.reduceEqDiff,reduceCtorEq,mxD,mxB,Nat.reduceAdd,reduceIte,Nat.reduceLeDiff,splice,hd,hg,d0,d1,t0,t1,WV,h]
   refine .mk (Nat.le_refl _) ⟨?_,rfl⟩
   simp_all [Vu,Qct]
 ·have h2:Vu 1 1 l=false∧Qct l=false:=by
   match l,h with
   | [],_=>exact⟨rfl,rfl⟩
   | [_],_=>exact⟨rfl,rfl⟩
   | [x,y],h=>exact absurd ⟨x,y,rfl⟩ h
   | _::_::_::_,_=>exact⟨rfl,rfl⟩
  rw[h2.1]at q
  rw[h2.2]
  simp(disch:=(first | omega | ((repeat (first | rw[Qa.next_push] | rw[Qa.next_set] | rw[Qa.next_up]));done) | ((repeat (first | rw[Qa.next_push] | rw[Qa.next_set] | rw[Qa.next_up]));omega))) only[Jo,sxA,sxB,Nat.reduceBEq,Nat.reduceEqDiff,reduceCtorEq,mxD,mxB,Nat.reduceAdd,reduceIte,Nat.reduceLeDiff,splice,WV]
  refine q.thenW ?_
  rintro _ _ hn hw2 ⟨rfl,rfl⟩
  simp(disch:=(first | omega | ((repeat (first | rw[Qa.next_push] | rw[Qa.next_set] | rw[Qa.next_up]));done) | ((repeat (first | rw[Qa.next_push] | rw[Qa.next_set] | rw[Qa.next_up]));omega))) only[sxA,sxB,Nat.reduceBEq,Nat.reduceEqDiff,reduceCtorEq,mxD,mxB,Nat.reduceAdd,reduceIte,Nat.reduceLeDiff,splice,WV]
  refine .mk (Nat.le_refl _) ⟨rfl,rfl⟩
theorem QaJ (d b cap:Nat) (op:Int) (x y:Ar) (H:Qa) (ro:Bool) (e:TypeId) (hd:H.get d=some (.cells [.int .i64 op,.slice (some ⟨b,0,none⟩) 2 cap] QN ro)) (hb:H.get b=some (.cells (Qh [x,y]) e false)):
  Qf prog ZO [.pointer (some ⟨d,0,none⟩)] H fun u H'=>u=.tuple #[]∧H'=(H.set b (.cells (Qh [y,y]) e false)).set b (.cells (Qh [y,x]) e false):=by
 refine Qe9 fun hw=>?_
 have hdn:=hw.lt hd
 have hbn:=hw.lt hb
 have d0:((0:Int)≤0∧(0:Int)<((2:Nat):Int)):=by omega
 have d1:((0:Int)≤1∧(1:Int)<((2:Nat):Int)):=by omega
 have t0:(0:Int).toNat=0:=rfl
 have t1:(1:Int).toNat=1:=rfl
 rw[Qeg]at hb
 obtain⟨k,r,m,n⟩:=x
 obtain⟨k',r',m',n'⟩:=y
 simp only[Qeg,Ar.cells,List.cons_append,List.nil_append]at hb ⊢
 simp(disch:=(first | omega | ((repeat (first | rw[Qa.next_push] | rw[Qa.next_set] | rw[Qa.next_up]));done) | ((repeat (first | rw[Qa.next_push] | rw[Qa.next_set] | rw[Qa.next_up]));omega))) only[Qao,sxA,sxB,Nat.reduceBEq,Nat.reduceEqDiff,reduceCtorEq,mxD,mxB,Nat.reduceAdd,reduceIte,Nat.reduceLeDiff,splice,hd,hb,d0,d1,t0,t1,Qep]
 refine .mk (by simp only[Qa.next_set];exact Nat.le_refl _) ⟨rfl,rfl⟩
variable {P:Program} {A:Env} {H:Qa} {k:Value→Qa→Prop}
theorem Qqt {t t' e:TypeId} {x:Operand} {a:Option Addr} {n c:Nat} (h1:P.underlying t=some (.slice e)) (hx:ev A x=.slice a n c):
  pr P (.gen (.binOp .eql t x (.const (.slice none 0 0)) t')) false A H k=k (.bool a.isNone) H:=by
 have hc:ev A (.const (.slice none 0 0))=.slice none 0 0:=rfl
 have e:rop P (.gen (.binOp .eql t x (.const (.slice none 0 0)) t')) A H=some (.bool a.isNone,H):=by
  cases a<;>simp[rop,aop,VV,QiX,Qfr,X1,hx,hc,h1,aeq,QcX,KM,YM,Qej,QiV]
 rw[Qs3];unfold QtK
 rw[e,Qx]
theorem Qfd:∀l:List Ar,(Qh l).all (·.oneCell')=true
 | []=>rfl
 | a::l=>by
  rw[KE,List.all_append,Qfd l]
  rfl
theorem QrU (v:Value) (l:List Ar) (H:Qa) (hv:QY H v l) (hl:l.length≤1000):Qf prog Xd [v] H fun u H'=>
  Ext H H'∧((l=[]∧(u=.slice none 0 0∨u=.slice (some ⟨H.next,0,none⟩) 0 0∧H'=H.push (.cells [] Qc false)))∨(l≠[]∧u=.slice (some ⟨H.next+1,0,none⟩) l.length (UNK+11)∧H'=(H.push (.cells [] Qc false)).push (.cells (Qh l) Qc false))):=by
 refine GA fun hw=>?_
 obtain⟨a0,cap,rfl,h1⟩:=hv
 have hx1:=(Ext.refl H).push (.cells [] Qc false)
 simp(disch:=(first | omega | ((repeat (first | rw[Qa.next_push] | rw[Qa.next_set] | rw[Qa.next_up]));done) | ((repeat (first | rw[Qa.next_push] | rw[Qa.next_set] | rw[Qa.next_up]));omega))) only[YK,sxA,sxB,mxD,mxB,splice,simprocAttr]
 rw[Qqt (a:=a0) (e:=Qc) (n:=l.length) (c:=cap) (by kernel_rfl) (by simp only[sxA,sxB,simprocAttr])]
 cases l with
 | nil=>
  cases a0 with
  | none=>
   simp(disch:=(first | omega | ((repeat (first | rw[Qa.next_push] | rw[Qa.next_set] | rw[Qa.next_up]));done) | ((repeat (first | rw[Qa.next_push] | rw[Qa.next_set] | rw[Qa.next_up]));omega))) only[sxA,sxB,mxA,mxB,splice,simprocAttr,mxD,mxB,splice,simprocAttr,Option.isNone,W2]
   exact .mk (Nat.le_refl _) ⟨.refl _,.inl (.inl rfl)⟩
  | some x=>
   have hr:∀H1:Qa,Ze Qc 11 88 (.slice (some ⟨H.next,0,none⟩) 0 0) (.slice (some x) 0 cap) H1=some (.slice (some ⟨H.next,0,none⟩) 0 0,H1):=fun H1=>by simp[Ze,QaN]
   simp(disch:=(first | omega | ((repeat (first | rw[Qa.next_push] | rw[Qa.next_set] | rw[Qa.next_up]));done) | ((repeat (first | rw[Qa.next_push] | rw[Qa.next_set] | rw[Qa.next_up]));omega))) only[sxA,sxB,mxA,mxB,splice,simprocAttr,mxD,mxB,splice,simprocAttr,Option.isNone,List.length_nil]
   unfold Qhk
   rw[hr,Qx]
   simp(disch:=(first | omega | ((repeat (first | rw[Qa.next_push] | rw[Qa.next_set] | rw[Qa.next_up]));done) | ((repeat (first | rw[Qa.next_push] | rw[Qa.next_set] | rw[Qa.next_up]));omega))) only[sxA,sxB,mxA,mxB,splice,simprocAttr,mxD,mxB,splice,simprocAttr,W2]
   exact .mk hx1.next ⟨hx1,.inl (.inr ⟨rfl,rfl⟩)⟩
 | cons a l=>
  obtain⟨b,e,ro,rfl,hb⟩:=h1 (by simp)
  have hbn:=hw.lt hb
  have hlen:=QV (a::l)
  have hn:QaN 11 (.slice (some ⟨b,0,none⟩) (l.length+1) cap) (H.push (.cells [] Qc false))=some (l.length+1,Qh (a::l)):=by
   rw[Qky (c:=Qh (a::l)) (e:=e) (ro:=ro) (by rw[Qg1 (by omega)];exact hb) (by omega) (by rw[hlen,List.length_cons];omega),List.drop_zero,List.take_of_length_le (by rw[hlen,List.length_cons];exact Nat.le_refl _)]
  rw[List.length_cons]at hl
  simp(disch:=(first | omega | ((repeat (first | rw[Qa.next_push] | rw[Qa.next_set] | rw[Qa.next_up]));done) | ((repeat (first | rw[Qa.next_push] | rw[Qa.next_set] | rw[Qa.next_up]));omega))) only[sxA,sxB,mxA,mxB,splice,simprocAttr,mxD,mxB,splice,simprocAttr,Option.isNone]
  refine QjP (c:=[]) (ro:=false) (e':=Qc) hn (Qfd _) (by omega) (Qg0 rfl) (by simp) (by omega) (by omega) (by decide) (by omega) ?_
  simp(disch:=(first | omega | ((repeat (first | rw[Qa.next_push] | rw[Qa.next_set] | rw[Qa.next_up]));done) | ((repeat (first | rw[Qa.next_push] | rw[Qa.next_set] | rw[Qa.next_up]));omega))) only[sxA,sxB,mxA,mxB,splice,simprocAttr,mxD,mxB,splice,simprocAttr,W2]
  refine .mk (hx1.push _).next ⟨hx1.push _,?_⟩
  simp
def QiI (op:Int) (l:List Ar):Bool:=(op==16)&&Vu 1 3 l
def Qji (op:Int) (l:List Ar):Bool:=(op==10||op==11)&&Vu 1 2 l
def Qhr (op:Int):List Ar→Bool
 | [x,y]=>(op==11)&&Qct [x,y]&&!(decide (x.r.n≤y.r.n))
 | _=>false
theorem QbL {f s:Int} {l:List Ar} (h:Vu f s l=true):∃x y,l=[x,y]:=by
 match l,h with
 | [x,y],_=>exact⟨x,y,rfl⟩
theorem Qqu (d:Nat) (op:Int) (v:Value) (l:List Ar) (H:Qa) (hd:H.get d=some (.cells [.int .i64 op,v] QN false)) (hv:QY H v l) (hl:l.length≤1000) (hw1:∀x y,l=[x,y]→∃b cap,v=.slice (some ⟨b,0,none⟩) 2 cap∧H.get b=some (.cells (Qh l) Qc false)):
    Qf prog W4 [.pointer (some ⟨d,0,none⟩)] H fun u H'=>u=.bool (Qji op l)∧(Qji op l=false→H'=H)∧(Qji op l=true→∃x y b cap,l=[x,y]∧v=.slice (some ⟨b,0,none⟩) 2 cap∧H'=(H.set b (.cells (Qh [y,y]) Qc false)).set b (.cells (Qh [y,x]) Qc false)):=by
  refine QdX fun hw=>?_
  have hdn:=hw.lt hd
  have q:=Va d op v l 1 2 H false hd hv hl
  have qt:=fun b cap x y e=>QaJ d b cap op x y H false e
  have hc:Qji op l=((op==10||op==11)&&Vu 1 2 l):=rfl
  rw[hc]
  have ht:=@QbL 1 2 l
  generalize Vu 1 2 l=r at *
  simp(disch:=(first | omega | ((repeat (first | rw[Qa.next_push] | rw[Qa.next_set] | rw[Qa.next_up]));done) | ((repeat (first | rw[Qa.next_push] | rw[Qa.next_set] | rw[Qa.next_up]));omega))) only[Vt,sxA,sxB,Nat.reduceBEq,Nat.reduceEqDiff,reduceCtorEq,mxD,mxB,Nat.reduceAdd,reduceIte,Nat.reduceLeDiff,splice,hd,W7]
  repeat' (first
    | (refine Qp (fun h=>?_) (fun h=>?_)<;>(try simp only[bne,Bool.not_eq_true',Bool.not_eq_false']at h)<;>simp(disch:=(first | omega | ((repeat (first | rw[Qa.next_push] | rw[Qa.next_set] | rw[Qa.next_up]));done) | ((repeat (first | rw[Qa.next_push] | rw[Qa.next_set] | rw[Qa.next_up]));omega))) only[sxA,sxB,Nat.reduceBEq,Nat.reduceEqDiff,reduceCtorEq,mxD,mxB,Nat.reduceAdd,reduceIte,Nat.reduceLeDiff,splice,hd,W7,h])
    | (refine Qe (fun h=>?_) (fun h=>?_)<;>(try simp only[bne,Bool.not_eq_true',Bool.not_eq_false']at h)<;>simp(disch:=(first | omega | ((repeat (first | rw[Qa.next_push] | rw[Qa.next_set] | rw[Qa.next_up]));done) | ((repeat (first | rw[Qa.next_push] | rw[Qa.next_set] | rw[Qa.next_up]));omega))) only[sxA,sxB,Nat.reduceBEq,Nat.reduceEqDiff,reduceCtorEq,mxD,mxB,Nat.reduceAdd,reduceIte,Nat.reduceLeDiff,splice,hd,W7,h])
    | (refine q.thenW ?_;rintro _ _ hn hw2 ⟨rfl,rfl⟩;simp(disch:=(first | omega | ((repeat (first | rw[Qa.next_push] | rw[Qa.next_set] | rw[Qa.next_up]));done) | ((repeat (first | rw[Qa.next_push] | rw[Qa.next_set] | rw[Qa.next_up]));omega))) only[sxA,sxB,Nat.reduceBEq,Nat.reduceEqDiff,reduceCtorEq,mxD,mxB,Nat.reduceAdd,reduceIte,Nat.reduceLeDiff,splice,hd,W7])
    | fail)
  all_goals (first
    | (refine .mk (Nat.le_refl _) ⟨by simp,fun _=>rfl,by simp⟩)
    | (obtain⟨x,y,hxy⟩:=ht (by assumption)
       obtain⟨b,cap,hvb,hb⟩:=hw1 x y hxy
       subst hxy hvb
       refine(qt b cap x y _ hd hb).thenW ?_
       rintro _ _ hn hw2 ⟨rfl,rfl⟩
       simp(disch:=(first | omega | ((repeat (first | rw[Qa.next_push] | rw[Qa.next_set] | rw[Qa.next_up]));done) | ((repeat (first | rw[Qa.next_push] | rw[Qa.next_set] | rw[Qa.next_up]));omega))) only[sxA,sxB,Nat.reduceBEq,Nat.reduceEqDiff,reduceCtorEq,mxD,mxB,Nat.reduceAdd,reduceIte,Nat.reduceLeDiff,splice,W7]
       refine .mk (by simp only[Qa.next_set];exact Nat.le_refl _) ⟨by simp_all,by simp_all,fun _=>⟨x,y,b,cap,rfl,rfl,rfl⟩⟩))
theorem QoX (d:Nat) (op:Int) (v:Value) (l:List Ar) (H:Qa) (hd:H.get d=some (.cells [.int .i64 op,v] QN false)) (hv:QY H v l) (hl:l.length≤1000) (hw1:∀x y,l=[x,y]→∃b cap,v=.slice (some ⟨b,0,none⟩) 2 cap∧H.get b=some (.cells (Qh l) Qc false)):
    Qf prog WJ [.pointer (some ⟨d,0,none⟩)] H fun u H'=>u=.bool (QiI op l)∧(QiI op l=false→H'=H)∧(QiI op l=true→∃x y,l=[x,y]∧H'=(H.push (.cells (Qh [x,x,y]) Qc false)).set d (.cells [.int .i64 op,.slice (some ⟨H.next,0,none⟩) 3 3] QN false)):=by
  refine Qdk fun hw=>?_
  have hdn:=hw.lt hd
  have q:=Va d op v l 1 3 H false hd hv hl
  have hc:QiI op l=((op==16)&&Vu 1 3 l):=rfl
  rw[hc]
  have ht:=@QbL 1 3 l
  have hdz:¬d=H.next:=by omega
  generalize Vu 1 3 l=r at *
  simp(disch:=(first | omega | ((repeat (first | rw[Qa.next_push] | rw[Qa.next_set] | rw[Qa.next_up]));done) | ((repeat (first | rw[Qa.next_push] | rw[Qa.next_set] | rw[Qa.next_up]));omega))) only[GR,sxA,sxB,Nat.reduceBEq,Nat.reduceEqDiff,reduceCtorEq,mxD,mxB,Nat.reduceAdd,reduceIte,Nat.reduceLeDiff,splice,hd,Ws]
  repeat' (first
    | (refine Qp (fun h=>?_) (fun h=>?_)<;>(try simp only[bne,Bool.not_eq_true',Bool.not_eq_false']at h)<;>simp(disch:=(first | omega | ((repeat (first | rw[Qa.next_push] | rw[Qa.next_set] | rw[Qa.next_up]));done) | ((repeat (first | rw[Qa.next_push] | rw[Qa.next_set] | rw[Qa.next_up]));omega))) only[sxA,sxB,Nat.reduceBEq,Nat.reduceEqDiff,reduceCtorEq,mxD,mxB,Nat.reduceAdd,reduceIte,Nat.reduceLeDiff,splice,hd,Ws,h])
    | (refine Qe (fun h=>?_) (fun h=>?_)<;>(try simp only[bne,Bool.not_eq_true',Bool.not_eq_false']at h)<;>simp(disch:=(first | omega | ((repeat (first | rw[Qa.next_push] | rw[Qa.next_set] | rw[Qa.next_up]));done) | ((repeat (first | rw[Qa.next_push] | rw[Qa.next_set] | rw[Qa.next_up]));omega))) only[sxA,sxB,Nat.reduceBEq,Nat.reduceEqDiff,reduceCtorEq,mxD,mxB,Nat.reduceAdd,reduceIte,Nat.reduceLeDiff,splice,hd,Ws,h])
    | (refine q.thenW ?_;rintro _ _ hn hw2 ⟨rfl,rfl⟩;simp(disch:=(first | omega | ((repeat (first | rw[Qa.next_push] | rw[Qa.next_set] | rw[Qa.next_up]));done) | ((repeat (first | rw[Qa.next_push] | rw[Qa.next_set] | rw[Qa.next_up]));omega))) only[sxA,sxB,Nat.reduceBEq,Nat.reduceEqDiff,reduceCtorEq,mxD,mxB,Nat.reduceAdd,reduceIte,Nat.reduceLeDiff,splice,hd,Ws])
    | fail)
  all_goals (first
    | (refine .mk (Nat.le_refl _) ⟨by simp,fun _=>rfl,by simp⟩)
    | (obtain⟨x,y,hxy⟩:=ht (by assumption)
       obtain⟨b,cap,hvb,hb⟩:=hw1 x y hxy
       subst hxy hvb
       obtain⟨k,r,m,n⟩:=x
       obtain⟨k',r',m',n'⟩:=y
       have hbn:=hw.lt hb
       have d0:((0:Int)≤0∧(0:Int)<((2:Nat):Int)):=by omega
       have d1:((0:Int)≤1∧(1:Int)<((2:Nat):Int)):=by omega
       have t0:(0:Int).toNat=0:=rfl
       have t1:(1:Int).toNat=1:=rfl
       simp only[Qeg,Ar.cells,List.cons_append,List.nil_append]at hb
       simp(disch:=(first | omega | ((repeat (first | rw[Qa.next_push] | rw[Qa.next_set] | rw[Qa.next_up]));done) | ((repeat (first | rw[Qa.next_push] | rw[Qa.next_set] | rw[Qa.next_up]));omega))) only[sxA,sxB,Nat.reduceBEq,Nat.reduceEqDiff,reduceCtorEq,mxA,mxB,Nat.reduceAdd,reduceIte,Nat.reduceLeDiff,splice,mxD,mxB,Nat.reduceAdd,reduceIte,Nat.reduceLeDiff,splice,hd,hb,d0,d1,t0,t1,Ws]
       rw[if_pos (by decide)]
       simp(disch:=(first | omega | ((repeat (first | rw[Qa.next_push] | rw[Qa.next_set] | rw[Qa.next_up]));done) | ((repeat (first | rw[Qa.next_push] | rw[Qa.next_set] | rw[Qa.next_up]));omega))) only[sxA,sxB,Nat.reduceBEq,Nat.reduceEqDiff,reduceCtorEq,mxA,mxB,Nat.reduceAdd,reduceIte,Nat.reduceLeDiff,splice,mxD,mxB,Nat.reduceAdd,reduceIte,Nat.reduceLeDiff,splice,hd,hb,hdz,if_false,d0,d1,t0,t1,Ws]
       refine .mk (by simp only[Qa.next_set,Qa.next_push];omega) ⟨rfl,fun h=>h.elim,fun _=>⟨_,_,rfl,rfl⟩⟩))
theorem Qqv (d:Nat) (op:Int) (v:Value) (l:List Ar) (H:Qa) (hd:H.get d=some (.cells [.int .i64 op,v] QN false)) (hv:QY H v l) (hl:l.length≤1000) (hw1:∀x y,l=[x,y]→∃b cap,v=.slice (some ⟨b,0,none⟩) 2 cap∧H.get b=some (.cells (Qh l) Qc false)):
  Qf prog W5 [.pointer (some ⟨d,0,none⟩)] H fun u H'=>u=.bool (Qhr op l)∧(Qhr op l=false→H'=H)∧(Qhr op l=true→∃x y b cap,l=[x,y]∧v=.slice (some ⟨b,0,none⟩) 2 cap∧H'=(H.set b (.cells (Qh [y,y]) Qc false)).set b (.cells (Qh [y,x]) Qc false)):=by
 refine QdY fun hw=>?_
 have hdn:=hw.lt hd
 have q:=Qfc d op v l H false hd hv hl
 by_cases h2:∃x y,l=[x,y]
 ·obtain⟨x,y,hxy⟩:=h2
  obtain⟨b,cap,hvb,hb⟩:=hw1 x y hxy
  subst hxy hvb
  have qt:=QaJ d b cap op x y H false Qc hd hb
  have hbn:=hw.lt hb
  have hc:Qhr op [x,y]=((op==11)&&Qct [x,y]&&!(decide (x.r.n≤y.r.n))):=rfl
  rw[hc]
  have hb2:H.get b=some (.cells (x.cells++y.cells) Qc false):=by rw[← Qeg];exact hb
  have d0:((0:Int)≤0∧(0:Int)<((2:Nat):Int)):=by omega
  have d1:((0:Int)≤1∧(1:Int)<((2:Nat):Int)):=by omega
  have t0:(0:Int).toNat=0:=rfl
  have t1:(1:Int).toNat=1:=rfl
  obtain⟨k,r,m,n⟩:=x
  obtain⟨k',r',m',n'⟩:=y
  simp only[Ar.cells,List.cons_append,List.nil_append]at hb2
  generalize Qct _=al at *
  simp(disch:=(first | omega | ((repeat (first | rw[Qa.next_push] | rw[Qa.next_set] | rw[Qa.next_up]));done) | ((repeat (first | rw[Qa.next_push] | rw[Qa.next_set] | rw[Qa.next_up]));omega))) only[Z6,sxA,sxB,Nat.reduceBEq,Nat.reduceEqDiff,reduceCtorEq,mxD,mxB,Nat.reduceAdd,reduceIte,Nat.reduceLeDiff,splice,hd,hb2,d0,d1,t0,t1,QO]
  repeat' (first
   | (refine Qp (fun h=>?_) (fun h=>?_)<;>(try simp only[bne,Bool.not_eq_true',Bool.not_eq_false']at h)<;>simp(disch:=(first | omega | ((repeat (first | rw[Qa.next_push] | rw[Qa.next_set] | rw[Qa.next_up]));done) | ((repeat (first | rw[Qa.next_push] | rw[Qa.next_set] | rw[Qa.next_up]));omega))) only[sxA,sxB,Nat.reduceBEq,Nat.reduceEqDiff,reduceCtorEq,mxD,mxB,Nat.reduceAdd,reduceIte,Nat.reduceLeDiff,splice,hd,hb2,d0,d1,t0,t1,QO,h])
   | (refine Qe (fun h=>?_) (fun h=>?_)<;>(try simp only[bne,Bool.not_eq_true',Bool.not_eq_false']at h)<;>simp(disch:=(first | omega | ((repeat (first | rw[Qa.next_push] | rw[Qa.next_set] | rw[Qa.next_up]));done) | ((repeat (first | rw[Qa.next_push] | rw[Qa.next_set] | rw[Qa.next_up]));omega))) only[sxA,sxB,Nat.reduceBEq,Nat.reduceEqDiff,reduceCtorEq,mxD,mxB,Nat.reduceAdd,reduceIte,Nat.reduceLeDiff,splice,hd,hb2,d0,d1,t0,t1,QO,h])
   | (refine q.thenW ?_;rintro _ _ hn hw2 ⟨rfl,rfl⟩;simp(disch:=(first | omega | ((repeat (first | rw[Qa.next_push] | rw[Qa.next_set] | rw[Qa.next_up]));done) | ((repeat (first | rw[Qa.next_push] | rw[Qa.next_set] | rw[Qa.next_up]));omega))) only[sxA,sxB,Nat.reduceBEq,Nat.reduceEqDiff,reduceCtorEq,mxD,mxB,Nat.reduceAdd,reduceIte,Nat.reduceLeDiff,splice,hd,hb2,d0,d1,t0,t1,QO])
   | (refine qt.thenW ?_;rintro _ _ hn hw2 ⟨rfl,rfl⟩;simp(disch:=(first | omega | ((repeat (first | rw[Qa.next_push] | rw[Qa.next_set] | rw[Qa.next_up]));done) | ((repeat (first | rw[Qa.next_push] | rw[Qa.next_set] | rw[Qa.next_up]));omega))) only[sxA,sxB,Nat.reduceBEq,Nat.reduceEqDiff,reduceCtorEq,mxD,mxB,Nat.reduceAdd,reduceIte,Nat.reduceLeDiff,splice,QO])
   | fail)
  all_goals (first
   | (refine .mk (Nat.le_refl _) ⟨by simp,fun _=>rfl,by simp⟩)
   | (refine .mk (by simp only[Qa.next_set];exact Nat.le_refl _) ⟨rfl,fun h=>h.elim,fun _=>⟨_,_,b,cap,rfl,rfl,rfl⟩⟩))
 ·have h3:Qct l=false∧Qhr op l=false:=by
   match l,h2 with
   | [],_=>exact⟨rfl,rfl⟩
   | [_],_=>exact⟨rfl,rfl⟩
   | [x,y],h=>exact absurd ⟨x,y,rfl⟩ h
   | _::_::_::_,_=>exact⟨rfl,rfl⟩
  rw[h3.1]at q
  rw[h3.2]
  simp(disch:=(first | omega | ((repeat (first | rw[Qa.next_push] | rw[Qa.next_set] | rw[Qa.next_up]));done) | ((repeat (first | rw[Qa.next_push] | rw[Qa.next_set] | rw[Qa.next_up]));omega))) only[Z6,sxA,sxB,Nat.reduceBEq,Nat.reduceEqDiff,reduceCtorEq,mxD,mxB,Nat.reduceAdd,reduceIte,Nat.reduceLeDiff,splice,hd,QO]
  repeat' (first
   | (refine Qp (fun h=>?_) (fun h=>?_)<;>(try simp only[bne,Bool.not_eq_true',Bool.not_eq_false']at h)<;>simp(disch:=(first | omega | ((repeat (first | rw[Qa.next_push] | rw[Qa.next_set] | rw[Qa.next_up]));done) | ((repeat (first | rw[Qa.next_push] | rw[Qa.next_set] | rw[Qa.next_up]));omega))) only[sxA,sxB,Nat.reduceBEq,Nat.reduceEqDiff,reduceCtorEq,mxD,mxB,Nat.reduceAdd,reduceIte,Nat.reduceLeDiff,splice,hd,QO,h])
   | (refine Qe (fun h=>?_) (fun h=>?_)<;>(try simp only[bne,Bool.not_eq_true',Bool.not_eq_false']at h)<;>simp(disch:=(first | omega | ((repeat (first | rw[Qa.next_push] | rw[Qa.next_set] | rw[Qa.next_up]));done) | ((repeat (first | rw[Qa.next_push] | rw[Qa.next_set] | rw[Qa.next_up]));omega))) only[sxA,sxB,Nat.reduceBEq,Nat.reduceEqDiff,reduceCtorEq,mxD,mxB,Nat.reduceAdd,reduceIte,Nat.reduceLeDiff,splice,hd,QO,h])
   | (refine q.thenW ?_;rintro _ _ hn hw2 ⟨rfl,rfl⟩;simp(disch:=(first | omega | ((repeat (first | rw[Qa.next_push] | rw[Qa.next_set] | rw[Qa.next_up]));done) | ((repeat (first | rw[Qa.next_push] | rw[Qa.next_set] | rw[Qa.next_up]));omega))) only[sxA,sxB,Nat.reduceBEq,Nat.reduceEqDiff,reduceCtorEq,mxD,mxB,Nat.reduceAdd,reduceIte,Nat.reduceLeDiff,splice,hd,QO])
   | fail)
  all_goals exact .mk (Nat.le_refl _) ⟨rfl,fun _=>rfl,by simp⟩
def Jp (ib:Int×Bool) (a:Ar):Ar×Int:=
 let b:=QP a
 if(b.2==0)=false then(a,b.2)
 else if(b.1.k==3)=true then(let im:=Yw b.1.n ib.1 ib.2;({b.1 with n:=im.1},im.2))
 else(b.1,0)
def Wv (ib:Int×Bool):List Ar→List Ar×Int
 | []=>([],0)
 | a::l=>if((Jp ib a).2==0)=true then((Jp ib a).1::(Wv ib l).1,(Wv ib l).2) else([],(Jp ib a).2)
def X4 (op:Int) (l:List Ar):List Ar:=
 if QiI op l=true then(match l with | [x,y]=>[x,x,y] | l=>l)
 else if Qji op l=true then l.reverse
 else if Qhr op l=true then l.reverse
 else l
def Wy (op:Int) (l:List Ar):Int×List Ar×Int:=
 if(WG op l==0)=false then(0,[],WG op l)
 else if((Wv (Wn op l) l).2==0)=false then(0,[],(Wv (Wn op l) l).2)
 else(op,X4 op (Wv (Wn op l) l).1,0)
theorem Qf1 (ib:Int×Bool):∀ (l:List Ar) (i:Nat) (a:Ar),l[i]? = some a→Wv ib (l.drop i)=if((Jp ib a).2==0)=true then((Jp ib a).1::(Wv ib (l.drop (i+1))).1,(Wv ib (l.drop (i+1))).2) else([],(Jp ib a).2)
 | [],i,a,h=>by simp at h
 | b::l,0,a,h=>by simp at h;subst h;rfl
 | b::l,i+1,a,h=>by simpa using Qf1 ib l i a (by simpa using h)
end Go.Proofs.YtdjkkoacinpdeaaGreatDoor.code
