/- Closed runs of functions of numbers and texts, as contracts over any heap. -/
import Derived.Test.YtdjkkoacinpdeaaGreatDoorC0Code
import Derived.Test.YtdjkkoacinpdeaaGreatDoorAbD
import Derived.Test.YtdjkkoacinpdeaaGreatDoorAbC
import Derived.Laws.BitsLemmas
import Derived.Laws.Bits64
import Derived.Lib.IndexLaws
set_option linter.unusedVariables false
set_option maxRecDepth 100000
set_option linter.unusedSimpArgs false
set_option maxHeartbeats 4000000
noncomputable section
namespace Go.Proofs.YtdjkkoacinpdeaaGreatDoor.code
open Go.Ab
def Qm2:FuncId→Option Xk:=fun f=>bif Nat.beq f QX then some .indexByte else bif Nat.beq f XC then some .noEscape else none
theorem QeD:Qju prog QX .indexByte:=⟨_,rfl,by kernel_rfl,by kernel_rfl,by kernel_rfl,by kernel_rfl⟩
theorem QfP:Qju prog XC .noEscape:=⟨_,rfl,by kernel_rfl,by kernel_rfl,by kernel_rfl,by kernel_rfl⟩
theorem QfQ:∀f k,Qm2 f=some k→Qju prog f k:=by
 intro f k h
 unfold Qm2 at h
 cases b1:Nat.beq f QX with
 | true=>rw[b1]at h;cases h;rw[Nat.eq_of_beq_eq_true b1];exact QeD
 | false=>
  rw[b1,cond_false]at h
  cases b3:Nat.beq f XC with
  | true=>rw[b3]at h;cases h;rw[Nat.eq_of_beq_eq_true b3];exact QfP
  | false=>rw[b3]at h;cases h
def isV (u:Value):Option (Value×Qa)→Bool
 | some (v,_)=>QcY 6 u v
 | none=>false
def QnW (f:FuncId) (args:List Value) (u:Value):Bool:=isV u ((run prog (QeX Qm2) 200 5 12).fn f args (H0 prog))
theorem Qgr {f:FuncId} {args:List Value} {u:Value} (he:entered prog f=true) (ha:args.all Ab.plain=true) (hu:Ab.plain u=true) (h:QnW f args u=true) (H:Qa):Qf prog f args H fun v H'=>v=u∧H'=H:=by
 unfold QnW isV at h
 split at h
 ·rename_i v H1 hr
  have hd:=((Qgk (Qbb QfQ) 12).fn f args _ _ H1 hr).does he
  have e:u=v:=QbY 6 _ _ h
  subst e
  exact Qex he (Qqg hd ha hu H)
 ·cases h
def I64 (n:Int):Prop:=-9223372036854775808≤n∧n≤9223372036854775807
theorem w64 {n:Int} (h:I64 n):IntKind.i64.wrap n=n:=by
 rw[IntKind.wrap_i64];unfold I64 at h;omega
def Qs9 (l:List Int):List Value:=l.map (.int .i64 ·)
theorem Qqi {l:List Int} {i:Nat} (h:i<l.length):(Qs9 l)[i]? = some (.int .i64 (l.getD i 0)):=by
 simp[Qs9,List.getElem?_eq_getElem h,List.getD]
def QkF (H:Qa) (v:Value) (n:Nat) (cs:List Value):Prop:=∃a cap,v=.slice a n cap∧(0<n→∃b e ro,a=some ⟨b,0,none⟩∧H.get b=some (.cells cs e ro))
theorem QkF.ext {H H':Qa} {v:Value} {n:Nat} {cs:List Value} (hw:H.Wf) (he:Ext H H') (h:QkF H v n cs):QkF H' v n cs:=by
 obtain⟨a,cap,rfl,h1⟩:=h
 refine⟨a,cap,rfl,fun hn=>?_⟩
 obtain⟨b,e,ro,rfl,hb⟩:=h1 hn
 exact⟨b,e,ro,rfl,by rw[he.get b (hw.lt hb)];exact hb⟩
theorem XG {H:Qa} {v:Value} {n:Nat} {cs:List Value} (h:QkF H v n cs):∃a cap,v=.slice a n cap:=by
 obtain⟨a,cap,rfl,_⟩:=h;exact⟨a,cap,rfl⟩
theorem Qta {n:Int} (h0:0≤n) (h1:n<18446744073709551616):IntKind.u64.wrap n=n:=by rw[IntKind.wrap_u64];omega
def Qhl (d:Nat):UInt8:=(if d<10 then 48+d else 87+d).toUInt8
def dgs (b u:Nat):List UInt8:=if h:u<b∨b<2 then[Qhl u] else dgs b (u / b)++[Qhl (u % b)]
termination_by u
decreasing_by exact Nat.div_lt_self (by omega) (by omega)
theorem QkG {b u:Nat} (h:u<b):dgs b u=[Qhl u]:=by rw[dgs,dif_pos (.inl h)]
theorem Qm3 {b u:Nat} (h:b≤u) (hb:2≤b):dgs b u=dgs b (u / b)++[Qhl (u % b)]:=by rw[dgs,dif_neg (by omega)]
def Qg4 (n:Int) (b:Nat) (ahead:List UInt8):List UInt8:=(if n<0 then[45] else[])++ahead++dgs b n.natAbs
def Qas (n:Int):List UInt8:=Qg4 n 16 [48,120]
theorem QtR:∀d,d<16→(([48,49,50,51,52,53,54,55,56,57,97,98,99,100,101,102]:List UInt8).drop d).take 1=[Qhl d]:=by decide
theorem QkH (n:Int) (hn:I64 n) (b:Nat) (hb:2≤b) (hb2:b≤16) (a:List UInt8) (ha:a.length≤100) (H:Qa):Qf prog ZZ [.int .i64 n,.int .u64 (b:Int),.string (mkS a)] H fun u H'=>u=.string (mkS (Qg4 n b a))∧H'=H:=by
 refine Qda fun hw=>?_
 have hu:∃sg:List UInt8,sg.length≤1∧Qg4 n b a=sg++a++dgs b n.natAbs∧((n<0∧sg=[45]∧IntKind.u64.wrap (-(IntKind.u64.wrap n))=(n.natAbs:Int))∨(¬n<0∧sg=[]∧IntKind.u64.wrap n=(n.natAbs:Int))):=by
  unfold I64 at hn
  by_cases h:n<0
  ·exact⟨[45],by simp,by simp[Qg4,h],.inl ⟨h,rfl,by rw[IntKind.wrap_u64,IntKind.wrap_u64];omega⟩⟩
  ·exact⟨[],by simp,by simp[Qg4,h],.inr ⟨h,rfl,by rw[IntKind.wrap_u64];omega⟩⟩
 have hnat:n.natAbs<18446744073709551616:=by unfold I64 at hn;omega
 obtain⟨sg,hsg,hT,hcase⟩:=hu
 rw[hT]
 generalize hu0:n.natAbs=u0 at *
 have main:∀A:Env,A 1=.int .u64 (b:Int)→A 2=.string (mkS a)→A 7=.int .u64 (u0:Int)→A 8=.string (mkS sg)→
   Qj prog YZ ⟨Rt prog Vp H fun u H'=>u=.string (mkS (sg++a++dgs b u0))∧H'=H,Y8⟩ (Rt prog Vp H fun u H'=>u=.string (mkS (sg++a++dgs b u0))∧H'=H) A H:=by
  intro A r1 r2 r7 r8
  simp only[YZ,sxA,sxB,Nat.reduceBEq,Nat.reduceEqDiff,reduceCtorEq,mxA,mxB,Nat.reduceAdd,reduceIte,Nat.reduceLeDiff,splice]
  refine Wq (fun m A' H'=>∃ (u:Nat) (suf:List UInt8),m=(if suf=[] then u+1 else u)∧H'=H∧u * 2 ^ suf.length<18446744073709551616∧suf.length≤64∧(if u=0∧suf≠[] then suf else dgs b u++suf)=dgs b u0∧A' 1=.int .u64 (b:Int)∧A' 2=.string (mkS a)∧A' 7=.int .u64 (u:Int)∧A' 8=.string (mkS sg)∧A' 9=.string (mkS suf)) (u0+1) ?_ ?_
  ·refine⟨u0,[],by simp,rfl,by simpa using hnat,by simp,by simp,?_,?_,?_,?_,?_⟩
   all_goals simp only[uxA,uxB,Nat.reduceBEq,r1,r2,r7,r8]
  ·rintro m A' H' ⟨u,suf,rfl,hEq,hp,hs,hd,r1,r2,r7,r8,r9⟩
   subst hEq
   have hb0:¬ ((b:Int)=0):=by omega
   have emod:(u:Int).tmod (b:Int)=((u % b:Nat):Int):=rfl
   have ediv:IntKind.u64.wrap ((u:Int).tdiv (b:Int))=((u / b:Nat):Int):=by
    have h1:(u:Int).tdiv (b:Int)=((u / b:Nat):Int):=rfl
    have h2:u / b≤u:=Nat.div_le_self _ _
    have h3:u≤u * 2 ^ suf.length:=Nat.le_mul_of_pos_right _ (Nat.two_pow_pos _)
    rw[h1]
    exact Qta (Int.natCast_nonneg _) (Int.lt_of_le_of_lt (Int.ofNat_le.2 h2) (by omega))
   have hml:u % b<b:=Nat.mod_lt _ (by omega)
   have ew:IntKind.u64.wrap (((u % b:Nat):Int)+1)=((u % b+1:Nat):Int):=by rw[Qta (by omega) (by omega)];rfl
   have hpow:suf.length<64∨u=0:=by
    rcases Nat.lt_or_ge suf.length 64 with h | h
    ·exact .inl h
    ·right
     rcases Nat.eq_zero_or_pos u with h0 | h0
     ·exact h0
     ·have h1:2 ^ 64≤2 ^ suf.length:=Nat.pow_le_pow_right (by decide) h
      have h2:2 ^ suf.length≤u * 2 ^ suf.length:=Nat.le_mul_of_pos_left _ h0
      omega
   have go:∀ (ks:Kp) (k:Env→Qa→Prop) (A0:Env),A0 1=.int .u64 (b:Int)→A0 7=.int .u64 (u:Int)→A0 9=.string (mkS suf)→(∀A1:Env,A1 1=A0 1→A1 2=A0 2→A1 8=A0 8→A1 7=.int .u64 ((u / b:Nat):Int)→A1 9=.string (mkS (Qhl (u % b)::suf))→k A1 H')→Qj prog YY ks k A0 H':=fun ks k A0 q1 q7 q9 hk=>by
    simp only[YY,sxA,sxB,Nat.reduceBEq,Nat.reduceEqDiff,reduceCtorEq,mxA,mxB,Nat.reduceAdd,reduceIte,Nat.reduceLeDiff,splice,q1,q7,q9,hb0,emod,ediv,ew]
    rw[QrF (l:=u % b) (h:=u % b+1) (by kernel_rfl) rfl (by simp only[uxA,uxB,Nat.reduceBEq];rfl) (by simp only[uxA,uxB,Nat.reduceBEq];rfl) (by omega) (by simp only[JY,List.length_cons,List.length_nil];omega)]
    rw[JY,Nat.add_sub_cancel_left,QtR _ (by omega)]
    simp only[sxA,sxB,Nat.reduceBEq,Nat.reduceEqDiff,reduceCtorEq,mxA,mxB,Nat.reduceAdd,reduceIte,Nat.reduceLeDiff,splice,syA,q1,q7,q9,hb0,ediv]
    refine⟨by omega,hk _ ?_ ?_ ?_ ?_ ?_⟩
    all_goals simp only[uxA,uxB,Nat.reduceBEq]
   have aft:(0<u∨suf=[])→∀A1:Env,A1 1=.int .u64 (b:Int)→A1 2=.string (mkS a)→A1 8=.string (mkS sg)→A1 7=.int .u64 ((u / b:Nat):Int)→A1 9=.string (mkS (Qhl (u % b)::suf))→∃m',m'<(if suf=[] then u+1 else u)∧∃ (u:Nat) (suf:List UInt8),m'=(if suf=[] then u+1 else u)∧H'=H'∧u * 2 ^ suf.length<18446744073709551616∧suf.length≤64∧(if u=0∧suf≠[] then suf else dgs b u++suf)=dgs b u0∧A1 1=.int .u64 (b:Int)∧A1 2=.string (mkS a)∧A1 7=.int .u64 (u:Int)∧A1 8=.string (mkS sg)∧A1 9=.string (mkS suf):=fun hgo A1 p1 p2 p8 p7 p9=>by
    have hlt:u / b<u∨u=0:=by
     rcases Nat.eq_zero_or_pos u with h | h
     ·exact .inr h
     ·exact .inl (Nat.div_lt_self h (by omega))
    refine⟨u / b,?_,u / b,Qhl (u % b)::suf,by simp,rfl,?_,?_,?_,p1,p2,p7,p8,p9⟩
    ·rcases hgo with h | h
     ·split<;>omega
     ·rw[if_pos h];have:=Nat.div_le_self u b;omega
    ·rw[List.length_cons,Nat.pow_succ]
     have h1:u / b * 2≤u:=Nat.le_trans (Nat.mul_le_mul_left _ hb) (Nat.div_mul_le_self u b)
     have h2:u / b * 2 * 2 ^ suf.length≤u * 2 ^ suf.length:=Nat.mul_le_mul_right _ h1
     have h3:u / b * (2 ^ suf.length * 2)=u / b * 2 * 2 ^ suf.length:=by rw[Nat.mul_comm (2 ^ suf.length) 2,Nat.mul_assoc]
     omega
    ·rw[List.length_cons]
     rcases hpow with h | h
     ·omega
     ·rcases hgo with h1 | h1
      ·omega
      ·rw[h1];simp
    ·rw[← hd]
     have e1:(if u=0∧suf≠[] then suf else dgs b u++suf)=dgs b u++suf:=if_neg fun⟨h1,h2⟩=>hgo.elim (fun h=>by omega) h2
     rw[e1]
     by_cases hub:u<b
     ·have:u / b=0:=Nat.div_eq_of_lt hub
      rw[if_pos ⟨this,by simp⟩,QkG hub,Nat.mod_eq_of_lt hub];rfl
     ·have:0<u / b:=Nat.div_pos (by omega) (by omega)
      rw[if_neg (fun h=>absurd h.1 (Nat.pos_iff_ne_zero.1 this)),Qm3 (u:=u) (by omega) hb,List.append_assoc];rfl
   by_cases h0:0<u
   ·have e0:decide ((0:Int)<(u:Int))=true:=decide_eq_true (by omega)
    simp only[XD,sxA,sxB,Nat.reduceBEq,Nat.reduceEqDiff,reduceCtorEq,mxA,mxB,Nat.reduceAdd,reduceIte,Nat.reduceLeDiff,splice,syA,r1,r2,r7,r8,r9,e0]
    refine go _ _ _ ?_ ?_ ?_ fun A1 p1 p2 p8 p7 p9=>aft (.inl h0) A1 (p1.trans ?_) (p2.trans ?_) (p8.trans ?_) p7 p9
    all_goals simp only[uxA,uxB,Nat.reduceBEq,r1,r2,r7,r8,r9]
   ·have e0:decide ((0:Int)<(u:Int))=false:=decide_eq_false (by omega)
    have hu0:u=0:=by omega
    by_cases hsuf:suf=[]
    ·have e1:(suf==[])=true:=by rw[hsuf];rfl
     simp only[XD,sxA,sxB,Nat.reduceBEq,Nat.reduceEqDiff,reduceCtorEq,mxA,mxB,Nat.reduceAdd,reduceIte,Nat.reduceLeDiff,splice,syA,r1,r2,r7,r8,r9,e0,e1]
     refine go _ _ _ ?_ ?_ ?_ fun A1 p1 p2 p8 p7 p9=>aft (.inr hsuf) A1 (p1.trans ?_) (p2.trans ?_) (p8.trans ?_) p7 p9
     all_goals simp only[uxA,uxB,Nat.reduceBEq,r1,r2,r7,r8,r9]
    ·have e1:(suf==[])=false:=beq_eq_false_iff_ne.2 hsuf
     simp only[XD,sxA,sxB,Nat.reduceBEq,Nat.reduceEqDiff,reduceCtorEq,mxA,mxB,Nat.reduceAdd,reduceIte,Nat.reduceLeDiff,splice,syA,r1,r2,r7,r8,r9,e0,e1]
     have hd2:suf=dgs b u0:=by rw[← hd,if_pos ⟨hu0,hsuf⟩]
     rw[← hd2]
     simp only[List.length_append,Qce,uxA,uxB,Nat.reduceBEq,sxA,sxB,Nat.reduceBEq,Nat.reduceEqDiff,reduceCtorEq]
     exact⟨by omega,by omega,.mk (Nat.le_refl _) ⟨rfl,rfl⟩⟩
 rcases hcase with⟨h1,rfl,h2⟩ | ⟨h1,rfl,h2⟩
 ·simp only[ZH,sxA,sxB,Nat.reduceBEq,Nat.reduceEqDiff,reduceCtorEq,mxA,mxB,Nat.reduceAdd,reduceIte,Nat.reduceLeDiff,splice,decide_eq_true h1]
  rw[Qag (ik:=.u64) (n:=IntKind.u64.wrap n) (by simp only[uxA,uxB,Nat.reduceBEq])]
  simp only[sxA,sxB,Nat.reduceBEq,Nat.reduceEqDiff,reduceCtorEq,mxA,mxB,Nat.reduceAdd,reduceIte,Nat.reduceLeDiff,splice,h2]
  exact main _ (by simp only[uxA,uxB,Nat.reduceBEq]) (by simp only[uxA,uxB,Nat.reduceBEq]) (by simp only[uxA,uxB,Nat.reduceBEq]) (by simp only[uxA,uxB,Nat.reduceBEq])
 ·simp only[ZH,sxA,sxB,Nat.reduceBEq,Nat.reduceEqDiff,reduceCtorEq,mxA,mxB,Nat.reduceAdd,reduceIte,Nat.reduceLeDiff,splice,decide_eq_false h1,h2]
  exact main _ (by simp only[uxA,uxB,Nat.reduceBEq]) (by simp only[uxA,uxB,Nat.reduceBEq]) (by simp only[uxA,uxB,Nat.reduceBEq]) (by simp only[uxA,uxB,Nat.reduceBEq])
theorem QdT (n:Int) (hn:I64 n) (H:Qa):Qf prog Wg [.int .i64 n] H fun u H'=>u=.string (mkS (Qas n))∧H'=H:=by
 refine QdM fun hw=>?_
 simp only[Vn,sxA,sxB,Nat.reduceBEq,Nat.reduceEqDiff,reduceCtorEq,mxA,mxB,Nat.reduceAdd,reduceIte,Nat.reduceLeDiff,splice]
 refine(QkH n hn 16 (by decide) (by decide) [48,120] (by decide) H).thenW ?_
 rintro _ H _ hw ⟨rfl,rfl⟩
 simp only[sxA,sxB,Nat.reduceBEq,Nat.reduceEqDiff,reduceCtorEq,mxA,mxB,Nat.reduceAdd,reduceIte,Nat.reduceLeDiff,splice,Qc4]
 exact .mk (Nat.le_refl _) ⟨rfl,rfl⟩
def u8v (l:List UInt8):List Value:=l.map fun b=>.int .u8 (b.toNat:Int)
theorem QfR (l:List UInt8):(u8v l).length=l.length:=by simp[u8v]
theorem QrM (b:UInt8):(b.toNat:Int).toNat.toUInt8=b:=by simp
theorem QdU:∀l:List UInt8,Jd (u8v l)=some l
 | []=>rfl
 | b::l=>by
  show(Jd (u8v l)).map ((b.toNat:Int).toNat.toUInt8::·)=_
  rw[QdU l,QrM];rfl
theorem QrN (l:List UInt8):(u8v l).all (·.oneCell')=true:=by
 rw[List.all_eq_true]
 intro v hv
 obtain⟨b,_,rfl⟩:=List.mem_map.1 hv
 rfl
theorem QlJ {c l:List Value} {i:Nat} {v:Value} (hi:i<c.length) (hd:c.drop (i+1)=l):(splice c i [v]).drop i=v::l:=by
 unfold splice
 rw[List.drop_append_of_le_length (by simp;omega),List.drop_eq_nil_of_le (by simp;omega)]
 simp[hd]
theorem Qsn:∀d,d<36→([48,49,50,51,52,53,54,55,56,57,97,98,99,100,101,102,103,104,105,106,107,108,109,110,111,112,113,114,115,116,117,118,119,120,121,122]:List UInt8)[d]? = some (Qhl d):=by decide
theorem QtS {u:Nat} (h:u<18446744073709551616):IntKind.u64.wrap ((BitVec.ofInt IntKind.u64.bits (u:Int) &&& BitVec.ofInt IntKind.u64.bits 15).toNat)=((u % 16:Nat):Int):=by
 have e:(BitVec.ofInt IntKind.u64.bits (u:Int) &&& BitVec.ofInt IntKind.u64.bits 15).toNat=u % 16:=by
  have hb:IntKind.u64.bits=64:=rfl
  rw[BitVec.toNat_and,BitVec.toNat_ofInt,BitVec.toNat_ofInt,hb]
  have h1:((u:Int) % ((2 ^ 64:Nat):Int)).toNat=u:=by omega
  have h2:((15:Int) % ((2 ^ 64:Nat):Int)).toNat=2 ^ 4 - 1:=rfl
  rw[h1,h2,Nat.and_two_pow_sub_one_eq_mod]
 rw[e,Qta (by omega) (by omega)]
theorem Quf (u:Nat):(u:Int).fdiv (2 ^ (min (4:Int).toNat IntKind.u64.bits))=((u / 16:Nat):Int):=by
 have e:(2:Int) ^ (min (4:Int).toNat IntKind.u64.bits)=16:=rfl
 rw[e,Int.fdiv_eq_ediv_of_nonneg _ (by decide)]
 rfl
structure Tq (T:Qa→Prop):Prop where
 ext:∀H H',H.Wf→T H→Ext H H'→T H'
 tz:∀H,T H→Qf prog X6 [.int .u64 16] H fun u H'=>u=.int .i64 4∧H'=H
theorem QrO (H:Qa):Qf prog YJ [.int .i64 16] H fun u H'=>u=.bool true∧H'=H:=
 Qgr (by kernel_rfl) rfl rfl (by kernel_rfl) H
theorem QkI {T:Qa→Prop} (hT:Tq T) (u0:Nat) (hu:u0<18446744073709551616) (H:Qa) (hTH:T H):
  Qf prog XA [.slice none 0 0,.int .u64 (u0:Int),.int .i64 16,.bool false,.bool false] H fun v H'=>v=.tuple #[.slice none 0 0,.string (mkS (dgs 16 u0))]∧Ext H H':=by
 refine G6 fun hw=>?_
 have e1:decide ((16:Int)<2)=false:=rfl
 have e2:((16:Int)==10)=false:=rfl
 have e3:decide ((36:Int)<16)=false:=rfl
 simp only[Y2,X2,Yr,sxA,sxB,Nat.reduceBEq,Nat.reduceEqDiff,reduceCtorEq,mxA,mxB,Nat.reduceAdd,reduceIte,Nat.reduceLeDiff,splice,e1,e2,e3]
 generalize hz:([.int .u8 0,.int .u8 0,.int .u8 0,.int .u8 0,.int .u8 0,.int .u8 0,.int .u8 0,.int .u8 0,.int .u8 0,.int .u8 0,.int .u8 0,.int .u8 0,.int .u8 0,.int .u8 0,.int .u8 0,.int .u8 0,.int .u8 0,.int .u8 0,.int .u8 0,.int .u8 0,.int .u8 0,.int .u8 0,.int .u8 0,.int .u8 0,.int .u8 0,.int .u8 0,.int .u8 0,.int .u8 0,.int .u8 0,.int .u8 0,.int .u8 0,.int .u8 0,.int .u8 0,.int .u8 0,.int .u8 0,.int .u8 0,.int .u8 0,.int .u8 0,.int .u8 0,.int .u8 0,.int .u8 0,.int .u8 0,.int .u8 0,.int .u8 0,.int .u8 0,.int .u8 0,.int .u8 0,.int .u8 0,.int .u8 0,.int .u8 0,.int .u8 0,.int .u8 0,.int .u8 0,.int .u8 0,.int .u8 0,.int .u8 0,.int .u8 0,.int .u8 0,.int .u8 0,.int .u8 0,.int .u8 0,.int .u8 0,.int .u8 0,.int .u8 0,.int .u8 0]:List Value)=c0
 have hc0:c0.length=65:=by rw[← hz];rfl
 clear hz
 refine(QrO _).thenW ?_
 rintro _ H1 _ hw1 ⟨rfl,h1⟩
 obtain⟨e,h1⟩:∃e,H1=H.push (.cells c0 e false):=⟨_,h1⟩
 have hx1:Ext H H1:=by rw[h1];exact(Ext.refl H).push _
 have hg1:H1.get H.next=some (.cells c0 e false):=by rw[h1,Qa.get_push,if_pos rfl]
 have hn1:H1.next=H.next+1:=by rw[h1,Qa.next_push]
 clear h1
 simp only[Yq,sxA,sxB,Nat.reduceBEq,Nat.reduceEqDiff,reduceCtorEq,mxA,mxB,Nat.reduceAdd,reduceIte,Nat.reduceLeDiff,splice,show IntKind.u64.wrap 16=16 from rfl,show IntKind.u64.wrap (16 - 1)=15 from rfl]
 refine(hT.tz _ (hT.ext _ _ hw hTH hx1)).thenW ?_
 rintro _ H2 _ hw2 ⟨rfl,rfl⟩
 simp only[sxA,sxB,Nat.reduceBEq,Nat.reduceEqDiff,reduceCtorEq,mxA,mxB,Nat.reduceAdd,reduceIte,Nat.reduceLeDiff,splice,show IntKind.u64.wrap 4=4 from rfl]
 refine Wq (fun m A' H'=>∃ (u:Nat) (suf:List UInt8) (c:List Value),u=m∧u<18446744073709551616∧u * 16 ^ suf.length<18446744073709551616∧Ext H H'∧H'.next=H.next+1∧H'.Wf∧H'.get H.next=some (.cells c e false)∧c.length=65∧(0<u∨suf=[])∧c.drop (65 - suf.length)=u8v suf∧dgs 16 u++suf=dgs 16 u0∧A' 1=.int .u64 (u:Int)∧A' 3=.bool false∧A' 4=.bool false∧A' 12=.pointer (some ⟨H.next,0,none⟩)∧A' 13=.int .i64 ((65 - suf.length:Nat):Int)∧A' 10=.slice none 0 0∧A' 14=.int .u64 4∧A' 15=.int .u64 16∧A' 16=.int .u64 15) u0 ?_ ?_
 ·refine⟨u0,[],c0,rfl,hu,by simpa using hu,hx1,hn1,hw2,hg1,hc0,.inr rfl,by simp[hc0,u8v],by simp,?_,?_,?_,?_,?_,?_,?_,?_,?_⟩
  all_goals simp only[uxA,uxB,Nat.reduceBEq]
  all_goals rfl
 ·rintro m A' H' ⟨u,suf,c,rfl,hu1,hp,hx,hn,hw',hg,hcl,hs,hcd,hd,r1,r3,r4,r12,r13,r10,r14,r15,r16⟩
  have hs15:suf.length≤15:=by
   rcases hs with h | h
   ·rcases Nat.lt_or_ge suf.length 16 with h1 | h1
    ·omega
    ·have h2:16 ^ 16≤16 ^ suf.length:=Nat.pow_le_pow_right (by decide) h1
     have h3:16 ^ suf.length≤u * 16 ^ suf.length:=Nat.le_mul_of_pos_left _ h
     omega
   ·rw[h];simp
  have ei:IntKind.i64.wrap (((65 - suf.length:Nat):Int) - 1)=((65 - (suf.length+1):Nat):Int):=by rw[w64 (by unfold I64;omega)];omega
  have hi:65 - (suf.length+1)<c.length:=by omega
  have hd1:c.drop (65 - (suf.length+1)+1)=u8v suf:=by rw[show 65 - (suf.length+1)+1=65 - suf.length by omega];exact hcd
  have wr:∀b:UInt8,(splice c (65 - (suf.length+1)) [.int .u8 (b.toNat:Int)]).drop (65 - (suf.length+1))=u8v (b::suf):=fun b=>QlJ hi hd1
  have wl:∀v:Value,(splice c (65 - (suf.length+1)) [v]).length=65:=fun v=>by rw[QaM (by simp;omega)];exact hcl
  have hle:65 - (suf.length+1)+1≤c.length:=by omega
  have hset:∀c',Ext H (H'.set H.next (.cells c' e false)):=fun c'=>hx.set (Nat.le_refl _) _
  generalize hio:65 - (suf.length+1)=io at *
  by_cases h16:16≤u
  ·have e4:decide ((16:Int)≤(u:Int))=true:=decide_eq_true (by omega)
   have hm:u % 16<36:=by omega
   have t1:((u % 16:Nat):Int).toNat=u % 16:=Int.toNat_natCast _
   have t2:(0:Int)≤((u % 16:Nat):Int):=Int.natCast_nonneg _
   have t3:(0:Int)≤4:=by decide
   simp only[W1,Yp,sxA,sxB,Nat.reduceBEq,Nat.reduceEqDiff,reduceCtorEq,mxA,mxB,Nat.reduceAdd,reduceIte,Nat.reduceLeDiff,splice,r1,r3,r4,r12,r13,r10,r14,r15,r16,e4,ei,QtS hu1,QdH,JY,t1,t2,Qsn _ hm]
   rw[QjQ (n:=65) (size:=1) (b:=H.next) (o:=0) (i:=io) (ik:=.i64) (by kernel_rfl) (by simp only[uxA,uxB,Nat.reduceBEq,r12]) (by simp only[uxA,uxB,Nat.reduceBEq]) (by omega)]
   simp only[sxA,sxB,Nat.reduceBEq,Nat.reduceEqDiff,reduceCtorEq,mxA,mxB,Nat.reduceAdd,reduceIte,Nat.reduceLeDiff,hg,r1,r14,Quf,t3,hle]
   refine⟨u / 16,by omega,u / 16,Qhl (u % 16)::suf,splice c io [.int .u8 ((Qhl (u % 16)).toNat:Int)],rfl,by omega,?_,hset _,hn,hw'.set hg _,by rw[Qa.get_set,if_pos rfl],wl _,.inl (by omega),?_,?_,?_,?_,?_,?_,?_,?_,?_,?_,?_⟩
   ·rw[List.length_cons,Nat.pow_succ]
    have h1:u / 16 * 16≤u:=Nat.div_mul_le_self u 16
    have h2:u / 16 * 16 * 16 ^ suf.length≤u * 16 ^ suf.length:=Nat.mul_le_mul_right _ h1
    have h3:u / 16 * (16 ^ suf.length * 16)=u / 16 * 16 * 16 ^ suf.length:=by rw[Nat.mul_comm (16 ^ suf.length) 16,Nat.mul_assoc]
    omega
   ·rw[List.length_cons,hio];exact wr _
   ·rw[← hd,Qm3 (u:=u) h16 (by decide),List.append_assoc];rfl
   all_goals simp only[uxA,uxB,Nat.reduceBEq,r1,r3,r4,r12,r13,r10,r14,r15,r16]
   rw[List.length_cons,hio]
  ·have e4:decide ((16:Int)≤(u:Int))=false:=decide_eq_false (by omega)
   have t1:(u:Int).toNat=u:=Int.toNat_natCast _
   have t2:(0:Int)≤(u:Int):=Int.natCast_nonneg _
   simp only[W1,sxA,sxB,Nat.reduceBEq,Nat.reduceEqDiff,reduceCtorEq,mxA,mxB,Nat.reduceAdd,reduceIte,Nat.reduceLeDiff,splice,r1,r3,r4,r12,r13,r10,r14,r15,r16,e4,ei,QdH,JY,t1,t2,Qsn u (by omega)]
   rw[QjQ (n:=65) (size:=1) (b:=H.next) (o:=0) (i:=io) (ik:=.i64) (by kernel_rfl) (by simp only[uxA,uxB,Nat.reduceBEq,r12]) (by simp only[uxA,uxB,Nat.reduceBEq]) (by omega)]
   simp only[sxA,sxB,Nat.reduceBEq,Nat.reduceEqDiff,reduceCtorEq,mxA,mxB,Nat.reduceAdd,reduceIte,Nat.reduceLeDiff,hg,r3,hle,Yo,Yn,r4]
   rw[QoL (n:=65) (size:=1) (b:=H.next) (o:=0) (l:=io) (h:=65) (by kernel_rfl) (by simp only[uxA,uxB,Nat.reduceBEq,r12]) (.inl (by simp only[QQ,uxA,uxB,Nat.reduceBEq])) (.inr ⟨rfl,rfl⟩) (by omega) (by omega) (by unfold UNK;decide)]
   simp only[sxA,sxB,Nat.reduceBEq,Nat.reduceEqDiff,reduceCtorEq]
   have hfin:u8v (Qhl u::suf)=u8v (dgs 16 u0):=by rw[← hd,QkG (by omega)];rfl
   rw[QoK (n:=65 - io) (c:=65 - io) (a:=some ⟨H.next,0+io * 1,none⟩) (vs:=u8v (dgs 16 u0)) (bs:=dgs 16 u0) (by kernel_rfl) (by simp only[uxA,uxB,Nat.reduceBEq]) (by
    simp only[V9]
    rw[if_neg (by omega),Qa.get_set,if_pos rfl]
    simp only[]
    rw[if_pos (by rw[wl];omega)]
    simp only[Nat.zero_add,Nat.mul_one]
    rw[wr,hfin,List.take_of_length_le]
    rw[← hfin,QfR,List.length_cons];omega) (QdU _)]
   simp only[sxA,sxB,Nat.reduceBEq,Nat.reduceEqDiff,reduceCtorEq,Gp,r10]
   exact .mk (by rw[Qa.next_set];omega) ⟨rfl,hset _⟩
theorem QdV {T:Qa→Prop} (hT:Tq T) (u:Nat) (hu:u<18446744073709551616) (H:Qa) (hTH:T H):Qf prog Yk [.int .u64 (u:Int),.int .i64 16] H fun v H'=>v=.string (mkS (dgs 16 u))∧Ext H H':=by
 refine Qde fun hw=>?_
 simp only[GK,sxA,sxB,Nat.reduceBEq,Nat.reduceEqDiff,reduceCtorEq,mxA,mxB,Nat.reduceAdd,reduceIte,Nat.reduceLeDiff,splice]
 have h2:Qf prog Xz [.int .u64 (u:Int),.int .i64 16] H fun v H'=>v=.string (mkS (dgs 16 u))∧Ext H H':=by
  refine G5 fun hw=>?_
  have e2:((16:Int)==10)=false:=rfl
  simp only[Y1,sxA,sxB,Nat.reduceBEq,Nat.reduceEqDiff,reduceCtorEq,mxA,mxB,Nat.reduceAdd,reduceIte,Nat.reduceLeDiff,splice,e2]
  refine(QkI hT u hu H hTH).thenW ?_
  rintro _ H1 _ hw1 ⟨rfl,hx⟩
  simp only[sxA,sxB,Nat.reduceBEq,Nat.reduceEqDiff,reduceCtorEq,mxA,mxB,Nat.reduceAdd,reduceIte,Nat.reduceLeDiff,splice,Gn]
  exact .mk hx.next ⟨rfl,hx⟩
 refine h2.thenW ?_
 rintro _ H1 _ hw1 ⟨rfl,hx⟩
 simp only[sxA,sxB,Nat.reduceBEq,Nat.reduceEqDiff,reduceCtorEq,mxA,mxB,Nat.reduceAdd,reduceIte,Nat.reduceLeDiff,splice,Qcj]
 exact .mk hx.next ⟨rfl,hx⟩
theorem Qgs:∀ (n u:Nat),u<16 ^ (n+1)→(dgs 16 u).length≤n+1
 | 0,u,h=>by rw[QkG (by omega)];simp
 | n+1,u,h=>by
  by_cases h16:16≤u
  ·rw[Qm3 h16 (by decide),List.length_append]
   have:=Qgs n (u / 16) (by rw[Nat.pow_succ]at h;omega)
   simp only[List.length_cons,List.length_nil]
   omega
  ·rw[QkG (by omega)];simp
theorem QaW {T:Qa→Prop} (hT:Tq T) (n:Int) (hn:I64 n) (H:Qa) (hTH:T H):Qf prog XL [.int .i64 n] H fun v H'=>v=.string (mkS (Qas n))∧Ext H H':=by
 refine Qis fun hw=>?_
 have hnat:n.natAbs<18446744073709551616:=by unfold I64 at hn;omega
 have hlen:(dgs 16 n.natAbs).length≤16:=Qgs 15 _ hnat
 unfold I64 at hn
 by_cases h:n<0
 ·have eu:IntKind.u64.wrap (-(IntKind.u64.wrap n))=(n.natAbs:Int):=by rw[IntKind.wrap_u64,IntKind.wrap_u64];omega
  simp only[Qaf,sxA,sxB,Nat.reduceBEq,Nat.reduceEqDiff,reduceCtorEq,mxA,mxB,Nat.reduceAdd,reduceIte,Nat.reduceLeDiff,splice,decide_eq_true h]
  rw[Qag (ik:=.u64) (n:=IntKind.u64.wrap n) (by simp only[uxA,uxB,Nat.reduceBEq])]
  simp only[sxA,sxB,Nat.reduceBEq,Nat.reduceEqDiff,reduceCtorEq,mxA,mxB,Nat.reduceAdd,reduceIte,Nat.reduceLeDiff,splice,eu]
  refine(QdV hT _ hnat H hTH).thenW ?_
  rintro _ H1 _ hw1 ⟨rfl,hx⟩
  simp only[sxA,sxB,Nat.reduceBEq,Nat.reduceEqDiff,reduceCtorEq,mxA,mxB,Nat.reduceAdd,reduceIte,Nat.reduceLeDiff,splice,syA,QcO]
  exact⟨by omega,.mk hx.next ⟨by simp[Qas,Qg4,h],hx⟩⟩
 ·have eu:IntKind.u64.wrap n=(n.natAbs:Int):=by rw[IntKind.wrap_u64];omega
  simp only[Qaf,sxA,sxB,Nat.reduceBEq,Nat.reduceEqDiff,reduceCtorEq,mxA,mxB,Nat.reduceAdd,reduceIte,Nat.reduceLeDiff,splice,decide_eq_false h,eu]
  refine(QdV hT _ hnat H hTH).thenW ?_
  rintro _ H1 _ hw1 ⟨rfl,hx⟩
  simp only[sxA,sxB,Nat.reduceBEq,Nat.reduceEqDiff,reduceCtorEq,mxA,mxB,Nat.reduceAdd,reduceIte,Nat.reduceLeDiff,splice,syA,QcO]
  exact⟨by omega,.mk hx.next ⟨by simp[Qas,Qg4,h],hx⟩⟩
theorem Qi9 (s:List UInt8) (c:UInt8) (H:Qa):Qf prog Wi [.string (mkS s),.int .u8 (c.toNat:Int)] H fun u H'=>u=.int .i64 (Lib.indexByte s c)∧H'=H:=by
 refine KI fun hw=>?_
 simp only[X3,sxA,sxB,Nat.reduceBEq,Nat.reduceEqDiff,reduceCtorEq,mxA,mxB,Nat.reduceAdd,reduceIte,Nat.reduceLeDiff,splice]
 refine QjS QeD (v:=.int .i64 (Lib.indexByte s c)) (by simp[Xk.val]) ?_
 simp only[sxA,sxB,Nat.reduceBEq,Nat.reduceEqDiff,reduceCtorEq,mxA,mxB,Nat.reduceAdd,reduceIte,Nat.reduceLeDiff,splice,J8]
 exact .mk (Nat.le_refl _) ⟨rfl,rfl⟩
theorem Qqj (s:List UInt8) (c:UInt8) (H:Qa):Qf prog VC [.string (mkS s),.string (mkS [c])] H fun u H'=>u=.int .i64 (Lib.indexByte s c)∧H'=H:=by
 refine Qgq fun hw=>?_
 simp only[Qbr,sxA,sxB,Nat.reduceBEq,Nat.reduceEqDiff,reduceCtorEq,mxA,mxB,Nat.reduceAdd,reduceIte,Nat.reduceLeDiff,splice]
 have h2:Qf prog XE [.string (mkS s),.string (mkS [c])] H fun u H'=>u=.int .i64 (Lib.indexByte s c)∧H'=H:=by
  refine Vs fun hw=>?_
  have e1:(((1:Nat):Int)==0)=false:=rfl
  have e2:(((1:Nat):Int)==1)=true:=rfl
  have e3:(([c]:List UInt8)==([]:List UInt8))=false:=rfl
  have t0:(0:Int)≤0:=by decide
  have u0:(0:Int).toNat=0:=rfl
  simp only[Zb,Ys,sxA,sxB,Nat.reduceBEq,Nat.reduceEqDiff,reduceCtorEq,mxA,mxB,Nat.reduceAdd,reduceIte,Nat.reduceLeDiff,splice,V5,JY,QdH,e1,e2,e3,t0,u0]
  cases hs:([c]:List UInt8)==s with
  | true=>
   have hs2:s=[c]:=(beq_iff_eq.1 hs).symm
   subst hs2
   have hz:Lib.indexByte [c] c=0:=by simp[Lib.indexByte]
   simp only[sxA,sxB,Nat.reduceBEq,Nat.reduceEqDiff,reduceCtorEq,mxA,mxB,Nat.reduceAdd,reduceIte,Nat.reduceLeDiff,splice,Y3]
   exact .mk (Nat.le_refl _) ⟨by rw[hz],rfl⟩
  | false=>
   simp only[sxA,sxB,Nat.reduceBEq,Nat.reduceEqDiff,reduceCtorEq,mxA,mxB,Nat.reduceAdd,reduceIte,Nat.reduceLeDiff,splice,V5,JY,QdH,e2,t0,u0]
   refine(Qi9 s c H).thenW ?_
   rintro _ H1 _ hw1 ⟨rfl,rfl⟩
   simp only[sxA,sxB,Nat.reduceBEq,Nat.reduceEqDiff,reduceCtorEq,mxA,mxB,Nat.reduceAdd,reduceIte,Nat.reduceLeDiff,splice,Y3]
   exact .mk (Nat.le_refl _) ⟨rfl,rfl⟩
 refine h2.thenW ?_
 rintro _ H1 _ hw1 ⟨rfl,rfl⟩
 simp only[sxA,sxB,Nat.reduceBEq,Nat.reduceEqDiff,reduceCtorEq,mxA,mxB,Nat.reduceAdd,reduceIte,Nat.reduceLeDiff,splice,QfN]
 exact .mk (Nat.le_refl _) ⟨rfl,rfl⟩
def X8:List UInt8→List (List UInt8)
 | []=>[[]]
 | c::l=>if c=32 then[]::X8 l else match X8 l with
  | w::ws=>(c::w)::ws
  | []=>[[c]]
theorem Qg5:∀l:List UInt8,(∀c∈l,c≠32)→X8 l=[l]
 | [],_=>rfl
 | c::l,h=>by
  rw[X8,if_neg (h c (by simp)),Qg5 l fun d hd=>h d (by simp[hd])]
theorem QiB:∀a b:List UInt8,(∀c∈a,c≠32)→X8 (a++32::b)=a::X8 b
 | [],b,_=>by simp[X8]
 | c::a,b,h=>by
  rw[List.cons_append,X8,if_neg (h c (by simp)),QiB a b fun d hd=>h d (by simp[hd])]
theorem Qqk {s:List UInt8} {c:UInt8} (h:Lib.indexByte s c<0):∀d∈s,d≠c:=by
 have h1:Lib.indexByte s c=-1:=by have:=Lib.indexByte_ge s c;omega
 intro d hd hdc
 obtain⟨k,hk⟩:=List.mem_iff_getElem?.1 hd
 exact Lib.indexByte_none h1 k (by rw[hk,hdc])
theorem Qql {s:List UInt8} {c:UInt8} {o:Nat} (h:Lib.indexByte s c=o):o<s.length∧s=s.take o++c::s.drop (o+1)∧∀d∈s.take o,d≠c:=by
 obtain⟨h1,h2⟩:=Lib.indexByte_some h
 have ho:o<s.length:=(List.getElem?_eq_some_iff.1 h1).1
 refine⟨ho,?_,fun d hd hdc=>?_⟩
 ·have:s.drop o=c::s.drop (o+1):=by
   rw[List.drop_eq_getElem_cons ho]
   congr 1
   rw[List.getElem?_eq_getElem ho]at h1
   exact Option.some.inj h1
  rw[← this,List.take_append_drop]
 ·obtain⟨k,hk⟩:=List.mem_iff_getElem?.1 hd
  rw[List.getElem?_take]at hk
  split at hk
  ·rename_i hko;exact h2 k hko (by rw[hk,hdc])
  ·cases hk
def Qja (l:List (List UInt8)):List Value:=l.map fun w=>.string (mkS w)
theorem QlK {l:List (List UInt8)} {i:Nat} {w:List UInt8} (h:l[i]? = some w):(Qja l)[i]? = some (.string (mkS w)):=by simp[Qja,h]
def Gs (size:Nat) (e:TypeId) (H0 H:Qa) (v:Value) (n:Nat) (cs:List Value):Prop:=(v=.slice none 0 0∧n=0∧cs=[])∨∃b,v=.slice (some ⟨b,0,none⟩) n (UNK+size)∧H0.next≤b∧H.get b=some (.cells cs e false)∧cs.length=n * size
def JF (v:Value) (id:Nat):Prop:=∃o n c,v=.slice (some ⟨id,o,none⟩) n c
theorem Gs.ext {size:Nat} {e:TypeId} {H0 H H':Qa} {v:Value} {n:Nat} {cs:List Value} (h:Gs size e H0 H v n cs) (hk:∀id,JF v id→H'.get id=H.get id):Gs size e H0 H' v n cs:=by
 rcases h with h | ⟨b,rfl,h2,h3,h4⟩
 ·exact .inl h
 ·exact .inr ⟨b,rfl,h2,by rw[hk b ⟨_,_,_,rfl⟩];exact h3,h4⟩
theorem Gs.low {size:Nat} {e:TypeId} {H0 H:Qa} {v:Value} {n:Nat} {cs:List Value} (h:Gs size e H0 H v n cs) (hw:H.Wf) {id:Nat} (hi:JF v id):H0.next≤id∧id<H.next:=by
 obtain⟨o,n',c,rfl⟩:=hi
 rcases h with⟨h,_,_⟩ | ⟨b,h,h2,h3,h4⟩
 ·cases h
 ·cases h;exact⟨h2,hw.lt h3⟩
theorem Qqm {size:Nat} {e bytes:Nat} {H0 H:Qa} {v x:Value} {n m:Nat} {cs ms:List Value} {k:Value→Qa→Prop} (hs:Gs size e H0 H v n cs) (hx:Ext H0 H) (hw:H.Wf) (hsrc:QaN size x H=some (m,ms)) (hone:ms.all (·.oneCell')=true) (hm:1≤m) (hml:ms.length=m * size) (hb:(n+m) * bytes≤140737488355328) (hn:n+m≤9223372036854775807)
  (h:∀v' H',Gs size e H0 H' v' (n+m) (cs++ms)→Ext H0 H'→H'.Wf→(∀id,id<H.next→¬JF v id→H'.get id=H.get id)→H'.next=H.next+1→(∀id,JF v' id→id=H.next)→k v' H'):Qhk e size bytes v x H k:=by
 have hnn:=hx.next
 rcases hs with⟨rfl,rfl,rfl⟩ | ⟨b,rfl,h2,h3,h4⟩
 ·refine Qp9 hsrc hone (by omega) (by rw[Nat.zero_add]at hb;exact hb) (by omega) (h _ _ (.inr ⟨H.next,by rw[Nat.zero_add],hnn,by rw[Qa.get_push,if_pos rfl,List.nil_append],by rw[List.nil_append,Nat.zero_add];exact hml⟩) (hx.push _) (hw.push _) (fun id hid _=>by rw[Qa.get_push,if_neg (by omega)]) (by rw[Qa.next_push]) ?_)
  rintro id ⟨o,n',c,he⟩
  cases he;rfl
 ·have hbl:=hw.lt h3
  refine Qp8 rfl hsrc hone (by omega) h3 (by rw[Nat.zero_add];omega) hb hn (by omega) (h _ _ (.inr ⟨H.next,rfl,hnn,?_,by rw[List.length_append,h4,hml,Nat.add_mul]⟩) ?_ ?_ ?_ (by rw[Qa.next_push,Qa.next_kill]) ?_)
  ·rw[Qa.get_push,Qa.next_kill,if_pos rfl,List.drop_zero]
  ·refine⟨by rw[Qa.next_push,Qa.next_kill];omega,fun id hid=>?_⟩
   rw[Qa.get_push,Qa.next_kill,if_neg (by omega),Qa.get_kill,if_neg (by omega)]
   exact hx.get id hid
  ·exact(hw.kill b).push _
  ·intro id hid hnb
   have hne:¬id=b:=fun h=>hnb ⟨_,_,_,by rw[h]⟩
   rw[Qa.get_push,Qa.next_kill,if_neg (by omega),Qa.get_kill,if_neg hne]
  ·rintro id ⟨o,n',c,he⟩
   cases he;rfl
theorem Qqn {size m b:Nat} {cap:Nat} {c:List Value} {e:TypeId} {ro:Bool} {H:Qa} (hb:H.get b=some (.cells c e ro)) (hm:m≠0) (hc:c.length=m * size):QaN size (.slice (some ⟨b,0,none⟩) m cap) H=some (m,c):=by
 rw[Qky hb hm (by omega),List.drop_zero,List.take_of_length_le (by omega)]
end Go.Proofs.YtdjkkoacinpdeaaGreatDoor.code
