/- What came in, made plain. -/
import Derived.Test.YtopkfjiipdjbmaaGreatDoorLibA
import Derived.Test.YtopkfjiipdjbmaaGreatDoorAbD
import Derived.Test.YtopkfjiipdjbmaaGreatDoorLibX
import Derived.ProofKit
import Derived.OpenShut
import Derived.ChangeOld
import Derived.Deep.Slices
import Derived.Test.YtopkfjiipdjbmaaGreatDoorT2Lead
set_option linter.unusedVariables false
set_option linter.unusedSimpArgs false
set_option maxRecDepth 100000
set_option maxHeartbeats 4000000
namespace Go.Proofs.YtopkfjiipdjbmaaGreatDoor.code
open Go.Ab Go.ChangeShapes Go.WideShapes Go.ChangeAt Go.RowKit
theorem QDy {z:Int}(h:(Lit.int .i64 z).wf=true):I64 z:=by
 have:=bounds_i64 h;unfold I64;omega
theorem QFU {z:Int}(h:(Lit.int .u8 z).wf=true):0<=z∧z<256:=by
 have:=bounds_u8 h;omega
theorem QIr:Qiy (Xs prog.globals.size tab.tabs):=λid b h=>by
 obtain⟨t,_,_,rfl⟩:=Yh h;rfl
def QFV (n:Nat):Bool:=(IntKind.i64.wrap (IntKind.u8.wrap (BitVec.ofInt IntKind.u8.bits (n:Int) &&& BitVec.ofInt IntKind.u8.bits 7).toNat)==((n % 8:Nat):Int))&&(QJY (n:Int)==((n - n % 8:Nat):Int))&&(IntKind.i64.wrap (n:Int)==(n:Int))&&(QyN (n:Int)==(decide (64<=n)&&decide (n<=79)))
theorem QDz:(List.range 256).all QFV=true:=by kernel_rfl
theorem QFW {n:Nat}(h:n<256):QFV n=true:=Li.1 QDz n (LU.2 h)
def QsU (bs:List Int):Prop:=∀b∈bs,0<=b∧b<=255
theorem QsU.at {bs:List Int}(ag:QsU bs){p:Int}(ah:0<=p)(h:p<bs.length):∃n:Nat,n<256∧bs[p.toNat]? = some (n:Int)∧bs.getD p.toNat 0=n∧Zv bs p=n:=by
 have aa:p.toNat<bs.length:=by omega
 obtain⟨ai,aj⟩:=ag _ (Nb aa);obtain⟨n,ae⟩:∃n:Nat,bs[p.toNat]=(n:Int):=⟨bs[p.toNat].toNat,by omega⟩;have ad:n<256:=by omega
 have ac:bs.getD p.toNat 0=n:=by rw[LX,La aa,ae];rfl
 have ab:=QFW ad;unfold QFV at ab;simp only[Lm,L0]at ab;exact⟨n,ad,by rw[La aa,ae],ac,by unfold Zv;rw[ac];exact ab.1.2⟩
def Qwv (W:World)(v:Value):Prop:=v=.slice none 0 0∨∃a len cap,∃l:List Int,v=.slice (some a) len cap∧len<=cap∧cap<UNK∧l.length=len∧QsU l∧(0<len->a.block<W.heap.size)∧∀ (j:Nat) b,l[j]? = some b->W.cell? (a.add j)=some (.int .u8 b)
theorem QIs {H:Type}{enc:TypeId×Value->H}{W:World}{am tb ae:Nat}{v:Value}{x:DataW H×List MemPlace}(ay:prog.underlying tb=some (.slice ae))(ap:prog.underlying ae=some (.int .u8))(an:prog.cellsOf ae=1)
  (h:DataW.trod enc prog W 0 (λ_=>true) true am tb v.cells.toList=some x) (ac:∃a len cap,v=.slice a len cap):Qwv W v:=by
 obtain⟨a0,aC,al,rfl⟩:=ac;rcases Deep.open_slice ay h with⟨aa,_⟩ | ⟨a,len,cap,m,n,D,Pl,aa,_,av,ao,ak,_,aq⟩
 ·left;simpa[Value.cells] using aa
 ·right;have ac:Value.slice a0 aC al=.slice (some a) len cap:=by simpa[Value.cells] using aa
  have ak:m=cap:=by simpa using ak
  have ar:∀i,i<len->∃z:Int,(0<=z∧z<=255)∧W.cell? (a.add i)=some (.int .u8 z):=λi hi=>by
   obtain⟨aD,ah,az⟩:=aq i (by omega);obtain⟨z,aB,_,aA⟩:=BT ap az;rw[an,NH]at ah;obtain⟨_,au⟩:=QCQ ah;have ag:=au 0 (by decide);rw[ZK,N9]at ag;have aE:=QFU aA;refine⟨z,by omega,?_⟩;rw[ag,aB];rfl
  obtain⟨f,ab⟩:=Deep.choose_lt ar;refine⟨a,len,cap,(List.range len).map f,ac,av,by unfold maxLen at ao;unfold UNK;omega,by simp,λp ax=>?_,λaw=>?_,λj u ai=>?_⟩
  ·obtain⟨i,hi,rfl⟩:=N4.1 ax;exact(ab i (LU.1 hi)).1
  ·have:=(ab 0 aw).2;have:=ND W _ this;rwa [Ab.block_add]at this
  ·rw[LD]at ai;obtain⟨y,ad,rfl⟩:=Lx.1 ai;have aj:=(Lk.1 ad).1;rw[DB (by simpa using aj)]at ad;cases ad;exact(ab j (by simpa using aj)).2
theorem QKH {W:World}{v:Value}{ρ0:Ren}{H0:Qa}(ae:Sim prog ρ0 H0 W)(ad:H0.Wf)(ac:Qiy H0)(h:Qwv W v):
  ∃ (l:List Int) (u:Value) (ρ:Ren) (H:Qa),QsU l∧Sim prog ρ H W∧H.Wf∧Qiy H∧Ext H0 H∧V ρ u v∧Qwq H u l∧∃a cap,u=.slice a l.length cap∧l.length<=cap∧cap<UNK:=by
 rcases h with rfl | ⟨a,len,cap,l,rfl,ab,aa,rfl,ai,ak,aj⟩
 ·exact⟨[],.slice none 0 0,ρ0,H0,λp al=>by simp at al,ae,ad,ac,.refl _,.same _ rfl,⟨none,0,rfl,λh=>absurd h (NX 0)⟩,none,0,rfl,Lb _,by unfold UNK;omega⟩
 ·by_cases ah:0<l.length
  ·refine⟨l,.slice (some ⟨H0.next,0,none⟩) l.length cap,_,H0.push (.cells (l.map λb=>.int .u8 b) 5 true),ai,ae.addRo ac 5 (ak ah) (λj u ag=>?_),ad.push _,ac.push _ _,(Ext.refl H0).push _,V.sliceIn (Ww _ _ _) ab aa,⟨_,_,rfl,λ_=>?_⟩,_,_,rfl,ab,aa⟩
   ·rw[LD]at ag;obtain⟨y,am,rfl⟩:=Lx.1 ag;exact⟨_,aj j y am,.same _ rfl⟩
   ·refine⟨H0.next,0,_,5,true,rfl,by rw[Qc,Lc rfl],λi hi=>?_⟩;rw[LP,LD,La hi];simp[La hi]
  ·refine⟨l,.slice (some ⟨H0.next,0,none⟩) l.length cap,_,H0.up (H0.next+1),ai,ae.addDead ad a,ad.up (by omega),ac.up _,(Ext.refl H0).up (by omega),V.sliceIn (Ww _ _ _) ab aa,⟨_,_,rfl,λh=>absurd h ah⟩,_,_,rfl,ab,aa⟩
end Go.Proofs.YtopkfjiipdjbmaaGreatDoor.code
