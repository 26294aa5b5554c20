/- Instructions and places that came in. -/
import Derived.Test.YtgepgbbjfhggfaaGreatDoorA6Row
import Derived.Test.YtgepgbbjfhggfaaGreatDoorLibI
set_option linter.unusedVariables false
set_option linter.unusedSimpArgs false
set_option maxRecDepth 100000
namespace Go.Proofs.YtgepgbbjfhggfaaGreatDoor.code
open Go.Ab Go.ChangeShapes Go.WideShapes Go.ChangeAt Go.RowKit
def Qlh (t n:Nat):Prop:=prog.cellsOf t=n∧∀ (H:Type) (enc:TypeId×Value->H) (W:World) (base:Nat) (spare:Nat->Bool) (held:Bool) (fuel:Nat) (cs:List Value) (x:DataW H×List MemPlace),DataW.trod enc prog W base spare held fuel t cs=some x->∃zs:List Int,zs.length=n∧cs=zs.map (Value.int .i64)∧∀z∈zs,I64 z
theorem QAi {t:Nat}(hu:prog.underlying t=some (.int .i64))(hc:prog.cellsOf t=1):Qlh t 1:=⟨hc,λH enc W base spare held fuel cs x h=>by
 obtain⟨z,e,_,hw⟩:=BT hu h;refine⟨[z],rfl,e,λy hy=>?_⟩;rw[Sa.1 hy];exact Qp3 hw⟩
theorem Qgo {t:Nat}{fs:Array Field}(hu:prog.underlying t=some (.struct fs))(ns:List Nat)(hlen:ns.length=fs.size)(hc:prog.cellsOf t=ns.sum)
  (hf:∀i (hi:i<ns.length),∃f,fs[i]? = some f∧f.offset=(ns.take i).sum∧Qlh f.type ns[i]):Qlh t ns.sum:=⟨hc,λH enc W base spare held fuel cs x h=>by
 obtain⟨xs,m,e,hx,hcl,hxl,hf'⟩:=RL hu h;have key:∀i,i<=ns.length->∃zs:List Int,zs.length=(ns.take i).sum∧cs.take (ns.take i).sum=zs.map (Value.int .i64)∧∀z∈zs,I64 z:=by
  intro i
  induction i with
  | zero=>exact λ_=>⟨[],by simp,by simp,λz hz=>by cases hz⟩
  | succ i ih=>
   intro hi;obtain⟨zs,e1,e2,e3⟩:=ih (by omega);obtain⟨f,g1,g2,g3,g4⟩:=hf i (by omega);have hr:=hf' i f g1;have hxi:i<xs.length:=by rw[hxl,<- hlen];omega
   rw[g2,g3,La hxi]at hr;obtain⟨ys,q1,q2,q3⟩:=g4 _ _ _ _ _ _ _ _ _ hr;have hs:(ns.take (i+1)).sum=(ns.take i).sum+ns[i]:=by
    rw[Nv,List.sum_append,La (by omega)];simp
   refine⟨zs++ys,by rw[Lh,e1,q1,hs],?_,λz hz=>?_⟩
   ·rw[hs,List.take_add,e2,q2,N6]
   ·rcases LI.1 hz with h1 | h1
    ·exact e3 z h1
    ·exact q3 z h1
 obtain⟨zs,e1,e2,e3⟩:=key ns.length (Lb _);rw[Nr]at e1 e2;rw[LF (by rw[hcl,hc];exact Lb _)]at e2;exact⟨zs,e1,e2,e3⟩⟩
theorem QJt {zs:List Int}(h:zs.length=11)(hI:∀z∈zs,I64 z):∃a:Ar,zs.map (Value.int .i64)=a.cells∧I64 a.n:=by
 match zs,h with
 | [k,rc,rn,a,b,c,d,e,f,g,n],_=>exact⟨⟨k,⟨rc,rn⟩,⟨⟨a,b⟩,⟨c,d⟩,e,f,g⟩,n⟩,rfl,hI n (by simp)⟩
def QAj (W:World)(v:Value):Prop:=∃ (op:Int) (va:Value) (l:List Ar),v=.agg #[.int .i64 op,va]∧I64 op∧QH8 W va l.length (Qi l)∧∀a∈l,I64 a.n
theorem QIa {H:Type}{enc:TypeId×Value->H}{W:World}{base':Nat}{spare:Nat->Bool}{held:Bool}{v:Value}{d:DataW H}{p:List MemPlace}{ti ta tas tin:Nat}{f0 f1:Field}(hi:prog.underlying ti=some (.int .i64))(hi1:prog.cellsOf ti=1)(ha:Qlh ta 11)(has:prog.underlying tas=some (.slice ta))(has1:prog.cellsOf tas=1)
  (hin:prog.underlying tin=some (.struct #[f0,f1])) (hin2:prog.cellsOf tin=2) (h0:f0.offset=0∧f0.type=ti) (h1:f1.offset=1∧f1.type=tas) (hv:∃cs,v=.agg cs) (h:∃n,DataW.trod enc prog W base' spare held n tin v.cells.toList=some (d,p)):QAj W v:=by
 obtain⟨n,h⟩:=h;obtain⟨cs,rfl⟩:=hv;have hcs:(Value.agg cs).cells.toList=cs.toList:=rfl;rw[hcs]at h;obtain⟨xs,m,e,hx,hcl,hxl,hf⟩:=RL hin h;rw[hin2]at hcl;have hxl:xs.length=2:=hxl;have r0:=hf 0 f0 rfl;have r1:=hf 1 f1 rfl;rw[h0.1,h0.2,hi1,La (by omega)]at r0;rw[h1.1,h1.2,has1,La (by omega)]at r1;obtain⟨op,e0,_,w0⟩:=BT hi r0;obtain⟨va,l,e1,hr,hq⟩:=QH9 (g:=Ar.cells) (Q:=λa=>I64 a.n) (w:=11) (by decide) (λ_=>rfl) has ha.1 (λn cs x h=>by
  obtain⟨zs,q1,q2,q3⟩:=ha.2 _ _ _ _ _ _ _ _ _ h;obtain⟨a,g1,g2⟩:=QJt q1 q3;exact⟨a,q2.trans g1,g2⟩) r1
 refine⟨op,va,l,?_,Qp3 w0,hr,hq⟩;have:cs.toList=[.int .i64 op,va]:=by
  match hc:cs.toList,hcl with
  | [p0,p1],_=>
   rw[hc]at e0 e1;simp at e0 e1;rw[e0,e1]
 rw[<- RE (xs:=cs),this]
theorem Qww {l:List Ar}:∀u∈Qi l,Ab.plain u=true:=λu hu=>by
 unfold Qi at hu;obtain⟨y,_,hy⟩:=NF.1 hu;simp only[Ar.cells,LK,Ns,NN]at hy;rcases hy with rfl | rfl | rfl | rfl | rfl | rfl | rfl | rfl | rfl | rfl | rfl<;>rfl
theorem QEg {W:World}{v:Value}{ρ0:Ren}{H0:Qa}(hs:Sim prog ρ0 H0 W)(hw:H0.Wf)(hro:QgP H0)(h:QAj W v):
  ∃ (op:Int) (u:Value) (l:List Ar) (ρ:Ren) (H:Qa),I64 op∧Sub ρ0 ρ∧Sim prog ρ H W∧H.Wf∧QgP H∧Ext H0 H∧V ρ (.agg #[.int .i64 op,u]) v∧Qv H u l∧(∀a∈l,I64 a.n)∧∀n,H.next<=n->Qh n 6 (.agg #[.int .i64 op,u])=true:=by
 obtain⟨op,va,l,rfl,hop,hr,hq⟩:=h;obtain⟨u,ρ,H,s1,hs1,hw1,hro1,hx1,hv1,hi1,hb1⟩:=QJs 58 Qww hs hw hro hr;have hb2:∀n,H.next<=n->Qh n 6 (.agg #[.int .i64 op,u])=true:=λn hn=>by
  obtain⟨a1,c1,rfl,_⟩:=hi1;cases a1 with
  | none=>simp[Qh,Ab.plain]
  | some a1=>
   have:=hb1 _ _ _ rfl;simp[Qh,Ab.plain];omega
 refine⟨op,u,l,ρ,H,hop,s1,hs1,hw1,hro1,hx1,?_,hi1,hq,hb2⟩;refine .agg _ _ rfl λj a b ha hb=>?_;rcases j with _ | _ | j
 ·cases ha;cases hb;exact .same _ rfl
 ·cases ha;cases hb;exact hv1
 ·simp at ha
end Go.Proofs.YtgepgbbjfhggfaaGreatDoor.code
