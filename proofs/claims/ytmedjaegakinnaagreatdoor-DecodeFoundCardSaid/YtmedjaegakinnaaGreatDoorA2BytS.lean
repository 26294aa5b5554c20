/- Bytes that came in, beside others. -/
import Derived.Test.YtmedjaegakinnaaGreatDoorLibY
set_option linter.unusedVariables false
set_option maxRecDepth 100000
namespace Go.Proofs.YtmedjaegakinnaaGreatDoor.code
open Go.Ab
theorem QEn {W:World}{v:Value}{ρ0:Ren}{H0:Qa}(ac:Sim Pg ρ0 H0 W)(ad:H0.Wf)(ab:Qg1 H0)(h:QoT W v):
  ∃ (l:List Int) (u:Value) (ρ:Ren) (H:Qa),WO l∧Sub ρ0 ρ∧Sim Pg ρ H W∧H.Wf∧Qg1 H∧Ext H0 H∧V ρ u v∧Qli H u l∧∃a cap,u=.slice a l.length cap∧l.length<=cap∧cap<UNK:=by
 have ai:∀i,Sub ρ0 (ext ρ0 H0.y i):=λi=>Qb9 i ac.none_next;rcases h with rfl | ⟨a,len,cap,l,rfl,aa,q,rfl,ah,ak,aj⟩;·exact⟨[],.slice none 0 0,ρ0,H0,λp am=>by simp at am,λ_ _ h=>h,ac,ad,ab,.refl _,.same _ rfl,⟨none,0,rfl,λh=>absurd h (NX 0)⟩,none,0,rfl,Lb _,by unfold UNK;omega⟩
 by_cases ag:0<l.length
 ·refine⟨l,.S H0.y l.length cap,_,H0.push (.cells (l.map λb=>.int .u8 b) 5 true),ah,ai _,ac.addRo ab 5 (ak ag) (λj u ae=>?_),ad.push _,ab.push _ _,(Ext.refl H0).push _,V.sliceIn (WI _ _ _) aa q,⟨_,_,rfl,λ_=>?_⟩,_,_,rfl,aa,q⟩;·rw[LD]at ae;obtain⟨y,an,rfl⟩:=Lx.1 ae;exact⟨_,aj j y an,.same _ rfl⟩
  refine⟨H0.y,0,_,5,true,rfl,by rw[Qc,Lc rfl],λi hi=>?_⟩;rw[LP,LD,La hi];simp[La hi]
 refine⟨l,.S H0.y l.length cap,_,H0.up (H0.y+1),ah,ai _,ac.addDead ad a,ad.up (by omega),ab.up _,(Ext.refl H0).up (by omega),V.sliceIn (WI _ _ _) aa q,⟨_,_,rfl,λh=>absurd h ag⟩,_,_,rfl,aa,q⟩
