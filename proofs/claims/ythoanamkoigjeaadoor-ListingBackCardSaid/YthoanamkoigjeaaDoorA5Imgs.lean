/- An image that came in. -/
import Derived.Test.YthoanamkoigjeaaDoorA4Strs
import Derived.Test.YthoanamkoigjeaaDoorY8Law
import Derived.Deep.Strs
set_option linter.unusedVariables false
set_option linter.unusedSimpArgs false
set_option maxRecDepth 100000
namespace Go.Proofs.YthoanamkoigjeaaDoor.code
open Go.Ab Go.ChangeShapes Go.WideShapes Go.ChangeAt Go.RowKit
theorem QpD {z:Int} (h:(Lit.int .i64 z).wf=true):I64 z:=by
 have:=bounds_i64 h
 unfold I64;omega
def Qpu (W:World) (v:Value) (n:Nat) (cs:List Value):Prop:=(v=.slice none 0 0∧n=0∧cs=[])∨∃a cap,v=.slice (some a) n cap∧n≤cap∧cap<UNK∧(n=0→cs=[])∧(0<n→a.block<W.heap.size)∧∀ (j:Nat) u,cs[j]? = some u→W.cell? (a.add j)=some u
theorem Qpw {W:World} {v:Value} {n:Nat} {cs:List Value} {ρ0:Ren} {H0:Qa} (te:Nat) (hp:∀u∈cs,Ab.plain u=true) (hs:Sim prog ρ0 H0 W) (hw:H0.Wf) (hro:QfO H0) (h:Qpu W v n cs):
  ∃ (u:Value) (ρ:Ren) (H:Qa),Sub ρ0 ρ∧Sim prog ρ H W∧H.Wf∧QfO H∧Ext H0 H∧V ρ u v∧YD H u n cs∧∀a c,u=.slice a n c→c<UNK∧n≤c:=by
 have hsub:∀i,Sub ρ0 (ext ρ0 H0.next i):=fun i=>QbM i hs.none_next
 rcases h with⟨rfl,rfl,rfl⟩ | ⟨a,cap,rfl,hlc,hcu,hn0,hlt,hc⟩
 ·exact⟨.slice none 0 0,ρ0,H0,fun _ _ h=>h,hs,hw,hro,.refl _,.same _ rfl,⟨none,0,rfl,fun h=>absurd h (Nat.lt_irrefl 0)⟩,fun a c he=>by cases he;exact⟨by unfold UNK;decide,Nat.le_refl _⟩⟩
 ·by_cases hl:0<n
  ·refine⟨.slice (some ⟨H0.next,0,none⟩) n cap,_,H0.push (.cells cs te true),hsub _,hs.addRo hro te (hlt hl) (fun j u hj=>⟨_,hc j u hj,.same u (hp u (List.mem_of_getElem? hj))⟩),hw.push _,hro.push _ _,(Ext.refl H0).push _,V.sliceIn (QU _ _ _) hlc hcu,⟨_,_,rfl,fun _=>⟨H0.next,te,true,rfl,by rw[Qa.get_push,if_pos rfl]⟩⟩,fun a c he=>by cases he;exact⟨hcu,hlc⟩⟩
  ·refine⟨.slice (some ⟨H0.next,0,none⟩) n cap,_,H0.up (H0.next+1),hsub _,hs.addDead hw a,hw.up (by omega),hro.up _,(Ext.refl H0).up (by omega),V.sliceIn (QU _ _ _) hlc hcu,⟨_,_,rfl,fun h=>absurd h hl⟩,fun a c he=>by cases he;exact⟨hcu,hlc⟩⟩
structure QpB (timg tsl tb tu tsy tsys tmk tmks ti ts tbl:Nat):Prop where
 int:prog.underlying ti=some (.int .i64)
 str:prog.underlying ts=some .string
 bool:prog.underlying tbl=some .bool
 u8:prog.underlying tu=some (.int .u8)
 bs:prog.underlying tb=some (.slice tu)
 sys:prog.underlying tsys=some (.slice tsy)
 mks:prog.underlying tmks=some (.slice tmk)
 c3:prog.cellsOf tsy=3∧prog.cellsOf tmk=3∧prog.cellsOf timg=4
 c1:prog.cellsOf ti=1∧prog.cellsOf ts=1∧prog.cellsOf tbl=1∧prog.cellsOf tu=1∧prog.cellsOf tb=1∧prog.cellsOf tsys=1∧prog.cellsOf tmks=1
 fsy:∃f0 f1 f2:Field,prog.underlying tsy=some (.struct #[f0,f1,f2])∧(f0.offset=0∧f0.type=ts)∧(f1.offset=1∧f1.type=ti)∧(f2.offset=2∧f2.type=tbl)
 fmk:∃f0 f1 f2:Field,prog.underlying tmk=some (.struct #[f0,f1,f2])∧(f0.offset=0∧f0.type=ti)∧(f1.offset=1∧f1.type=ti)∧(f2.offset=2∧f2.type=ti)
 fimg:∃fs:Array Field,prog.underlying timg=some (.struct fs)∧fs.size=4∧∀i,i<4→∃f,fs[i]? = some f∧f.offset=i∧f.type=(if i=0 then ti else if i=1 then tb else if i=2 then tsys else tmks)
theorem three {cs:List Value} {a b c:Value} (hl:cs.length=3) (h0:(cs.drop 0).take 1=[a]) (h1:(cs.drop 1).take 1=[b]) (h2:(cs.drop 2).take 1=[c]):cs=[a,b,c]:=by
 match cs,hl with
 | [x,y,z],_=>simp at h0 h1 h2;rw[h0,h1,h2]
variable {timg tsl tb tu tsy tsys tmk tmks ti ts tbl:Nat}
theorem QpU {H:Type} {enc:TypeId×Value→H} {W:World} {base:Nat} {spare:Nat→Bool} {held:Bool} {n:Nat} {cs:List Value} {x:DataW H×List MemPlace} (ht:QpB timg tsl tb tu tsy tsys tmk tmks ti ts tbl) (h:DataW.trod enc prog W base spare held n tsy cs=some x):∃y:Sy,cs=y.cells∧I64 y.n:=by
 obtain⟨f0,f1,f2,hu,⟨o0,t0⟩,⟨o1,t1⟩,⟨o2,t2⟩⟩:=ht.fsy
 obtain⟨y0,y1,y2,m,rfl,hl,h0,h1,h2⟩:=Deep.trod_struct3 hu h
 obtain⟨k1,k2,k3,_⟩:=ht.c1
 rw[o0,t0,k2]at h0
 rw[o1,t1,k1]at h1
 rw[o2,t2,k3]at h2
 rw[ht.c3.1]at hl
 obtain⟨s,e0,_,_⟩:=DataW.trod_string ht.str h0
 obtain⟨z,e1,_,w1⟩:=DataW.trod_int ht.int h1
 obtain⟨b,e2,_⟩:=DataW.trod_bool ht.bool h2
 refine⟨⟨bl s,z,b⟩,?_,QpD w1⟩
 show cs=[.string (mkS (bl s)),.int .i64 z,.bool b]
 rw[QdS]
 exact three hl e0 e1 e2
theorem QpP {H:Type} {enc:TypeId×Value→H} {W:World} {base:Nat} {spare:Nat→Bool} {held:Bool} {n:Nat} {cs:List Value} {x:DataW H×List MemPlace} (ht:QpB timg tsl tb tu tsy tsys tmk tmks ti ts tbl) (h:DataW.trod enc prog W base spare held n tmk cs=some x):∃y:Mk,cs=y.cells:=by
 obtain⟨f0,f1,f2,hu,⟨o0,t0⟩,⟨o1,t1⟩,⟨o2,t2⟩⟩:=ht.fmk
 obtain⟨y0,y1,y2,m,rfl,hl,h0,h1,h2⟩:=Deep.trod_struct3 hu h
 obtain⟨k1,_⟩:=ht.c1
 rw[o0,t0,k1]at h0
 rw[o1,t1,k1]at h1
 rw[o2,t2,k1]at h2
 rw[ht.c3.2.1]at hl
 obtain⟨z0,e0,_,_⟩:=DataW.trod_int ht.int h0
 obtain⟨z1,e1,_,_⟩:=DataW.trod_int ht.int h1
 obtain⟨z2,e2,_,_⟩:=DataW.trod_int ht.int h2
 exact⟨⟨z0,z1,z2⟩,three hl e0 e1 e2⟩
theorem Qpy {α:Type} {g:α→List Value} (h3:∀x,(g x).length=3):∀ (l:List α) (j:Nat) (u:Value),(l.flatMap g)[j]? = some u→∃x,l[j / 3]? = some x∧(g x)[j % 3]? = some u
 | [],j,u,h=>by simp at h
 | a::l,j,u,h=>by
  rw[List.flatMap_cons]at h
  by_cases hj:j<3
  ·rw[List.getElem?_append_left (by rw[h3];exact hj)]at h
   rw[show j / 3=0 by omega,show j % 3=j by omega]
   exact⟨a,rfl,h⟩
  ·rw[List.getElem?_append_right (by rw[h3];omega),h3]at h
   obtain⟨x,h1,h2⟩:=Qpy h3 l (j - 3) u h
   rw[show(j - 3) / 3=j / 3 - 1 by omega,show(j - 3) % 3=j % 3 by omega]at *
   refine⟨x,?_,h2⟩
   rw[show j / 3=(j / 3 - 1)+1 by omega,List.getElem?_cons_succ];exact h1
theorem QpH {α:Type} {g:α→List Value} {Q:α→Prop} (h3:∀x,(g x).length=3) {H:Type} {enc:TypeId×Value→H} {W:World} {base:Nat} {spare:Nat→Bool} {held:Bool} {fuel tsl te:Nat} {cs:List Value} {x:DataW H×List MemPlace} (hs:prog.underlying tsl=some (.slice te)) (hc3:prog.cellsOf te=3)
  (hone:∀ (n:Nat) (cs:List Value) (x:DataW H×List MemPlace),DataW.trod enc prog W base spare held n te cs=some x→∃y:α,cs=g y∧Q y)
  (h:DataW.trod enc prog W base spare held fuel tsl cs=some x):∃ (v:Value) (l:List α),cs=[v]∧Qpu W v l.length (l.flatMap g)∧∀y∈l,Q y:=by
 rcases Deep.open_slice hs h with⟨hcs,_⟩ | ⟨a,len,cap,m,n,D,Pl,hcs,_,hlc,hcm,hm,_,hel⟩
 ·exact⟨.slice none 0 0,[],hcs,.inl ⟨rfl,rfl,rfl⟩,fun y hy=>by simp at hy⟩
 ·have hlm:len≤m:=by rw[hm];split<;>omega
  have hex:∀i,i<len→∃y:α,Q y∧∀j,j<3→W.cell? (a.add (i * 3+j))=(g y)[j]? := fun i hi=>by
   obtain⟨cs',hc,hr⟩:=hel i (by omega)
   obtain⟨y,rfl,hq⟩:=hone _ _ _ hr
   rw[hc3]at hc
   obtain⟨_,hg⟩:=Qpr hc
   exact⟨y,hq,fun j hj=>by rw[← hg j hj,YG]⟩
  by_cases h0:len=0
  ·exact⟨_,[],hcs,.inr ⟨a,cap,by rw[h0];rfl,Nat.zero_le _,by unfold maxLen at hcm;unfold UNK;omega,fun _=>rfl,fun h=>absurd h (Nat.lt_irrefl 0),fun j u hj=>by simp at hj⟩,fun y hy=>by simp at hy⟩
  ·obtain⟨y0,_⟩:=hex 0 (by omega)
   have:Inhabited α:=⟨y0⟩
   obtain⟨f,hf⟩:=Deep.choose_lt hex
   have hlen:((List.range len).map f).length=len:=by simp
   refine⟨_,(List.range len).map f,hcs,.inr ⟨a,cap,by rw[hlen],by rw[hlen];exact hlc,by unfold maxLen at hcm;unfold UNK;omega,fun h=>by rw[hlen]at h;omega,fun _=>?_,fun j u hj=>?_⟩,fun y hy=>?_⟩
   ·have h1:=(hf 0 (by omega)).2 0 (by decide)
    cases hg:(g (f 0))[0]? with
    | none=>rw[List.getElem?_eq_none_iff,h3]at hg;omega
    | some u=>
     rw[hg]at h1
     have:=World.block_lt_of_cell? W _ h1
     rwa [Ab.block_add]at this
   ·obtain⟨y,e1,e2⟩:=Qpy h3 _ j u hj
    rw[List.getElem?_map]at e1
    obtain⟨i,hi,rfl⟩:=Option.map_eq_some_iff.1 e1
    have hlt:=(List.getElem?_eq_some_iff.1 hi).1
    rw[List.getElem?_range (by simpa using hlt)]at hi
    cases hi
    have:=(hf (j / 3) (by simpa using hlt)).2 (j % 3) (by omega)
    rw[show j / 3 * 3+j % 3=j by omega,e2]at this
    exact this
   ·obtain⟨i,hi,rfl⟩:=List.mem_map.1 hy
    exact(hf i (List.mem_range.1 hi)).1
theorem QpQ {H:Type} {enc:TypeId×Value→H} {W:World} {base:Nat} {spare:Nat→Bool} {held:Bool} {fuel tsl te:Nat} {cs:List Value} {x:DataW H×List MemPlace} (hs:prog.underlying tsl=some (.slice te)) (he:prog.underlying te=some (.int .u8)) (hc1:prog.cellsOf te=1)
  (h:DataW.trod enc prog W base spare held fuel tsl cs=some x):∃ (v:Value) (l:List UInt8),cs=[v]∧Qpu W v l.length (u8v l):=by
 rcases Deep.open_slice hs h with⟨hcs,_⟩ | ⟨a,len,cap,m,n,D,Pl,hcs,_,hlc,hcm,hm,_,hel⟩
 ·exact⟨.slice none 0 0,[],hcs,.inl ⟨rfl,rfl,rfl⟩⟩
 ·have hlm:len≤m:=by rw[hm];split<;>omega
  have hex:∀i,i<len→∃z:UInt8,True∧W.cell? (a.add i)=some (.int .u8 (z.toNat:Int)):=fun i hi=>by
   obtain⟨cs',hc,ht⟩:=hel i (by omega)
   obtain⟨z,hz,_,hw⟩:=DataW.trod_int he ht
   rw[hc1,Nat.mul_one]at hc
   obtain⟨_,hg⟩:=Qpr hc
   have h0:=hg 0 (by decide)
   rw[YG,Nat.add_zero]at h0
   have hb:=bounds_u8 hw
   refine⟨z.toNat.toUInt8,trivial,?_⟩
   have e:((z.toNat.toUInt8.toNat:Nat):Int)=z:=by
    show((z.toNat % 256:Nat):Int)=z
    omega
   rw[h0,hz,e]
   rfl
  obtain⟨f,hf⟩:=Deep.choose_lt hex
  have hlen:((List.range len).map f).length=len:=by simp
  refine⟨_,(List.range len).map f,hcs,.inr ⟨a,cap,by rw[hlen],by rw[hlen];exact hlc,by unfold maxLen at hcm;unfold UNK;omega,fun h=>?_,fun hl=>?_,fun j u hj=>?_⟩⟩
  ·rw[hlen]at h;subst h;rfl
  ·rw[hlen]at hl
   have:=(hf 0 hl).2
   have:=World.block_lt_of_cell? W _ this
   rwa [Ab.block_add]at this
  ·unfold u8v at hj
   rw[List.getElem?_map,List.getElem?_map]at hj
   obtain⟨y,hy,rfl⟩:=Option.map_eq_some_iff.1 hj
   obtain⟨i,hi,rfl⟩:=Option.map_eq_some_iff.1 hy
   have hlt:=(List.getElem?_eq_some_iff.1 hi).1
   rw[List.getElem?_range (by simpa using hlt)]at hi
   cases hi
   exact(hf j (by simpa using hlt)).2
def QpI (W:World) (v:Value):Prop:=∃ (x:Im) (vb vs vm:Value),v=.agg #[.int .i64 x.org,vb,vs,vm]∧Qpu W vb x.b.length (u8v x.b)∧Qpu W vs x.syms.length (YV x.syms)∧Qpu W vm x.marks.length (WS x.marks)∧∀y∈x.syms,I64 y.n
theorem QpV {H:Type} {enc:TypeId×Value→H} {W:World} {base':Nat} {spare:Nat→Bool} {held:Bool} {v:Value} {d:DataW H} {p:List MemPlace} (ht:QpB timg tsl tb tu tsy tsys tmk tmks ti ts tbl) (hv:∃cs,v=.agg cs) (h:∃n,DataW.trod enc prog W base' spare held n timg v.cells.toList=some (d,p)):QpI W v:=by
 obtain⟨n,h⟩:=h
 obtain⟨cs,rfl⟩:=hv
 have hcs:(Value.agg cs).cells.toList=cs.toList:=rfl
 rw[hcs]at h
 obtain⟨fs,hu,hsz,hf0⟩:=ht.fimg
 obtain⟨xs,m,e,hx,hcl,hxl,hf⟩:=DataW.trod_struct hu h
 rw[ht.c3.2.2]at hcl
 rw[hsz]at hxl
 obtain⟨k1,k2,k3,k4,k5,k6,k7⟩:=ht.c1
 have fld:∀i (hi:i<4),DataW.trod enc prog W base' spare held m (if i=0 then ti else if i=1 then tb else if i=2 then tsys else tmks) ((cs.toList.drop i).take 1)=some (xs[i]'(by omega)):=fun i hi=>by
  obtain⟨f,hfi,ho,hft⟩:=hf0 i hi
  have hr:=hf i f hfi
  rw[hft,ho,List.getElem?_eq_getElem (by omega)]at hr
  have hc:prog.cellsOf (if i=0 then ti else if i=1 then tb else if i=2 then tsys else tmks)=1:=by
   split
   ·exact k1
   ·split
    ·exact k5
    ·split
     ·exact k6
     ·exact k7
  rw[hc]at hr
  exact hr
 obtain⟨z,e0,_,_⟩:=DataW.trod_int ht.int (fld 0 (by decide))
 obtain⟨vb,b,e1,hb⟩:=QpQ ht.bs ht.u8 k4 (fld 1 (by decide))
 obtain⟨vs,sy,e2,hsy,hq⟩:=QpH (g:=Sy.cells) (Q:=fun y=>I64 y.n) (fun _=>rfl) ht.sys ht.c3.1 (fun _ _ _ h=>QpU ht h) (fld 2 (by decide))
 obtain⟨vm,mk,e3,hmk,_⟩:=QpH (g:=Mk.cells) (Q:=fun _=>True) (fun _=>rfl) ht.mks ht.c3.2.1 (fun _ _ _ h=>by obtain⟨y,hy⟩:=QpP ht h;exact⟨y,hy,trivial⟩) (fld 3 (by decide))
 refine⟨⟨z,b,sy,mk⟩,vb,vs,vm,?_,hb,hsy,hmk,hq⟩
 have:cs.toList=[.int .i64 z,vb,vs,vm]:=by
  match hc:cs.toList,hcl with
  | [p0,p1,p2,p3],_=>
   rw[hc]at e0 e1 e2 e3
   simp at e0 e1 e2 e3
   rw[e0,e1,e2,e3]
 rw[← Array.toArray_toList (xs:=cs),this]
theorem QpJ {W:World} {v:Value} (h:Qpz W v):∃l:List (List UInt8),Qpu W v l.length (YU l):=by
 rcases h with rfl | ⟨a,len,cap,l,rfl,hlc,hcu,rfl,hlt,hc⟩
 ·exact⟨[],.inl ⟨rfl,rfl,rfl⟩⟩
 ·refine⟨l,.inr ⟨a,cap,rfl,hlc,hcu,fun h=>by rw[List.length_eq_zero_iff.1 h];rfl,hlt,fun j u hj=>?_⟩⟩
  unfold YU at hj
  rw[List.getElem?_map]at hj
  obtain⟨y,hy,rfl⟩:=Option.map_eq_some_iff.1 hj
  exact hc j y hy
theorem QpR {W:World} {v:Value} {ρ0:Ren} {H0:Qa} (hs:Sim prog ρ0 H0 W) (hw:H0.Wf) (hro:QfO H0) (h:QpI W v):
  ∃ (x:Im) (ub us um:Value) (ρ:Ren) (H:Qa),Sim prog ρ H W∧H.Wf∧QfO H∧Ext H0 H∧V ρ (.agg #[.int .i64 x.org,ub,us,um]) v∧Qi7 H x ub us um:=by
 obtain⟨x,vb,vs,vm,rfl,hb,hsy,hmk,hq⟩:=h
 obtain⟨ub,ρ1,H1,s1,hs1,hw1,hro1,hx1,hv1,hi1,hc1⟩:=Qpw 5 (fun u hu=>by obtain⟨z,_,rfl⟩:=List.mem_map.1 hu;rfl) hs hw hro hb
 obtain⟨us,ρ2,H2,s2,hs2,hw2,hro2,hx2,hv2,hi2,_⟩:=Qpw QM (fun u hu=>by
  unfold YV at hu
  obtain⟨y,_,hy⟩:=List.mem_flatMap.1 hu
  simp only[Sy.cells,List.mem_cons,List.not_mem_nil,or_false]at hy
  rcases hy with rfl | rfl | rfl<;>rfl) hs1 hw1 hro1 hsy
 obtain⟨um,ρ3,H3,s3,hs3,hw3,hro3,hx3,hv3,hi3,_⟩:=Qpw Wt (fun u hu=>by
  unfold WS at hu
  obtain⟨y,_,hy⟩:=List.mem_flatMap.1 hu
  simp only[Mk.cells,List.mem_cons,List.not_mem_nil,or_false]at hy
  rcases hy with rfl | rfl | rfl<;>rfl) hs2 hw2 hro2 hmk
 refine⟨x,ub,us,um,ρ3,H3,hs3,hw3,hro3,(hx1.trans hx2).trans hx3,?_,⟨(hi1.ext hw1 hx2).ext hw2 hx3,hi2.ext hw2 hx3,hi3,fun a c he=>?_,hq⟩⟩
 ·refine .agg _ _ rfl fun j a b ha hb=>?_
  rcases j with _ | _ | _ | _ | j
  ·cases ha;cases hb;exact .same _ rfl
  ·cases ha;cases hb;exact(hv1.mono s2).mono s3
  ·cases ha;cases hb;exact hv2.mono s3
  ·cases ha;cases hb;exact hv3
  ·simp at ha
 ·obtain⟨q1,q2⟩:=hc1 a c he
  exact⟨fun h=>by omega,fun _=>q2⟩
end Go.Proofs.YthoanamkoigjeaaDoor.code
