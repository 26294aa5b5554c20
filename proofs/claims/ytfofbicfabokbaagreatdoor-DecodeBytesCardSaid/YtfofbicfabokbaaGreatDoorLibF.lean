/- linotypekit.LentBytes. -/
import Derived.Test.YtfofbicfabokbaaGreatDoorLibR
import Derived.Test.YtfofbicfabokbaaGreatDoorC7Free
import Derived.Test.YtfofbicfabokbaaGreatDoorAbD
import Derived.Test.YtfofbicfabokbaaGreatDoorLibA
import Derived.Test.YtfofbicfabokbaaGreatDoorLibE
import Derived.Test.YtfofbicfabokbaaGreatDoorLibT
import Derived.Test.YtfofbicfabokbaaGreatDoorLibI
set_option linter.unusedVariables false
set_option linter.unusedSimpArgs false
set_option maxRecDepth 100000
set_option maxHeartbeats 4000000
noncomputable section
namespace Go.Proofs.YtfofbicfabokbaaGreatDoor.code
open Go.Ab
def QBC (P:Program) (ty:TypeId) (size:Nat):Bool:=match P.underlying ty with | some (.slice e)=>(match P.info? e with | some inf=>Nat.beq inf.size size | none=>false) | _=>false
theorem QzI {P:Program} {A:Env} {H H':Qa} {k:Value->Qa->Prop} {t t2:TypeId} {size:Nat} {x y:Operand} {v:Value} (ht:QBC P t size=true) (hc:Qoz size (ev A x) (ev A y) H=some (v,H')):
  pr P (.gen (.call ⟨.builtin .copy,#[x,y],#[t,t2]⟩)) false A H k=k v H':=by
 unfold QBC at ht;split at ht
 ·rename_i e h1;split at ht
  ·rename_i inf h2;have e0:inf.size=size:=LA ht;subst e0;have e1:rop P (.gen (.call ⟨.builtin .copy,#[x,y],#[t,t2]⟩)) A H=some (v,H'):=by
    simp only[rop,aop,Qil,h1,h2,hc];rfl
   refine(Wl _).trans ?_;rw[e1,Qt]
  ·cases ht
 ·cases ht
def b8 (l:List Int):List Value:=l.map (Value.int .u8)
theorem QmA (l:List Int):(b8 l).length=l.length:=Nn ..
theorem Qw3 (l m:List Int):b8 (l++m)=b8 l++b8 m:=N6
def QzJ (n:Nat):Int:=160+((n % 90:Nat):Int)
def QtE (n j:Nat):List Int:=[if 0<j then QzJ n else 0,if 1<j then QzJ (n+1) else 0,if 2<j then QzJ (n+2) else 0]
def Qq2 (bs:List Int):List Int:=bs++QtE bs.length 3
theorem QBD {bs:List Int} {j:Nat} (hj:j<3):List.take (bs.length+j) (b8 (bs++QtE bs.length j))++(Value.int .u8 (QzJ (bs.length+j))::List.drop (bs.length+j+1) (b8 (bs++QtE bs.length j)))=b8 (bs++QtE bs.length (j+1)):=by
 have hl:=QmA bs;rw[Qw3,Qw3,<- hl,List.take_length_add_append,Rh,List.drop_length_add_append,hl,LQ];congr 1;obtain rfl | rfl | rfl:j=0∨j=1∨j=2:=by omega
 all_goals rfl
theorem QBE {bs:List Int} {cs:List Value} {o:Nat} (h:∀j,j<bs.length->cs[o+j]? = some (.int .u8 (bs.getD j 0))) (h0:0<bs.length):o+bs.length<=cs.length∧(cs.drop o).take bs.length=b8 bs:=by
 have hl:o+bs.length<=cs.length:=by
  have:=h (bs.length - 1) (by omega);obtain⟨h1,_⟩:=Lk.1 this;omega
 refine⟨hl,?_⟩;apply BA;intro j
 by_cases hj:j<bs.length
 ·rw[Nl,Lc hj,Nk,h j hj];unfold b8;rw[LD,LX,La hj];rfl
 ·rw[N7 (by rw[Sb];omega),N7 (by rw[QmA];omega)]
theorem QDM {H H1:Qa} {a:Option Addr} {bs:List Int} {cap b:Nat} (hw1:H1.Wf) (hb:QbC H1 (.slice a bs.length cap) bs) (hg:H1.get b=some (.cells (List.replicate (bs.length+3) (Value.int .u8 0)) 5 false)):∃v H2,Qoz 1 (.slice (some ⟨b,0,none⟩) (bs.length+3) (bs.length+3)) (.slice a bs.length cap) H1=some (v,H2)∧H2.Wf∧H2.next=H1.next∧(∀id,id≠b->H2.get id=H1.get id)∧H2.get b=some (.cells (b8 (bs++QtE bs.length 0)) 5 false):=by
 have er:∀n:Nat,List.replicate (n+3) (Value.int .u8 0)=List.replicate n (Value.int .u8 0)++b8 (QtE bs.length 0):=λn=>by first | exact List.replicate_append_replicate.symm | exact List.append_replicate_replicate.symm
 obtain⟨a0,c0,e,hby⟩:=hb;cases e
 by_cases h0:bs.length=0
 ·have hs:∃l,Qcu 1 (.slice a bs.length cap) H1=some (0,l):=by rw[h0];cases a<;>exact⟨_,rfl⟩
  obtain⟨l,hs⟩:=hs;refine⟨_,H1,by unfold Qoz;rw[hs];simp only;rw[Lc (by simp)],hw1,rfl,λ_ _=>rfl,?_⟩;rw[hg,er,h0,N2.1 h0];rfl
 ·obtain⟨bb,o,e,ro,cs,rfl,hgb,hcs⟩:=hby (by omega);obtain⟨hl,ht⟩:=QBE hcs (by omega);have hs:=QdL (size:=1) (m:=bs.length) (b:=bb) (o:=o) (cap:=cap) (c:=cs) (e:=e) (ro:=ro) hgb h0 (by omega);rw[NH,ht]at hs;have hmin:Nat.min bs.length (bs.length+3)=bs.length:=BC (by omega);have htk:(b8 bs).take (bs.length * 1)=b8 bs:=LF (by rw[QmA];omega);refine⟨.int .i64 (bs.length:Nat),H1.set b (.cells (b8 (bs++QtE bs.length 0)) 5 false),?_,hw1.set hg _,rfl,λid h=>by rw[Qm,Le h],by rw[Qm,Lc rfl]⟩;unfold Qoz;rw[hs];simp only[hmin,hg,htk];rw[Le h0,Lc ⟨by simp,by unfold b8;rw[List.all_map];exact Li.2 λ_ _=>rfl⟩];congr 4;unfold splice;rw[er,Qw3,QmA];simp
theorem Qo6 (va:Value) (bs:List Int) (H:Qa) (hb:QbC H va bs) (hl:bs.length<=1000):Qh prog YF [va] H λu H'=>∃b,u=.slice (some ⟨b,0,none⟩) bs.length (bs.length+3)∧H.next<=b∧Ext H H'∧H'.get b=some (.cells (b8 (Qq2 bs)) 5 false):=by
 refine Qg5 λhw=>?_;obtain⟨a,cap,rfl,hby⟩:=hb;have e3:IntKind.i64.wrap ((bs.length:Int)+3)=((bs.length+3:Nat):Int):=by rw[w64 (by unfold I64;omega)];omega
 simp only[Qa8,Qb,simprocAttr,Qp,e3,Qsv];refine⟨⟨by omega,by omega,by omega,by omega⟩,?_⟩;have ez:Za #[Value.int .u8 0] (bs.length+3)=List.replicate (bs.length+3) (Value.int .u8 0):=by
  unfold Za;apply Rp
  ·simp
  ·intro i h1 h2;simp[Nat.mod_one]
 obtain⟨v2,H2,hc,hw2,hn2,hk2,hg2⟩:=QDM (H:=H) (hw.push (.cells (List.replicate (bs.length+3) (Value.int .u8 0)) 5 false)) (b:=H.next) ((show QbC H (.slice a bs.length cap) bs from⟨a,cap,rfl,hby⟩).ext hw ((Ext.refl H).push _)) (by rw[Qi,Lc rfl]);rw[LG,ez];rw[QzI (size:=1) (v:=v2) (H':=H2) (by kernel_rfl) (by simp only[Qg,simprocAttr];exact hc)];have hx2:Ext H H2:=⟨by rw[hn2];exact Nat.le_succ _,λid hid=>by rw[hk2 id (by omega),Qi,Le (by omega)]⟩;clear hc hk2 hn2 ez;simp only[Qb,simprocAttr,Qp];refine QE (λm A' H'=>∃j:Nat,j<=3∧m=3 - j∧A' 0=.slice a bs.length cap∧A' 3=.slice (some ⟨H.next,0,none⟩) (bs.length+3) (bs.length+3)∧A' 4=.int .i64 ((bs.length+j:Nat):Int)∧H'.Wf∧Ext H H'∧H'.get H.next=some (.cells (b8 (bs++QtE bs.length j)) 5 false)) 3 ?_ ?_
 ·refine⟨0,by omega,rfl,?_,?_,?_,hw2,hx2,hg2⟩
  all_goals simp only[Qg,simprocAttr]
  all_goals rfl
 ·rintro m A' H' ⟨j,hj,rfl,r0,r3,r4,hw',hx',hg'⟩;have en:((bs.length+j:Nat):Int).toNat=bs.length+j:=LG _;simp only[VI,Qb,simprocAttr,r3,r4,Qp];refine Qf (λh2=>?_) (λh2=>?_)
  ·have h2:j<3:=by have:=Lg h2;omega
   have c1:(0:Int)<=((bs.length+j:Nat):Int)∧((bs.length+j:Nat):Int)<((bs.length+3:Nat):Int):=by omega
   have ep:IntKind.u8.wrap (IntKind.i64.wrap (160+((bs.length+j:Nat):Int).tmod 90))=QzJ (bs.length+j):=by
    rw[BM (by omega),w64 (by unfold I64;omega),FS];unfold QzJ;omega
   have ej:IntKind.i64.wrap (((bs.length+j:Nat):Int)+1)=((bs.length+(j+1):Nat):Int):=by rw[w64 (by unfold I64;omega)];omega
   have hlen:(b8 (bs++QtE bs.length j)).length=bs.length+3:=by rw[QmA,Lh];rfl
   simp only[VH,Qb,simprocAttr,r3,r4,c1,en,hg',hlen,ep,ej];refine⟨by omega,3 - (j+1),by omega,j+1,by omega,rfl,?_,?_,?_,hw'.set hg' _,hx'.set (Lb _) _,?_⟩
   all_goals (try simp only[Qg,simprocAttr,r0,r3])
   rw[Qm,Lc rfl,QBD h2]
  ·have h2:j=3:=by have:=Ll h2;omega
   subst h2;simp only[Qb,simprocAttr,r0,r3,Qp];have es:ZJ 1 (.slice (some ⟨H.next,0,none⟩) (bs.length+3) (bs.length+3)) none (some (bs.length:Int)) none=some (.slice (some ⟨H.next,0,none⟩) bs.length (bs.length+3)):=by
    unfold ZJ;have:¬UNK<=bs.length+3:=by unfold UNK;omega
    simp only[Br,NB];rw[Le this,Lc (by omega),Le (by omega)];simp;omega
   refine⟨_,es,?_⟩;simp only[Qb,simprocAttr,Qgk];exact .mk hx'.next ⟨_,rfl,Lb _,hx',hg'⟩
theorem QBG {A:Env} {H:Qa} {k:Value->Qa->Prop} {t e:TypeId} {x:Operand} {a:Option Addr} {n c:Nat} (ht:prog.underlying t=some (.slice e)) (hx:ev A x=.slice a n c) (hc:c<UNK):pr prog (.gen (.call ⟨.builtin .cap,#[x],#[t]⟩)) false A H k=k (.int .i64 c) H:=by
 have hb:Nat.blt c UNK=true:=by simpa using hc
 have e1:rop prog (.gen (.call ⟨.builtin .cap,#[x],#[t]⟩)) A H=some (.int .i64 c,H):=by
  simp only[rop,aop,Qil,ht,hx,hb,Lq]
 refine(Wl _).trans ?_;rw[e1,Qt]
theorem QmB:∀l:List Int,Qgv (b8 l)=some (l.map λz=>z.toNat.toUInt8)
 | []=>rfl
 | z::l=>by
  have:=QmB l;unfold b8 at this ⊢;simp only[NZ,Qgv,this];rfl
theorem QsF {H:Qa} {b:Nat} {l:List Int} (hg:H.get b=some (.cells (b8 l) 5 false)) (h0:0<l.length):Qdx 1 (.slice (some ⟨b,0,none⟩) l.length l.length) H=some (b8 l):=by
 simp only[Qdx,hg];rw[Le (by omega),Lc (by rw[QmA];omega),Lw,NH,LF (by rw[QmA];exact Lb _)]
theorem QDN {b1 b2:Nat} (l:List Int) (H:Qa) (h1:H.get b1=some (.cells (b8 l) 5 false)) (h2:H.get b2=some (.cells (b8 l) 5 false)) (h0:0<l.length):Qh prog Js [.slice (some ⟨b1,0,none⟩) l.length l.length,.slice (some ⟨b2,0,none⟩) l.length l.length] H λu H'=>u=.bool true∧H'=H:=by
 refine Qg8 λhw=>?_;simp only[Qba,Qb,simprocAttr];rw[QsE (a:=some ⟨b1,0,none⟩) (n:=l.length) (c:=l.length) (by kernel_rfl) (by simp only[Qg,simprocAttr]) (QsF h1 h0) (QmB l)];simp only[Qb,simprocAttr];rw[QsE (a:=some ⟨b2,0,none⟩) (n:=l.length) (c:=l.length) (by kernel_rfl) (by simp only[Qg,simprocAttr]) (QsF h2 h0) (QmB l)];simp only[Qb,simprocAttr,LO,Qgm];exact .mk (Lb _) ⟨rfl,rfl⟩
theorem QBH {b n:Nat} (hn:n<=1000):ZJ 1 (.slice (some ⟨b,0,none⟩) n (n+3)) none (some ((n+3:Nat):Int)) none=some (.slice (some ⟨b,0,none⟩) (n+3) (n+3)):=by
 unfold ZJ;have:¬UNK<=n+3:=by unfold UNK;omega
 simp only[Br,NB];rw[Le this,Lc (by omega),Le (by omega)];simp;omega
theorem QsG (bs:List Int):(Qq2 bs).length=bs.length+3:=by unfold Qq2;rw[Lh];rfl
theorem Qvg (va:Value) (bs:List Int) {b:Nat} (H:Qa) (hb:QbC H va bs) (hl:bs.length<=1000) (hg:H.get b=some (.cells (b8 (Qq2 bs)) 5 false)):Qh prog Jr [.slice (some ⟨b,0,none⟩) bs.length (bs.length+3),va] H λu H'=>u=.bool true∧Ext H H':=by
 refine Qg6 λhw=>?_;have hb0:=hb;obtain⟨a,cap,rfl,hby⟩:=hb;have e3:IntKind.i64.wrap ((bs.length:Int)+3)=((bs.length+3:Nat):Int):=by rw[w64 (by unfold I64;omega)];omega
 have hu:bs.length+3<UNK:=by unfold UNK;omega
 have er:((bs.length:Int)==(bs.length:Int))=true:=LO _;simp only[Qa9,Qb,simprocAttr,Qp,er];rw[QBG (e:=5) (a:=some ⟨b,0,none⟩) (n:=bs.length) (c:=bs.length+3) (by kernel_rfl) (by simp only[Qg,simprocAttr]) hu];simp only[Qb,simprocAttr];refine⟨_,QBH hl,?_⟩;refine(Qo6 _ bs H hb0 hl).thenW ?_;rintro _ H1 hn1 hw1 ⟨b1,rfl,hb1,hx1,hg1⟩;have hg2:=(hx1.get b (hw.lt hg)).trans hg;simp only[Qb,simprocAttr,Qp,e3];refine⟨_,QBH hl,?_⟩;have ql:=QDN (Qq2 bs) H1 hg2 hg1 (by rw[QsG];omega);rw[QsG]at ql;refine ql.thenW ?_;rintro _ _ hn2 hw2 ⟨rfl,rfl⟩;simp only[Qb,simprocAttr,Qgl];exact .mk hx1.next ⟨rfl,hx1⟩
theorem QEd {H:Qa} {b:Nat} {bs:List Int} (hg:H.get b=some (.cells (b8 (Qq2 bs)) 5 false)) (hl:bs.length<=1000):ByC H (.slice (some ⟨b,0,none⟩) bs.length (bs.length+3)) bs:=by
 refine⟨⟨_,_,rfl,λ_=>⟨b,0,_,_,_,rfl,hg,λj hj=>?_⟩⟩,_,_,rfl,by omega,by unfold UNK;omega⟩;unfold b8 Qq2;rw[LP,LD,LY hj,LX,La hj];rfl
section
variable {T:Qa->Prop} {L M:List Fm} (hT:∀H H',H.Wf->T H->Ext H H'->T H') (hO:∀op H,T H->Qh prog Kd [.int .i64 op] H λu H'=>QiS H H' u (L.filter λf=>f.op==op)) (hR:∀H,T H->Qh prog Wt [] H λu H'=>QiS H H' u M)
 (hAw:∀H,T H->Qh prog W9 [] H λu H'=>u=.bool true∧H'=H) (hM:∀f,f∈M↔f∈L) (hLs:∀f∈L,f.shapes.length=f.slots.length) (hDF:∀f∈M,DFm f)
include hT hO hR hAw hM hLs hDF
end
def OvW (H0 H:Qa) (v:Value) (l:List Ar):Prop:=(l=[]∧∃a c,v=.slice a 0 c)∨∃b cap,v=.slice (some ⟨b,0,none⟩) l.length cap∧H0.next<=b∧b<H.next∧(0<l.length->H.get b=some (.cells (Qr l) Qe false))
theorem OvW.ars {H0 H:Qa} {v:Value} {l:List Ar} (h:OvW H0 H v l):XJ H v l:=by
 rcases h with⟨rfl,a,c,rfl⟩ | ⟨b,c,rfl,_,_,h⟩
 ·exact⟨a,c,rfl,λh=>absurd h (NX 0)⟩
 ·exact⟨_,_,rfl,λhl=>⟨b,_,_,rfl,h hl⟩⟩
theorem OvW.go {H0 H H':Qa} {v:Value} {l:List Ar} (h:OvW H0 H v l) (hx:Ext H H'):OvW H0 H' v l:=by
 rcases h with h | ⟨b,c,rfl,h1,h2,h3⟩
 ·exact .inl h
 ·exact .inr ⟨b,c,rfl,h1,by have:=hx.next;omega,λhl=>by rw[hx.get b h2];exact h3 hl⟩
theorem QJV {Hx:Qa} {op:Int} {v:Value} {l:List Ar} (H:Qa) (hx:Ext Hx H) (ha:OvW Hx H v l) (hl:l.length<=1000):Qh prog QIp [.agg #[.int .i64 op,v]] H λu H'=>u=.tuple #[]∧Ext Hx H':=by
 refine QIF λhw=>?_;obtain⟨a0,cap,rfl⟩:=QaS ha.ars;simp only[QIx,Qzq,simprocAttr];generalize hH1:Qa.push H _=H1;have g1:H1.get H.next=some (.cells [.int .i64 op,.slice a0 l.length cap] Qd false):=by rw[<- hH1,Qi,Lc rfl];rfl
 have hx1:Ext H H1:=by rw[<- hH1];exact(Ext.refl H).push _
 have hw1:H1.Wf:=by rw[<- hH1];exact hw.push _
 clear hH1;have hle:=hx.next;have hle1:=hx1.next;refine QE (λq A' H'=>∃i:Nat,i<=l.length∧q=l.length - i∧H'.Wf∧Ext Hx H'∧H1.next<=H'.next∧H'.get H.next=some (.cells [.int .i64 op,.slice a0 l.length cap] Qd false)∧(0<l.length->∃b c,a0=some ⟨b,0,none⟩∧Hx.next<=b∧b<H.next∧c.length=l.length * 11∧H'.get b=some (.cells c Qe false))∧A' 1=.pointer (some ⟨H.next,0,none⟩)∧A' 2=.int .i64 i) l.length ?_ ?_
 ·refine⟨0,L7 _,by omega,hw1,hx.trans hx1,Lb _,g1,λh=>?_,?_,?_⟩
  ·rcases ha with⟨h2,_⟩ | ⟨b,_,e,h1,h2,h3⟩
   ·rw[h2]at h;exact absurd h (NX 0)
   ·cases e;exact⟨b,_,rfl,h1,h2,W1 _,by rw[hx1.get b h2];exact h3 h⟩
  all_goals simp only[Qg,simprocAttr]
  all_goals rfl
 ·rintro q A' H' ⟨i,hi,rfl,hw',hx',hn',g',hb,r1,r2⟩;simp only[QIt,Qb,simprocAttr,r1,r2,g',Qp];refine Qf (λh2=>?_) (λh2=>?_)
  ·have h2:i<l.length:=by have:=Lg h2;omega
   obtain⟨b,c,rfl,hb1,hb2,hc,gb⟩:=hb (by omega);have d1:(0:Int)<=i∧(i:Int)<l.length:=by omega
   have d3:(i:Int).toNat=i:=by omega
   have ei:IntKind.i64.wrap ((i:Int)+1)=((i+1:Nat):Int):=by rw[w64 (by unfold I64;omega)];omega
   have hle11:i * 11+11<=c.length:=by omega
   simp only[QIs,Qb,simprocAttr,r1,r2,g',d1,d3,gb,ei];refine⟨hle11,?_⟩;have nb:¬H.next=b:=by omega
   refine⟨l.length - (i+1),by omega,i+1,by omega,rfl,hw'.set gb _,hx'.set hb1 _,hn',by rw[Qm,Le nb];exact g',λ_=>⟨b,_,rfl,hb1,hb2,?_,by rw[Qm,Lc rfl]⟩,?_,?_⟩
   ·simp only[Lh,Sb,NT,Lo,L9];omega
   all_goals simp only[Qg,simprocAttr,r1]
  ·simp only[Qb,simprocAttr,QID];exact .mk (by omega) ⟨rfl,hx'⟩
theorem QJ1 {H H':Qa} {v:Value} {l:List Ar} (hw:H'.Wf) (h:QqZ H' v l) (hf:∀a n c,v=.slice (some a) n c->H.next<=a.block):OvW H H' v l:=by
 obtain⟨a,c,rfl,h⟩:=h;cases l with
 | nil=>exact .inl ⟨rfl,a,c,rfl⟩
 | cons x l=>
  obtain⟨b,rfl,hg⟩:=h (FH _);exact .inr ⟨b,c,rfl,hf _ _ _ rfl,hw.lt hg,λ_=>hg⟩
section
variable {T:Qa->Prop} {L M:List Fm} (hT:∀H H',H.Wf->T H->Ext H H'->T H') (hR:∀H,T H->Qh prog Wt [] H λu H'=>QiS H H' u M)
 (hRt:∀H,T H->Qh prog XL [] H λu H'=>QiS H H' u L) (hty:QsH Yc)
 (hAw:∀H,T H->Qh prog W9 [] H λu H'=>u=.bool true∧H'=H) (hM:∀f,f∈M↔f∈L) (hfit:∀f∈L,QH6 f=true) (hap:∀ (i k:Nat) (a b:Fm),L[i]? = some a->L[k]? = some b->QsI a b=decide (i=k)) (hDF:∀f∈M,DFm f)
include hT hR hRt hty hAw hM hfit hap hDF
theorem QJv (va:Value) (bs:List Int) (hby:Qnr bs) (H:Qa) (hTH:T H) (hb:ByC H va bs):Qh prog QIj [va] H λu H'=>u=.bool true∧Ext H H':=by
 refine QIA λhw=>?_;obtain⟨_,ba,bcap,rfl,_⟩:=id hb;have hz:∀z∈bs,0<=z∧z<256:=λz hz=>by have:=hby z hz;omega
 simp only[QIq,Qb,simprocAttr,Qp];cases z1:decide ((bs.length:Int)>100) with
 | true=>
  simp only[Qb,simprocAttr];refine(hAw H hTH).thenW ?_;rintro _ _ hn hw2 ⟨rfl,rfl⟩;simp only[Qb,simprocAttr,QIn];exact .mk (Lb _) ⟨rfl,Ext.refl _⟩
 | false=>
 have n1:bs.length<=100:=by have:=Ll z1;omega
 simp only[QIm,Qb,simprocAttr];refine(Qo6 _ bs H hb.1 (by omega)).thenW ?_;rintro _ H1 hn1 hw1 ⟨bl,rfl,hbl,x01,gl⟩;have lb:=QEd gl (by omega);have lbs:QtG H1 (.slice (some ⟨bl,0,none⟩) bs.length (bs.length+3)) bs:=by
  obtain⟨⟨a,c,e,h⟩,_⟩:=lb;refine⟨a,c,e,λh0=>?_⟩;obtain⟨b,o,e,ro,cs,e1,hg,hc⟩:=h h0;exact⟨b,o,cs,e,ro,e1,hg,hc⟩
 simp only[Qb,simprocAttr];refine(QIZ hRt hty (λf hf=>(QIH (hfit f (QIw f bs true 0 L hf))).2) _ hT H1 (hT _ _ hw hTH x01) lbs (by omega)).thenW ?_;rintro _ H2 hn2 hw2 ⟨x12,v2,rfl,aw2,hf2⟩;have ov2:=QJ1 hw2 aw2 hf2;obtain⟨va2,vc2,rfl,_⟩:=id ov2.ars;have x02:=x01.trans x12;have gl2:=(x12.get _ (hw1.lt gl)).trans gl;simp only[Qb,simprocAttr];generalize hH3:Qa.set _ H2.next _=H3;have x23:Ext H2 H3:=by rw[<- hH3];exact((Ext.refl H2).push _).set (Lb _) _
 have w3:H3.Wf:=by rw[<- hH3];exact(hw2.push _).set (Qla _ _) _
 have hds:=QJO hfit hap hM (bs:=bs) hby (by omega);have gi3:H3.get H2.next=some (.cells [.int .i64 (QIG bs (Qg9 bs true 0 L) 4).op,.slice va2 (QIG bs (Qg9 bs true 0 L) 4).l.length vc2] Qd false):=by rw[<- hH3,Qm,Lc rfl]
 clear hH3;have x03:=x02.trans x23;have ov3:=ov2.go x23;have gl3:=(x23.get _ (hw2.lt gl2)).trans gl2;have qd:=QJu hR hDF (.slice ba bs.length bcap) hT H3 (hT _ _ hw hTH x03) (hb.ext hw x03) (by omega) hz;rw[hds]at qd;have hlen:(QIG bs (Qg9 bs true 0 L) 4).l.length<=5:=by
  have:∀ (l:List Fm) (err:Int),(QIG bs l err).l.length<=5:=by
   intro l
   induction l with
   | nil=>exact λerr=>L7 _
   | cons f l ih=>
    intro err;rw[QIV];split
    ·exact QzP _ _
    ·exact ih _
  exact this _ _
 refine qd.thenW ?_;rintro _ H4 hn4 hw4 ⟨x34,v4,rfl,hv4,_⟩;obtain⟨va4,vc4,rfl,_⟩:=id hv4;generalize QIG bs (Qg9 bs true 0 L) 4=d at *;have x04:=x03.trans x34;have gl4:=(x34.get _ (w3.lt gl3)).trans gl3;have gi4:=(x34.get _ (w3.lt gi3)).trans gi3;have ov4:=ov3.go x34;have hne4:(H2.next=H4.next)=False:=by have:=hw4.lt gi4;simp;omega
 simp only[Qb,simprocAttr,hne4,LN,gi4];generalize hH5:Qa.set _ H4.next _=H5;have x45:Ext H4 H5:=by rw[<- hH5];exact((Ext.refl H4).push _).set (Lb _) _
 have w5:H5.Wf:=by rw[<- hH5];exact(hw4.push _).set (Qla _ _) _
 clear hH5;have x05:=x04.trans x45;have gl5:=(x45.get _ (hw4.lt gl4)).trans gl4;have gi5:=(x45.get _ (hw4.lt gi4)).trans gi4;have ov5:=ov4.go x45;have hv5:=hv4.ext hw4 x45;refine(Qxl d.op d.op _ _ d.l d.l H5 ov5.ars hv5 (by omega) (by omega)).thenW ?_;rintro _ H6 hn6 hw6 ⟨rfl,k6,rfl⟩;have x56:Ext H5 (H5.up k6):=(Ext.refl H5).up (show _<=k6 from hn6);have gl6:=(x56.get _ (w5.lt gl5)).trans gl5;have gi6:=(x56.get _ (w5.lt gi5)).trans gi5;have ov6:=ov5.go x56;have x06:=x05.trans x56;generalize H5.up k6=H6 at *;have b1:((d.op==d.op)&&decide True)=true:=by rw[LO];rfl
 have b2:(d.n==d.n)=true:=LO _;have b3:(d.e==d.e)=true:=LO _;simp only[Qb,simprocAttr,b1,b2,b3];refine(Qvg _ bs H6 (hb.1.ext hw x06) (by omega) gl6).thenW ?_;rintro _ H7 hn7 hw7 ⟨rfl,x67⟩;have gi7:=(x67.get _ (hw6.lt gi6)).trans gi6;have x07:=x06.trans x67;simp only[Qb,simprocAttr,gi7];refine(QJV H7 (x12.trans (x23.trans (x34.trans (x45.trans (x56.trans x67))))) (ov6.go x67) (by omega)).thenW ?_;rintro _ H8 hn8 hw8 ⟨rfl,x18⟩;have x08:=x01.trans x18;simp only[Qb,simprocAttr];refine(hAw H8 (hT _ _ hw hTH x08)).thenW ?_;rintro _ _ hnz hwz ⟨rfl,rfl⟩;simp only[Qb,simprocAttr,QIn];exact .mk x08.next ⟨rfl,x08⟩
end
def dfB (f:Fm):Bool:=
 let s:=f.shapes.getD (QC f.slots 2).toNat 0
 Nat.beq f.shapes.length f.slots.length&&(decide (0<=f.pre)&&decide (f.pre<=5))&&(decide (0<=f.map)&&decide (f.map<=3))&&(decide (0<=f.code)&&decide (f.code<=255)) &&
  (decide (QC f.slots 2<0)||(decide (1<=s)&&decide (s<=19))||s==34)&&(decide (QC f.slots 4<0)||f.code % 8==0) &&
  (!f.vex||(decide (1<=f.map)&&(f.pre==0||f.pre==1||f.pre==2||f.pre==4)&&(f.w==-1||f.w==0||f.w==1)))&&(f.vex||(f.w==0||f.w==1))&&d2F f
theorem QGr {f:Fm} (h:dfB f=true):DFm f:=by
 unfold dfB at h;simp only[Lm,Nw,Lv,L0,Lr]at h;obtain⟨⟨⟨⟨⟨⟨⟨⟨h1,h2⟩,h3⟩,h4⟩,h5⟩,h6⟩,h7⟩,h8⟩,h9⟩:=h;refine⟨⟨LA h1,h2,h3,h4,λhi=>?_,λhi=>?_,λhv=>?_,λhv=>?_⟩,h9⟩
 ·rcases h5 with(h | h) | h
  ·omega
  ·exact .inl h
  ·exact .inr h
 ·rcases h6 with h | h
  ·omega
  ·exact h
 ·rcases h7 with h | ⟨⟨h,h'⟩,h''⟩
  ·rw[hv]at h;cases h
  ·exact⟨h,by omega,by omega⟩
 ·rcases h8 with h | h
  ·rw[hv]at h;cases h
  ·exact h
end Go.Proofs.YtfofbicfabokbaaGreatDoor.code
