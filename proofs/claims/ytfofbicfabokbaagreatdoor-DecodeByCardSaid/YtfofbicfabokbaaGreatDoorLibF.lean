/- linotypekit.LentBytes. -/
import Derived.Test.YtfofbicfabokbaaGreatDoorLibR
import Derived.Test.YtfofbicfabokbaaGreatDoorC7Free
import Derived.Test.YtfofbicfabokbaaGreatDoorAbD
import Derived.Test.YtfofbicfabokbaaGreatDoorLibA
import Derived.Test.YtfofbicfabokbaaGreatDoorLibE
import Derived.Test.YtfofbicfabokbaaGreatDoorLibT
import Derived.Test.YtfofbicfabokbaaGreatDoorLibI
set_option linter.unusedVariables false
set_option linter.unusedSimpArgs false
set_option maxRecDepth 100000
set_option maxHeartbeats 4000000
noncomputable section
namespace Go.Proofs.YtfofbicfabokbaaGreatDoor.code
open Go.Ab
def QBC (P:Program) (ty:TypeId) (size:Nat):Bool:=match P.underlying ty with | some (.slice e)=>(match P.info? e with | some inf=>Nat.beq inf.size size | none=>false) | _=>false
theorem QzI {P:Program} {A:Env} {H H':Qa} {k:Value->Qa->Prop} {t t2:TypeId} {size:Nat} {x y:Operand} {v:Value} (ht:QBC P t size=true) (hc:Qoz size (ev A x) (ev A y) H=some (v,H')):
  pr P (.gen (.call ⟨.builtin .copy,#[x,y],#[t,t2]⟩)) false A H k=k v H':=by
 unfold QBC at ht;split at ht
 ·rename_i e h1;split at ht
  ·rename_i inf h2;have e0:inf.size=size:=LA ht;subst e0;have e1:rop P (.gen (.call ⟨.builtin .copy,#[x,y],#[t,t2]⟩)) A H=some (v,H'):=by
    simp only[rop,aop,Qil,h1,h2,hc];rfl
   refine(Wl _).trans ?_;rw[e1,Qt]
  ·cases ht
 ·cases ht
def b8 (l:List Int):List Value:=l.map (Value.int .u8)
theorem QmA (l:List Int):(b8 l).length=l.length:=Nn ..
theorem Qw3 (l m:List Int):b8 (l++m)=b8 l++b8 m:=N6
def QzJ (n:Nat):Int:=160+((n % 90:Nat):Int)
def QtE (n j:Nat):List Int:=[if 0<j then QzJ n else 0,if 1<j then QzJ (n+1) else 0,if 2<j then QzJ (n+2) else 0]
def Qq2 (bs:List Int):List Int:=bs++QtE bs.length 3
theorem QBD {bs:List Int} {j:Nat} (hj:j<3):List.take (bs.length+j) (b8 (bs++QtE bs.length j))++(Value.int .u8 (QzJ (bs.length+j))::List.drop (bs.length+j+1) (b8 (bs++QtE bs.length j)))=b8 (bs++QtE bs.length (j+1)):=by
 have hl:=QmA bs;rw[Qw3,Qw3,<- hl,List.take_length_add_append,Rh,List.drop_length_add_append,hl,LQ];congr 1;obtain rfl | rfl | rfl:j=0∨j=1∨j=2:=by omega
 all_goals rfl
theorem QBE {bs:List Int} {cs:List Value} {o:Nat} (h:∀j,j<bs.length->cs[o+j]? = some (.int .u8 (bs.getD j 0))) (h0:0<bs.length):o+bs.length<=cs.length∧(cs.drop o).take bs.length=b8 bs:=by
 have hl:o+bs.length<=cs.length:=by
  have:=h (bs.length - 1) (by omega);obtain⟨h1,_⟩:=Lk.1 this;omega
 refine⟨hl,?_⟩;apply BA;intro j
 by_cases hj:j<bs.length
 ·rw[Nl,Lc hj,Nk,h j hj];unfold b8;rw[LD,LX,La hj];rfl
 ·rw[N7 (by rw[Sb];omega),N7 (by rw[QmA];omega)]
theorem QDM {H H1:Qa} {a:Option Addr} {bs:List Int} {cap b:Nat} (hw1:H1.Wf) (hb:QbC H1 (.slice a bs.length cap) bs) (hg:H1.get b=some (.cells (List.replicate (bs.length+3) (Value.int .u8 0)) 5 false)):∃v H2,Qoz 1 (.slice (some ⟨b,0,none⟩) (bs.length+3) (bs.length+3)) (.slice a bs.length cap) H1=some (v,H2)∧H2.Wf∧H2.next=H1.next∧(∀id,id≠b->H2.get id=H1.get id)∧H2.get b=some (.cells (b8 (bs++QtE bs.length 0)) 5 false):=by
 have er:∀n:Nat,List.replicate (n+3) (Value.int .u8 0)=List.replicate n (Value.int .u8 0)++b8 (QtE bs.length 0):=λn=>by first | exact List.replicate_append_replicate.symm | exact List.append_replicate_replicate.symm
 obtain⟨a0,c0,e,hby⟩:=hb;cases e
 by_cases h0:bs.length=0
 ·have hs:∃l,Qcu 1 (.slice a bs.length cap) H1=some (0,l):=by rw[h0];cases a<;>exact⟨_,rfl⟩
  obtain⟨l,hs⟩:=hs;refine⟨_,H1,by unfold Qoz;rw[hs];simp only;rw[Lc (by simp)],hw1,rfl,λ_ _=>rfl,?_⟩;rw[hg,er,h0,N2.1 h0];rfl
 ·obtain⟨bb,o,e,ro,cs,rfl,hgb,hcs⟩:=hby (by omega);obtain⟨hl,ht⟩:=QBE hcs (by omega);have hs:=QdL (size:=1) (m:=bs.length) (b:=bb) (o:=o) (cap:=cap) (c:=cs) (e:=e) (ro:=ro) hgb h0 (by omega);rw[NH,ht]at hs;have hmin:Nat.min bs.length (bs.length+3)=bs.length:=BC (by omega);have htk:(b8 bs).take (bs.length * 1)=b8 bs:=LF (by rw[QmA];omega);refine⟨.int .i64 (bs.length:Nat),H1.set b (.cells (b8 (bs++QtE bs.length 0)) 5 false),?_,hw1.set hg _,rfl,λid h=>by rw[Qm,Le h],by rw[Qm,Lc rfl]⟩;unfold Qoz;rw[hs];simp only[hmin,hg,htk];rw[Le h0,Lc ⟨by simp,by unfold b8;rw[List.all_map];exact Li.2 λ_ _=>rfl⟩];congr 4;unfold splice;rw[er,Qw3,QmA];simp
theorem Qo6 (va:Value) (bs:List Int) (H:Qa) (hb:QbC H va bs) (hl:bs.length<=1000):Qh prog YF [va] H λu H'=>∃b,u=.slice (some ⟨b,0,none⟩) bs.length (bs.length+3)∧H.next<=b∧Ext H H'∧H'.get b=some (.cells (b8 (Qq2 bs)) 5 false):=by
 refine Qg5 λhw=>?_;obtain⟨a,cap,rfl,hby⟩:=hb;have e3:IntKind.i64.wrap ((bs.length:Int)+3)=((bs.length+3:Nat):Int):=by rw[w64 (by unfold I64;omega)];omega
 simp only[Qa8,Qb,simprocAttr,Qp,e3,Qsv];refine⟨⟨by omega,by omega,by omega,by omega⟩,?_⟩;have ez:Za #[Value.int .u8 0] (bs.length+3)=List.replicate (bs.length+3) (Value.int .u8 0):=by
  unfold Za;apply Rp
  ·simp
  ·intro i h1 h2;simp[Nat.mod_one]
 obtain⟨v2,H2,hc,hw2,hn2,hk2,hg2⟩:=QDM (H:=H) (hw.push (.cells (List.replicate (bs.length+3) (Value.int .u8 0)) 5 false)) (b:=H.next) ((show QbC H (.slice a bs.length cap) bs from⟨a,cap,rfl,hby⟩).ext hw ((Ext.refl H).push _)) (by rw[Qi,Lc rfl]);rw[LG,ez];rw[QzI (size:=1) (v:=v2) (H':=H2) (by kernel_rfl) (by simp only[Qg,simprocAttr];exact hc)];have hx2:Ext H H2:=⟨by rw[hn2];exact Nat.le_succ _,λid hid=>by rw[hk2 id (by omega),Qi,Le (by omega)]⟩;clear hc hk2 hn2 ez;simp only[Qb,simprocAttr,Qp];refine QE (λm A' H'=>∃j:Nat,j<=3∧m=3 - j∧A' 0=.slice a bs.length cap∧A' 3=.slice (some ⟨H.next,0,none⟩) (bs.length+3) (bs.length+3)∧A' 4=.int .i64 ((bs.length+j:Nat):Int)∧H'.Wf∧Ext H H'∧H'.get H.next=some (.cells (b8 (bs++QtE bs.length j)) 5 false)) 3 ?_ ?_
 ·refine⟨0,by omega,rfl,?_,?_,?_,hw2,hx2,hg2⟩
  all_goals simp only[Qg,simprocAttr]
  all_goals rfl
 ·rintro m A' H' ⟨j,hj,rfl,r0,r3,r4,hw',hx',hg'⟩;have en:((bs.length+j:Nat):Int).toNat=bs.length+j:=LG _;simp only[VI,Qb,simprocAttr,r3,r4,Qp];refine Qf (λh2=>?_) (λh2=>?_)
  ·have h2:j<3:=by have:=Lg h2;omega
   have c1:(0:Int)<=((bs.length+j:Nat):Int)∧((bs.length+j:Nat):Int)<((bs.length+3:Nat):Int):=by omega
   have ep:IntKind.u8.wrap (IntKind.i64.wrap (160+((bs.length+j:Nat):Int).tmod 90))=QzJ (bs.length+j):=by
    rw[BM (by omega),w64 (by unfold I64;omega),FS];unfold QzJ;omega
   have ej:IntKind.i64.wrap (((bs.length+j:Nat):Int)+1)=((bs.length+(j+1):Nat):Int):=by rw[w64 (by unfold I64;omega)];omega
   have hlen:(b8 (bs++QtE bs.length j)).length=bs.length+3:=by rw[QmA,Lh];rfl
   simp only[VH,Qb,simprocAttr,r3,r4,c1,en,hg',hlen,ep,ej];refine⟨by omega,3 - (j+1),by omega,j+1,by omega,rfl,?_,?_,?_,hw'.set hg' _,hx'.set (Lb _) _,?_⟩
   all_goals (try simp only[Qg,simprocAttr,r0,r3])
   rw[Qm,Lc rfl,QBD h2]
  ·have h2:j=3:=by have:=Ll h2;omega
   subst h2;simp only[Qb,simprocAttr,r0,r3,Qp];have es:ZJ 1 (.slice (some ⟨H.next,0,none⟩) (bs.length+3) (bs.length+3)) none (some (bs.length:Int)) none=some (.slice (some ⟨H.next,0,none⟩) bs.length (bs.length+3)):=by
    unfold ZJ;have:¬UNK<=bs.length+3:=by unfold UNK;omega
    simp only[Br,NB];rw[Le this,Lc (by omega),Le (by omega)];simp;omega
   refine⟨_,es,?_⟩;simp only[Qb,simprocAttr,Qgk];exact .mk hx'.next ⟨_,rfl,Lb _,hx',hg'⟩
theorem QBG {A:Env} {H:Qa} {k:Value->Qa->Prop} {t e:TypeId} {x:Operand} {a:Option Addr} {n c:Nat} (ht:prog.underlying t=some (.slice e)) (hx:ev A x=.slice a n c) (hc:c<UNK):pr prog (.gen (.call ⟨.builtin .cap,#[x],#[t]⟩)) false A H k=k (.int .i64 c) H:=by
 have hb:Nat.blt c UNK=true:=by simpa using hc
 have e1:rop prog (.gen (.call ⟨.builtin .cap,#[x],#[t]⟩)) A H=some (.int .i64 c,H):=by
  simp only[rop,aop,Qil,ht,hx,hb,Lq]
 refine(Wl _).trans ?_;rw[e1,Qt]
theorem QmB:∀l:List Int,Qgv (b8 l)=some (l.map λz=>z.toNat.toUInt8)
 | []=>rfl
 | z::l=>by
  have:=QmB l;unfold b8 at this ⊢;simp only[NZ,Qgv,this];rfl
theorem QsF {H:Qa} {b:Nat} {l:List Int} (hg:H.get b=some (.cells (b8 l) 5 false)) (h0:0<l.length):Qdx 1 (.slice (some ⟨b,0,none⟩) l.length l.length) H=some (b8 l):=by
 simp only[Qdx,hg];rw[Le (by omega),Lc (by rw[QmA];omega),Lw,NH,LF (by rw[QmA];exact Lb _)]
theorem QDN {b1 b2:Nat} (l:List Int) (H:Qa) (h1:H.get b1=some (.cells (b8 l) 5 false)) (h2:H.get b2=some (.cells (b8 l) 5 false)) (h0:0<l.length):Qh prog Js [.slice (some ⟨b1,0,none⟩) l.length l.length,.slice (some ⟨b2,0,none⟩) l.length l.length] H λu H'=>u=.bool true∧H'=H:=by
 refine Qg8 λhw=>?_;simp only[Qba,Qb,simprocAttr];rw[QsE (a:=some ⟨b1,0,none⟩) (n:=l.length) (c:=l.length) (by kernel_rfl) (by simp only[Qg,simprocAttr]) (QsF h1 h0) (QmB l)];simp only[Qb,simprocAttr];rw[QsE (a:=some ⟨b2,0,none⟩) (n:=l.length) (c:=l.length) (by kernel_rfl) (by simp only[Qg,simprocAttr]) (QsF h2 h0) (QmB l)];simp only[Qb,simprocAttr,LO,Qgm];exact .mk (Lb _) ⟨rfl,rfl⟩
theorem QBH {b n:Nat} (hn:n<=1000):ZJ 1 (.slice (some ⟨b,0,none⟩) n (n+3)) none (some ((n+3:Nat):Int)) none=some (.slice (some ⟨b,0,none⟩) (n+3) (n+3)):=by
 unfold ZJ;have:¬UNK<=n+3:=by unfold UNK;omega
 simp only[Br,NB];rw[Le this,Lc (by omega),Le (by omega)];simp;omega
theorem QsG (bs:List Int):(Qq2 bs).length=bs.length+3:=by unfold Qq2;rw[Lh];rfl
theorem Qvg (va:Value) (bs:List Int) {b:Nat} (H:Qa) (hb:QbC H va bs) (hl:bs.length<=1000) (hg:H.get b=some (.cells (b8 (Qq2 bs)) 5 false)):Qh prog Jr [.slice (some ⟨b,0,none⟩) bs.length (bs.length+3),va] H λu H'=>u=.bool true∧Ext H H':=by
 refine Qg6 λhw=>?_;have hb0:=hb;obtain⟨a,cap,rfl,hby⟩:=hb;have e3:IntKind.i64.wrap ((bs.length:Int)+3)=((bs.length+3:Nat):Int):=by rw[w64 (by unfold I64;omega)];omega
 have hu:bs.length+3<UNK:=by unfold UNK;omega
 have er:((bs.length:Int)==(bs.length:Int))=true:=LO _;simp only[Qa9,Qb,simprocAttr,Qp,er];rw[QBG (e:=5) (a:=some ⟨b,0,none⟩) (n:=bs.length) (c:=bs.length+3) (by kernel_rfl) (by simp only[Qg,simprocAttr]) hu];simp only[Qb,simprocAttr];refine⟨_,QBH hl,?_⟩;refine(Qo6 _ bs H hb0 hl).thenW ?_;rintro _ H1 hn1 hw1 ⟨b1,rfl,hb1,hx1,hg1⟩;have hg2:=(hx1.get b (hw.lt hg)).trans hg;simp only[Qb,simprocAttr,Qp,e3];refine⟨_,QBH hl,?_⟩;have ql:=QDN (Qq2 bs) H1 hg2 hg1 (by rw[QsG];omega);rw[QsG]at ql;refine ql.thenW ?_;rintro _ _ hn2 hw2 ⟨rfl,rfl⟩;simp only[Qb,simprocAttr,Qgl];exact .mk hx1.next ⟨rfl,hx1⟩
theorem QBI (l:List Int):((ints l).all λv=>v.oneCell')=true:=by unfold ints;rw[List.all_map];exact Li.2 λ_ _=>rfl
theorem QtF (H:Qa) (B:Blk):(H.push B).get H.next=some B:=by rw[Qi,Lc rfl]
theorem Qod {H:Qa} {B:Blk} {id:Nat} (h:id<H.next):(H.push B).get id=H.get id:=by rw[Qi,Le (by omega)]
theorem Qvh {H1:Qa} {va:Value} {l:List Int} {b0:Nat} {K:Value->Qa->Prop} (hw1:H1.Wf) (hs:ZA H1 va l.length (ints l)) (hl:l.length<=1000) (g2:H1.get b0=some (.cells [] 3 false))
  (hK:∀v' H2,H2.Wf->Ext H1 H2->ZA H2 v' l.length (ints l)->(∀d n c,v'=.slice (some d) n c->b0<=d.block)->K v' H2):Qiq 3 1 8 (.slice (some ⟨b0,0,none⟩) 0 0) va H1 K:=by
 obtain⟨a0,cap,rfl,h1⟩:=hs;cases l with
 | nil=>
  have hr:∀H1:Qa,J6 3 1 8 (.slice (some ⟨b0,0,none⟩) 0 0) (.slice a0 0 cap) H1=some (.slice (some ⟨b0,0,none⟩) 0 0,H1):=λH1=>by cases a0<;>simp[J6,Qcu]
  unfold Qiq;simp only[L9];rw[hr,Qt];exact hK _ _ hw1 (.refl _) ⟨_,_,rfl,λh=>absurd h (NX 0)⟩ (λd n c h=>by cases h;exact Lb _)
 | cons a l=>
  obtain⟨b,e,ro,rfl,hb⟩:=h1 (by simp);have hlen:(ints (a::l)).length=l.length+1:=by simp[ints]
  have hn:Qcu 1 (.slice (some ⟨b,0,none⟩) (l.length+1) cap) H1=some (l.length+1,ints (a::l)):=by
   rw[QdL (c:=ints (a::l)) (e:=e) (ro:=ro) hb (by omega) (by rw[hlen];omega),Lw,LF (by rw[hlen];omega)]
  rw[Lo]at hl hK ⊢;refine QnU (c:=[]) (ro:=false) (e':=3) hn (QBI _) (by omega) g2 (by simp) (by omega) (by omega) (by decide) (by omega) ?_;rw[LP];refine hK _ (H1.push _) (hw1.push _) ((Ext.refl _).push _) ⟨_,_,rfl,λ_=>⟨_,_,_,rfl,by rw[Qi,Lc rfl];rfl⟩⟩ (λd n c h=>by cases h;exact Nat.le_of_lt (hw1.lt g2))
theorem Qw4 (x:Lf) (H:Qa) (hx:x.At H):Qh prog Ka [.agg x.cells.toArray] H λu H'=>∃y:Lf,u=.agg y.cells.toArray∧y.f=x.f∧y.At H'∧Ext H H':=by
 refine Qh1 λhw=>?_;have ec:(Value.agg x.cells.toArray).cells.toList=x.cells:=rfl;have x1:x.cells[1]? = some x.sv:=rfl;have x2:x.cells[2]? = some x.tv:=rfl;have l10:x.cells.length=10:=rfl;have hne:(H.next=H.next+1+1)=False:=by simp;omega
 have c3:Ext H (((H.push (.cells x.cells Qc false)).push (.cells [.int .i64 0,.slice none 0 0,.slice none 0 0,.int .i64 0,.int .i64 0,.int .i64 0,.int .i64 0,.int .i64 0,.bool false,.int .i64 0] Qc false)).push (.cells [] 3 false)):=(((Ext.refl H).push _).push _).push _;have w3:=((hw.push (.cells x.cells Qc false)).push (.cells [.int .i64 0,.slice none 0 0,.slice none 0 0,.int .i64 0,.int .i64 0,.int .i64 0,.int .i64 0,.int .i64 0,.bool false,.int .i64 0] Qc false)).push (.cells [] 3 false);have gx:(((H.push (.cells x.cells Qc false)).push (.cells [.int .i64 0,.slice none 0 0,.slice none 0 0,.int .i64 0,.int .i64 0,.int .i64 0,.int .i64 0,.int .i64 0,.bool false,.int .i64 0] Qc false)).push (.cells [] 3 false)).get H.next=some (.cells x.cells Qc false):=(Qod (show H.next<H.next+1+1 by omega)).trans ((Qod (show H.next<H.next+1 by omega)).trans (QtF _ _));have gt:(((H.push (.cells x.cells Qc false)).push (.cells [.int .i64 0,.slice none 0 0,.slice none 0 0,.int .i64 0,.int .i64 0,.int .i64 0,.int .i64 0,.int .i64 0,.bool false,.int .i64 0] Qc false)).push (.cells [] 3 false)).get (H.next+1)=some (.cells [.int .i64 0,.slice none 0 0,.slice none 0 0,.int .i64 0,.int .i64 0,.int .i64 0,.int .i64 0,.int .i64 0,.bool false,.int .i64 0] Qc false):=(Qod (show H.next+1<H.next+1+1 by omega)).trans (QtF (H.push (.cells x.cells Qc false)) _);have g0:(((H.push (.cells x.cells Qc false)).push (.cells [.int .i64 0,.slice none 0 0,.slice none 0 0,.int .i64 0,.int .i64 0,.int .i64 0,.int .i64 0,.int .i64 0,.bool false,.int .i64 0] Qc false)).push (.cells [] 3 false)).get (H.next+1+1)=some (.cells [] 3 false):=QtF ((H.push (.cells x.cells Qc false)).push (.cells [.int .i64 0,.slice none 0 0,.slice none 0 0,.int .i64 0,.int .i64 0,.int .i64 0,.int .i64 0,.int .i64 0,.bool false,.int .i64 0] Qc false)) _;simp only[Qb0,ec,Qb,simprocAttr,hne,LN,x1];generalize ((H.push (.cells x.cells Qc false)).push (.cells [.int .i64 0,.slice none 0 0,.slice none 0 0,.int .i64 0,.int .i64 0,.int .i64 0,.int .i64 0,.int .i64 0,.bool false,.int .i64 0] Qc false)).push (.cells [] 3 false)=H1 at *;obtain⟨l1,l2,h1,h2⟩:=hx;refine Qvh w3 (h1.ext hw c3) l1 g0 ?_;intro v1 H2 w4 x12 s1 f1;have gx2:=(x12.get _ (w3.lt gx)).trans gx;have hg1:=w3.lt gt;obtain⟨a1,k1,rfl,hs1⟩:=id s1;have st1:List.take 1 x.cells++(Value.slice a1 x.f.shapes.length k1::List.drop 2 x.cells)=(⟨x.f,.slice a1 x.f.shapes.length k1,x.tv⟩:Lf).cells:=rfl;have x2':(⟨x.f,.slice a1 x.f.shapes.length k1,x.tv⟩:Lf).cells[2]? = some x.tv:=rfl;have hn2:(H.next=H2.next)=False:=by have:=x12.next;have:=w3.lt gx;simp;omega
 simp only[Qb,simprocAttr,gx2,l10,st1,hn2,LN,x2'];have hlx:=w4.lt gx2;have c0:Ext H (H2.set H.next (.cells (⟨x.f,.slice a1 x.f.shapes.length k1,x.tv⟩:Lf).cells Qc false)):=(c3.trans x12).set (Lb _) _;have w40:=w4.set gx2 (.cells (⟨x.f,.slice a1 x.f.shapes.length k1,x.tv⟩:Lf).cells Qc false);have c4:Ext H ((H2.set H.next (.cells (⟨x.f,.slice a1 x.f.shapes.length k1,x.tv⟩:Lf).cells Qc false)).push (.cells [] 3 false)):=c0.push _;have w5:=w40.push (.cells [] 3 false);have gx3:((H2.set H.next (.cells (⟨x.f,.slice a1 x.f.shapes.length k1,x.tv⟩:Lf).cells Qc false)).push (.cells [] 3 false)).get H.next=some (.cells (⟨x.f,.slice a1 x.f.shapes.length k1,x.tv⟩:Lf).cells Qc false):=by rw[Qod (show H.next<(Qa.set H2 H.next _).next from hlx),Qm,Lc rfl]
 have g5:((H2.set H.next (.cells (⟨x.f,.slice a1 x.f.shapes.length k1,x.tv⟩:Lf).cells Qc false)).push (.cells [] 3 false)).get H2.next=some (.cells [] 3 false):=QtF (H2.set H.next (.cells (⟨x.f,.slice a1 x.f.shapes.length k1,x.tv⟩:Lf).cells Qc false)) _;have gt2:=(x12.get _ hg1).trans gt;have hlt2:=w4.lt gt2;have gt3:((H2.set H.next (.cells (⟨x.f,.slice a1 x.f.shapes.length k1,x.tv⟩:Lf).cells Qc false)).push (.cells [] 3 false)).get (H.next+1)=some (.cells [.int .i64 0,.slice none 0 0,.slice none 0 0,.int .i64 0,.int .i64 0,.int .i64 0,.int .i64 0,.int .i64 0,.bool false,.int .i64 0] Qc false):=by rw[Qod (show H.next+1<(Qa.set H2 H.next _).next from hlt2),Qm,Le (by omega)];exact gt2
 have s13:ZA ((H2.set H.next (.cells (⟨x.f,.slice a1 x.f.shapes.length k1,x.tv⟩:Lf).cells Qc false)).push (.cells [] 3 false)) (.slice a1 x.f.shapes.length k1) x.f.shapes.length (ints x.f.shapes):=by
  refine⟨a1,k1,rfl,λh=>?_⟩;obtain⟨b2,e2,ro2,rfl,hg⟩:=hs1 h;have h9:=f1 _ _ _ rfl;have h8:=w4.lt hg;simp only at h9;exact⟨b2,e2,ro2,rfl,by rw[Qod (show b2<(Qa.set H2 H.next _).next from h8),Qm,Le (by omega)];exact hg⟩
 generalize (H2.set H.next (.cells (⟨x.f,.slice a1 x.f.shapes.length k1,x.tv⟩:Lf).cells Qc false)).push (.cells [] 3 false)=H3 at *;refine Qvh w5 (h2.ext hw c4) l2 g5 ?_;intro v2 H4 w6 x34 s2 f2;have gx4:=(x34.get _ (w5.lt gx3)).trans gx3;have gt4:=(x34.get _ (w5.lt gt3)).trans gt3;have s14:=s13.ext w5 x34;obtain⟨a2,k2,rfl,hs2⟩:=id s2;have st2:List.take 2 (⟨x.f,.slice a1 x.f.shapes.length k1,x.tv⟩:Lf).cells++(Value.slice a2 x.f.slots.length k2::List.drop 3 (⟨x.f,.slice a1 x.f.shapes.length k1,x.tv⟩:Lf).cells)=(⟨x.f,.slice a1 x.f.shapes.length k1,.slice a2 x.f.slots.length k2⟩:Lf).cells:=rfl;have l10':(⟨x.f,.slice a1 x.f.shapes.length k1,x.tv⟩:Lf).cells.length=10:=rfl;have n01:(H.next+1=H.next)=False:=by simp
 have l12:(⟨x.f,.slice a1 x.f.shapes.length k1,.slice a2 x.f.slots.length k2⟩:Lf).cells.length=10:=rfl;have t12:List.take 10 (⟨x.f,.slice a1 x.f.shapes.length k1,.slice a2 x.f.slots.length k2⟩:Lf).cells=(⟨x.f,.slice a1 x.f.shapes.length k1,.slice a2 x.f.slots.length k2⟩:Lf).cells:=rfl;simp only[Qb,simprocAttr,gx4,gt4,l10',st2,n01,l12,t12,LN,Qg7];have keepS:∀ (B C:Blk) (v:Value) (n:Nat) (cs:List Value),ZA H4 v n cs->(∀d m c,v=.slice (some d) m c->H.next+1<d.block)->ZA ((H4.set H.next B).set (H.next+1) C) v n cs:=by
  rintro B C v n cs ⟨a,k,rfl,hs⟩ hf;refine⟨a,k,rfl,λh=>?_⟩;obtain⟨b2,e2,ro2,rfl,hg⟩:=hs h;have h9:=hf _ _ _ rfl;simp only at h9;exact⟨b2,e2,ro2,rfl,by rw[Qm,Le (by omega),Qm,Le (by omega)];exact hg⟩
 have hxf:∀B C,Ext H ((H4.set H.next B).set (H.next+1) C):=λB C=>((c4.trans x34).set (Lb _) _).set (Nat.le_succ _) _;refine⟨rfl,.mk (hxf _ _).next ⟨⟨x.f,.slice a1 x.f.shapes.length k1,.slice a2 x.f.slots.length k2⟩,rfl,rfl,⟨l1,l2,keepS _ _ _ _ _ s14 (λd m c e=>?_),keepS _ _ _ _ _ s2 (λd m c e=>?_)⟩,hxf _ _⟩⟩
 ·have:=f1 d m c e;omega
 ·have:=f2 d m c e;omega
theorem QEd {H:Qa} {b:Nat} {bs:List Int} (hg:H.get b=some (.cells (b8 (Qq2 bs)) 5 false)) (hl:bs.length<=1000):ByC H (.slice (some ⟨b,0,none⟩) bs.length (bs.length+3)) bs:=by
 refine⟨⟨_,_,rfl,λ_=>⟨b,0,_,_,_,rfl,hg,λj hj=>?_⟩⟩,_,_,rfl,by omega,by unfold UNK;omega⟩;unfold b8 Qq2;rw[LP,LD,LY hj,LX,La hj];rfl
section
variable {T:Qa->Prop} {L M:List Fm} (hT:∀H H',H.Wf->T H->Ext H H'->T H') (hO:∀op H,T H->Qh prog Kd [.int .i64 op] H λu H'=>QiS H H' u (L.filter λf=>f.op==op)) (hR:∀H,T H->Qh prog Wt [] H λu H'=>QiS H H' u M)
 (hAw:∀H,T H->Qh prog W9 [] H λu H'=>u=.bool true∧H'=H) (hM:∀f,f∈M↔f∈L) (hLs:∀f∈L,f.shapes.length=f.slots.length) (hDF:∀f∈M,DFm f)
include hT hO hR hAw hM hLs hDF
theorem QEe (x:Lf) (va:Value) (bs:List Int) (hby:Qnr bs) (H:Qa) (hTH:T H) (h1:ZA H x.sv x.f.shapes.length (ints x.f.shapes)) (h2:ZA H x.tv x.f.slots.length (ints x.f.slots)) (hb:ByC H va bs) (hxb:∀n,H.next<=n->Qs n 6 (.agg x.cells.toArray)=true):Qh prog ZX [.agg x.cells.toArray,va] H λu H'=>u=.bool true∧Ext H H':=by
 refine Qgj λhw=>?_;have ec:(Value.agg x.cells.toArray).cells.toList=x.cells:=rfl;have e10:x.cells.take 10=x.cells:=rfl;have l10:x.cells.length=10:=rfl;obtain⟨a1,k1,e1,_⟩:=id h1;obtain⟨a2,k2,e2,_⟩:=id h2;have x1:x.cells[1]? = some (.slice a1 x.f.shapes.length k1):=by rw[<- e1];rfl
 have x2:x.cells[2]? = some (.slice a2 x.f.slots.length k2):=by rw[<- e2];rfl
 obtain⟨_,ba,bcap,rfl,_⟩:=id hb;have hx0:=(Ext.refl H).push (.cells x.cells Qc false);have hw0:=hw.push (.cells x.cells Qc false);have g0:(H.push (.cells x.cells Qc false)).get H.next=some (.cells x.cells Qc false):=Qla _ _;simp only[Qae,ec,Qb,simprocAttr,Qp];generalize H.push (.cells x.cells Qc false)=H0 at *;have hT0:=hT _ _ hw hTH hx0;cases z1:decide ((bs.length:Int)>100) with
 | true=>
  simp only[Qb,simprocAttr,L8,g0,x1,x2,Qp];refine(hAw _ hT0).thenW ?_;rintro _ _ hn hw2 ⟨rfl,rfl⟩;simp only[Qb,simprocAttr,XU];exact .mk hx0.next ⟨rfl,hx0⟩
 | false=>
 simp only[Qb,simprocAttr,LM,g0,x1,x2,Qp];cases z2:decide ((9:Int)<(x.f.shapes.length:Int)) with
 | true=>
  simp only[Qb,simprocAttr,L8,g0,x1,x2,Qp];refine(hAw _ hT0).thenW ?_;rintro _ _ hn hw2 ⟨rfl,rfl⟩;simp only[Qb,simprocAttr,XU];exact .mk hx0.next ⟨rfl,hx0⟩
 | false=>
 simp only[Qb,simprocAttr,LM,g0,x1,x2,Qp];cases z3:decide ((x.f.slots.length:Int)>9) with
 | true=>
  simp only[Qb,simprocAttr,L8,g0,x1,x2,Qp];refine(hAw _ hT0).thenW ?_;rintro _ _ hn hw2 ⟨rfl,rfl⟩;simp only[Qb,simprocAttr,XU];exact .mk hx0.next ⟨rfl,hx0⟩
 | false=>
 have n1:bs.length<=100:=by have:=Ll z1;omega
 have n2:x.f.shapes.length<=9:=by have:=Ll z2;omega
 have n3:x.f.slots.length<=9:=by have:=Ll z3;omega
 have hx:x.At H:=⟨by omega,by omega,h1,h2⟩;have hz:∀z∈bs,0<=z∧z<256:=λz hz=>by have:=hby z hz;omega
 simp only[GO,Qb,simprocAttr,LM,g0];refine⟨hw0.lt g0,(Qo6 _ bs H0 (hb.1.ext hw hx0) (by omega)).thenW ?_⟩;rintro _ H1 hn1 hw1 ⟨bl,rfl,hbl,hx1,gl⟩;have g1:=(hx1.get _ (hw0.lt g0)).trans g0;have x01:=hx0.trans hx1;simp only[Qb,simprocAttr,g1,e10,l10];refine⟨hx1.eqB,hxb _ x01.next,(Qw4 x H1 (hx.ext hw x01)).thenW ?_⟩;rintro _ H2 hn2 hw2 ⟨y,rfl,hyf,hyA,hx2⟩;have ey:(Value.agg y.cells.toArray).cells.toList=y.cells:=rfl;have t10:y.cells.take 10=y.cells:=rfl;have yl10:y.cells.length=10:=rfl;have x02:=x01.trans hx2;have gl2:=(hx2.get _ (hw1.lt gl)).trans gl;have g2:=(hx2.get _ (hw1.lt g1)).trans g1;simp only[Qb,simprocAttr,ey,t10,yl10];refine⟨YI hyA,?_⟩;generalize hH3:Qa.set _ H2.next _=H3;have x23:Ext H2 H3:=by rw[<- hH3];exact((Ext.refl H2).push _).set (Lb _) _
 have w3:H3.Wf:=by rw[<- hH3];exact(hw2.push _).set (Qla _ _) _
 have gy3:H3.get H2.next=some (.cells y.cells Qc false):=by rw[<- hH3,Qm,Lc rfl]
 clear hH3;have x03:=x02.trans x23;have gl3:=(x23.get _ (hw2.lt gl2)).trans gl2;have g3:=(x23.get _ (hw2.lt g2)).trans g2;have yA3:=hyA.ext hw2 x23;have qp:=QIg hO hLs y (.slice (some ⟨bl,0,none⟩) bs.length (bs.length+3)) hT H3 (hT _ _ hw hTH x03) yA3 (QEd gl3 (by omega)).1 (by omega);refine qp.thenW ?_;rintro _ H4 hn4 hw4 ⟨hx4,v4,rfl,hv4,_⟩;obtain⟨va4,vc4,rfl,_⟩:=id hv4;have hr:byM bs x.f M=byM bs y.f L:=by
  unfold byM;rw[hyf]
  by_cases hm:x.f∈L
  ·rw[Lc hm,Lc ((hM _).2 hm)]
  ·rw[Le hm,Le λh=>hm ((hM _).1 h)]
 have x04:=x03.trans hx4;have gl4:=(hx4.get _ (w3.lt gl3)).trans gl3;have g4:=(hx4.get _ (w3.lt g3)).trans g3;have gy4:=(hx4.get _ (w3.lt gy3)).trans gy3;have yA4:=yA3.ext w3 hx4;have hlen:(byM bs y.f L).l.length<=5:=by unfold byM;split;exact QzP _ _;exact L7 _
 have hneg:(H.next=H4.next)=False:=by have:=hw4.lt g4;simp;omega
 simp only[Qb,simprocAttr,hneg,LN,g4,e10,l10];generalize hH5:Qa.set _ H4.next _=H5;have x45:Ext H4 H5:=by rw[<- hH5];exact((Ext.refl H4).push _).set (Lb _) _
 have w5:H5.Wf:=by rw[<- hH5];exact(hw4.push _).set (Qla _ _) _
 have gi5:H5.get H4.next=some (.cells [.int .i64 (byM bs y.f L).op,.slice va4 (byM bs y.f L).l.length vc4] Qd false):=by rw[<- hH5,Qm,Lc rfl]
 clear hH5;have x05:=x04.trans x45;have gl5:=(x45.get _ (hw4.lt gl4)).trans gl4;have g5:=(x45.get _ (hw4.lt g4)).trans g4;have gy5:=(x45.get _ (hw4.lt gy4)).trans gy4;have hv5:=hv4.ext hw4 x45;have qd:=QGm hR hDF (.slice ba bs.length bcap) hT x H5 (hT _ _ hw hTH x05) (hx.ext hw x05) (hb.ext hw x05) (by omega) hz;rw[hr]at qd;refine qd.thenW ?_;rintro _ H6 hn6 hw6 ⟨hx6,v6,rfl,hv6,_⟩;obtain⟨va6,vc6,rfl,_⟩:=id hv6;have x06:=x05.trans hx6;have gl6:=(hx6.get _ (w5.lt gl5)).trans gl5;have g6:=(hx6.get _ (w5.lt g5)).trans g5;have gy6:=(hx6.get _ (w5.lt gy5)).trans gy5;have gi6:=(hx6.get _ (w5.lt gi5)).trans gi5;have hv56:=hv5.ext w5 hx6;have yA6:=(yA4.ext hw4 x45).ext w5 hx6;generalize byM bs y.f L=d at *;have hne6:(H4.next=H6.next)=False:=by have:=hw6.lt gi6;simp;omega
 simp only[Qb,simprocAttr,hne6,LN,gi6];generalize hH7:Qa.set _ H6.next _=H7;have x67:Ext H6 H7:=by rw[<- hH7];exact((Ext.refl H6).push _).set (Lb _) _
 have w7:H7.Wf:=by rw[<- hH7];exact(hw6.push _).set (Qla _ _) _
 have gj7:H7.get H6.next=some (.cells [.int .i64 d.op,.slice va6 d.l.length vc6] Qd false):=by rw[<- hH7,Qm,Lc rfl]
 clear hH7;have x07:=x06.trans x67;have gl7:=(x67.get _ (hw6.lt gl6)).trans gl6;have g7:=(x67.get _ (hw6.lt g6)).trans g6;have gy7:=(x67.get _ (hw6.lt gy6)).trans gy6;have gi7:=(x67.get _ (hw6.lt gi6)).trans gi6;have hv57:=hv56.ext hw6 x67;have hv67:=hv6.ext hw6 x67;refine(Qxl d.op d.op _ _ d.l d.l H7 hv57 hv67 (by omega) (by omega)).thenW ?_;rintro _ H8 hn8 hw8 ⟨rfl,k8,rfl⟩;have x78:Ext H7 (H7.up k8):=(Ext.refl H7).up (show _<=k8 from hn8);have gl8:=(x78.get _ (w7.lt gl7)).trans gl7;have g8:=(x78.get _ (w7.lt g7)).trans g7;have gy8:=(x78.get _ (w7.lt gy7)).trans gy7;have x08:=x07.trans x78;have yA8:=((yA6.ext hw6 x67)).ext w7 x78;generalize H7.up k8=H8 at *;have b1:((d.op==d.op)&&decide True)=true:=by rw[LO];rfl
 have b2:(d.n==d.n)=true:=LO _;have b3:(d.e==d.e)=true:=LO _;simp only[Qb,simprocAttr,b1,b2,b3];refine(Qvg _ bs H8 (hb.1.ext hw x08) (by omega) gl8).thenW ?_;rintro _ H9 hn9 hw9 ⟨rfl,x89⟩;have g9:=(x89.get _ (hw8.lt g8)).trans g8;have gy9:=(x89.get _ (hw8.lt gy8)).trans gy8;have x09:=x08.trans x89;have yA9:=yA8.ext hw8 x89;simp only[Qb,simprocAttr,g9,gy9,e10,l10,t10,yl10];refine(Qrf y x H9 yA9 (hx.ext hw x09)).thenW ?_;rintro _ Hx hnx hwx ⟨rfl,kx,rfl⟩;have x9x:Ext H9 (H9.up kx):=(Ext.refl H9).up (show _<=kx from hnx);have x0x:=x09.trans x9x;have bs1:Qe5 y.f x.f=true:=by rw[QCg,hyf];exact Lp rfl
 generalize H9.up kx=Hy at *;simp only[Qb,simprocAttr,bs1];refine(hAw Hy (hT _ _ hw hTH x0x)).thenW ?_;rintro _ _ hnz hwz ⟨rfl,rfl⟩;simp only[Qb,simprocAttr,XU];exact .mk x0x.next ⟨rfl,x0x⟩
end
def OvW (H0 H:Qa) (v:Value) (l:List Ar):Prop:=(l=[]∧∃a c,v=.slice a 0 c)∨∃b cap,v=.slice (some ⟨b,0,none⟩) l.length cap∧H0.next<=b∧b<H.next∧(0<l.length->H.get b=some (.cells (Qr l) Qe false))
theorem OvW.ars {H0 H:Qa} {v:Value} {l:List Ar} (h:OvW H0 H v l):XJ H v l:=by
 rcases h with⟨rfl,a,c,rfl⟩ | ⟨b,c,rfl,_,_,h⟩
 ·exact⟨a,c,rfl,λh=>absurd h (NX 0)⟩
 ·exact⟨_,_,rfl,λhl=>⟨b,_,_,rfl,h hl⟩⟩
theorem OvW.go {H0 H H':Qa} {v:Value} {l:List Ar} (h:OvW H0 H v l) (hx:Ext H H'):OvW H0 H' v l:=by
 rcases h with h | ⟨b,c,rfl,h1,h2,h3⟩
 ·exact .inl h
 ·exact .inr ⟨b,c,rfl,h1,by have:=hx.next;omega,λhl=>by rw[hx.get b h2];exact h3 hl⟩
section
variable {T:Qa->Prop} {L M:List Fm} (hT:∀H H',H.Wf->T H->Ext H H'->T H') (hR:∀H,T H->Qh prog Wt [] H λu H'=>QiS H H' u M)
 (hRt:∀H,T H->Qh prog XL [] H λu H'=>QiS H H' u L) (hty:QsH Yc)
 (hAw:∀H,T H->Qh prog W9 [] H λu H'=>u=.bool true∧H'=H) (hM:∀f,f∈M↔f∈L) (hfit:∀f∈L,QH6 f=true) (hap:∀ (i k:Nat) (a b:Fm),L[i]? = some a->L[k]? = some b->QsI a b=decide (i=k)) (hDF:∀f∈M,DFm f)
include hT hR hRt hty hAw hM hfit hap hDF
end
def dfB (f:Fm):Bool:=
 let s:=f.shapes.getD (QC f.slots 2).toNat 0
 Nat.beq f.shapes.length f.slots.length&&(decide (0<=f.pre)&&decide (f.pre<=5))&&(decide (0<=f.map)&&decide (f.map<=3))&&(decide (0<=f.code)&&decide (f.code<=255)) &&
  (decide (QC f.slots 2<0)||(decide (1<=s)&&decide (s<=19))||s==34)&&(decide (QC f.slots 4<0)||f.code % 8==0) &&
  (!f.vex||(decide (1<=f.map)&&(f.pre==0||f.pre==1||f.pre==2||f.pre==4)&&(f.w==-1||f.w==0||f.w==1)))&&(f.vex||(f.w==0||f.w==1))&&d2F f
theorem QGr {f:Fm} (h:dfB f=true):DFm f:=by
 unfold dfB at h;simp only[Lm,Nw,Lv,L0,Lr]at h;obtain⟨⟨⟨⟨⟨⟨⟨⟨h1,h2⟩,h3⟩,h4⟩,h5⟩,h6⟩,h7⟩,h8⟩,h9⟩:=h;refine⟨⟨LA h1,h2,h3,h4,λhi=>?_,λhi=>?_,λhv=>?_,λhv=>?_⟩,h9⟩
 ·rcases h5 with(h | h) | h
  ·omega
  ·exact .inl h
  ·exact .inr h
 ·rcases h6 with h | h
  ·omega
  ·exact h
 ·rcases h7 with h | ⟨⟨h,h'⟩,h''⟩
  ·rw[hv]at h;cases h
  ·exact⟨h,by omega,by omega⟩
 ·rcases h8 with h | h
  ·rw[hv]at h;cases h
  ·exact h
end Go.Proofs.YtfofbicfabokbaaGreatDoor.code
