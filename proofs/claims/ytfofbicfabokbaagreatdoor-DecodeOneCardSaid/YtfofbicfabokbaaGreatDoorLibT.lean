/- The prefixes, read one behind the other, are the bytes ahead of the opcode. -/
import Derived.Test.YtfofbicfabokbaaGreatDoorLibR
import Derived.Test.YtfofbicfabokbaaGreatDoorLibA
import Derived.Test.YtfofbicfabokbaaGreatDoorLibI
import Derived.Test.YtfofbicfabokbaaGreatDoorC6One
set_option linter.unusedVariables false
set_option linter.unusedSimpArgs false
set_option maxRecDepth 100000
set_option maxHeartbeats 4000000
namespace Go.Proofs.YtfofbicfabokbaaGreatDoor.code
open Go.Ab
def QR (left:Int):List UInt8:=(if hit left 0=true then[102] else[])++((if hit left 1=true then[242] else[])++(if hit left 2=true then[243] else[]))
theorem QfZ (bs:List Int) (b:UInt8) (n:Int) (hb:(b.toNat:Int)=n) (l:List UInt8) (c:Rr):K6 bs (b::l) c=if((We bs c n).1==0)=true then K6 bs l (We bs c n).2 else We bs c n:=by
 subst hb
 rfl
theorem Qfk (bs:List Int):∀ (n:Nat) (left:Int) (c:Rr),cnt left≤n→Qen bs n left c=K6 bs (QR left) c
 | 0,left,c,h=>by
  have h0:hit left 0=false:=by unfold cnt at h;cases e:hit left 0<;>simp[e]at h ⊢
  have h1:hit left 1=false:=by unfold cnt at h;cases e:hit left 1<;>simp[e]at h ⊢
  have h2:hit left 2=false:=by unfold cnt at h;cases e:hit left 2<;>simp[e]at h ⊢
  unfold QR
  rw[h0,h1,h2]
  rfl
 | n+1,left,c,h=>by
  cases e0:hit left 0 with
  | true=>
   have hc:=Qhp left 0 (by omega) e0
   have hp:QR left=102::QR (Qfb left (W6 0)):=by
    unfold QR
    rw[Jh left 0 0 (by omega) (by omega),Jh left 0 1 (by omega) (by omega),Jh left 0 2 (by omega) (by omega),e0]
    simp
   rw[Qfc bs n left c 0 (by omega) (fun j hj=>by omega) e0,hp,QfZ bs 102 (Zr 0) rfl,Qfk bs n _ _ (by omega)]
  | false=>
   cases e1:hit left 1 with
   | true=>
    have hc:=Qhp left 1 (by omega) e1
    have hp:QR left=242::QR (Qfb left (W6 1)):=by
     unfold QR
     rw[Jh left 1 0 (by omega) (by omega),Jh left 1 1 (by omega) (by omega),Jh left 1 2 (by omega) (by omega),e0,e1]
     simp[e0]
    rw[Qfc bs n left c 1 (by omega) (fun j hj=>by rw[show j=0 by omega];exact e0) e1,hp,QfZ bs 242 (Zr 1) rfl,Qfk bs n _ _ (by omega)]
   | false=>
    cases e2:hit left 2 with
    | true=>
     have hc:=Qhp left 2 (by omega) e2
     have hp:QR left=243::QR (Qfb left (W6 2)):=by
      unfold QR
      rw[Jh left 2 0 (by omega) (by omega),Jh left 2 1 (by omega) (by omega),Jh left 2 2 (by omega) (by omega),e0,e1,e2]
      simp[e0,e1]
     rw[Qfc bs n left c 2 (by omega) (fun j hj=>by rcases(show j=0∨j=1 by omega) with rfl | rfl<;>assumption) e2,hp,QfZ bs 243 (Zr 2) rfl,Qfk bs n _ _ (by omega)]
    | false=>
     rw[Qj3 bs (n+1) left c (fun j hj=>by rcases(show j=0∨j=1∨j=2 by omega) with rfl | rfl | rfl<;>assumption)]
     unfold QR
     rw[e0,e1,e2]
     rfl
theorem QiH (bs:List Int) (c:Rr):Ki bs c=QdQ bs (K6 bs (QR c.x.f.pre) c):=by
 unfold Ki
 rw[Qfk bs 4 _ _ (Nat.le_trans (Qsf _) (by omega))]
theorem Qdc {bs:List Int} {c:Rr} {n:Int} (hl:bs.length≤1000000) (h:InB bs c.p) (h0:(We bs c n).1=0):c.p<bs.length∧QJ bs c.p=n∧(We bs c n).2={c with p:=c.p+1}:=by
 unfold InB at h
 have e:We bs c n=((Qb0 bs c.p n).1,{c with p:=(Qb0 bs c.p n).2}):=rfl
 rw[e]at h0 ⊢
 simp only at h0
 unfold Qb0 at h0 ⊢
 by_cases h1:(bs.length:Int)≤c.p
 ·rw[if_pos h1]at h0;cases h0
 ·rw[if_neg h1]at h0 ⊢
  by_cases h2:(IntKind.i64.wrap (bs.getD c.p.toNat 0)==n)=false
  ·rw[if_pos h2]at h0;cases h0
  ·rw[if_neg h2]
   refine⟨by omega,?_,?_⟩
   ·simpa[QJ] using h2
   ·simp only
    rw[w64 (by unfold I64;omega)]
theorem Qfl {bs:List Int} (hl:bs.length≤1000000):∀ (l:List UInt8) (c:Rr),InB bs c.p→(K6 bs l c).1=0→(K6 bs l c).2={c with p:=c.p+l.length}∧c.p+l.length≤bs.length∧∀j (h:j<l.length),QJ bs (c.p+j)=l[j].toNat
 | [],c,h,h0=>⟨by show c=_;simp,by simp;exact h.2,fun j hj=>absurd hj (Nat.not_lt_zero _)⟩
 | n::l,c,h,h0=>by
  have e:K6 bs (n::l) c=if((We bs c n.toNat).1==0)=true then K6 bs l (We bs c n.toNat).2 else We bs c n.toNat:=rfl
  rw[e]at h0 ⊢
  by_cases z:((We bs c n.toNat).1==0)=true
  ·rw[if_pos z]at h0 ⊢
   obtain⟨h1,h2,h3⟩:=Qdc hl h (by simpa using z)
   rw[h3]at h0 ⊢
   have h':InB bs (c.p+1):=by unfold InB at *;omega
   obtain⟨k1,k2,k3⟩:=Qfl hl l {c with p:=c.p+1} h' h0
   refine⟨?_,?_,?_⟩
   ·rw[k1]
    simp only[List.length_cons]
    congr 1
    omega
   ·simp only[List.length_cons]at k2 ⊢
    omega
   ·intro j hj
    cases j with
    | zero=>simpa using h2
    | succ j=>
     have:=k3 j (by simpa using hj)
     simp only at this
     rw[show c.p+((j+1:Nat):Int)=c.p+1+j by omega,this]
     rfl
  ·rw[if_neg z]at h0
   exfalso
   rw[h0]at z
   exact z rfl
theorem Zh (f:Fm):Qh f=QR f.pre++WL f.map:=by
 have e:∀i,hit f.pre i=Qfa f.pre (W6 i):=fun _=>rfl
 unfold Qh QR
 rw[e 0,e 1,e 2]
 show(bif Qfa f.pre 1 then[102] else[])++_=((if Qfa f.pre 1=true then[102] else[])++((if Qfa f.pre 2=true then[242] else[])++(if Qfa f.pre 4=true then[243] else[])))++_
 cases Qfa f.pre 1<;>cases Qfa f.pre 2<;>cases Qfa f.pre 4<;>simp
def QdV (bs:List Int) (p:Int):Bool:=decide (64≤QJ bs p)&&decide (QJ bs p≤79)
theorem Qpy {bs:List Int} {c:Rr} (hl:bs.length≤1000000) (h:InB bs c.p) (h0:(Zg bs c).1=0):c.p<bs.length∧(Zg bs c).2.x=c.x∧(Zg bs c).2.p=c.p+(if QdV bs c.p=true then 1 else 0):=by
 unfold InB at h
 have e:Zg bs c=if(bs.length:Int)≤c.p then(9,c)
  else if(decide (64≤QJ bs c.p)&&decide (QJ bs c.p≤79))=true then X3 (Qmv c (QJ bs c.p - 64).toNat) (Kg (QJ bs c.p - 64).toNat 4 3) else X3 c 0:=rfl
 rw[e]at h0 ⊢
 by_cases h1:(bs.length:Int)≤c.p
 ·rw[if_pos h1]at h0;cases h0
 ·rw[if_neg h1]at h0 ⊢
  refine⟨by omega,?_⟩
  unfold QdV
  by_cases h2:(decide (64≤QJ bs c.p)&&decide (QJ bs c.p≤79))=true
  ·rw[if_pos h2,if_pos h2,QcP]
   refine⟨rfl,?_⟩
   show IntKind.i64.wrap (c.p+1)=c.p+1
   rw[w64 (by unfold I64;omega)]
  ·rw[if_neg h2,if_neg h2,QcP]
   exact⟨rfl,by omega⟩
theorem Qlg {bs:List Int} {c:Rr} (hl:bs.length≤1000000) (h:InB bs c.p) (h0:(Ki bs c).1=0):
  (∀j (hj:j<(QR c.x.f.pre).length),QJ bs (c.p+j)=(QR c.x.f.pre)[j].toNat)∧c.p+(QR c.x.f.pre).length<bs.length∧
  ∃q:Int,q=c.p+(QR c.x.f.pre).length+(if QdV bs (c.p+(QR c.x.f.pre).length)=true then 1 else 0)∧
   (∀j (hj:j<(WL c.x.f.map).length),QJ bs (q+j)=(WL c.x.f.map)[j].toNat)∧q+(WL c.x.f.map).length≤bs.length∧(Ki bs c).2.p=q+(WL c.x.f.map).length∧(Ki bs c).2.x=c.x:=by
 rw[QiH]at h0 ⊢
 unfold QdQ at h0 ⊢
 generalize QR c.x.f.pre=pl at *
 by_cases z1:((K6 bs pl c).1==0)=true
 ·rw[if_pos z1]at h0 ⊢
  obtain⟨a1,a2,a3⟩:=Qfl hl pl c h (by simpa using z1)
  rw[a1]at h0 ⊢
  have hi1:InB bs (c.p+pl.length):=by unfold InB at *;omega
  unfold QdP at h0 ⊢
  by_cases z2:((Zg bs {c with p:=c.p+pl.length}).1==0)=true
  ·rw[if_pos z2]at h0 ⊢
   obtain⟨b1,b2,b3⟩:=Qpy (c:={c with p:=c.p+pl.length}) hl hi1 (by simpa using z2)
   have hk:=QkY (bs:=bs) (c:={c with p:=c.p+pl.length}) hi1 hl
   generalize Zg bs {c with p:=c.p+pl.length}=x at *
   simp only at b1 b2 b3
   rw[b2]at h0 ⊢
   obtain⟨d1,d2,d3⟩:=Qfl hl _ x.2 hk h0
   refine⟨a3,b1,x.2.p,b3,d3,d2,?_,?_⟩
   ·rw[d1]
   ·rw[d1];exact b2
  ·rw[if_neg z2]at h0
   rw[h0]at z2
   exact absurd rfl z2
 ·rw[if_neg z1]at h0
  rw[h0]at z1
  exact absurd rfl z1
def Qj9 (n:Nat):Bool:=(IntKind.i64.wrap (IntKind.u8.wrap (BitVec.ofInt IntKind.u8.bits (n:Int) &&& BitVec.ofInt IntKind.u8.bits 7).toNat)==((n % 8:Nat):Int))&&(Quc (n:Int)==((n - n % 8:Nat):Int))&&(IntKind.i64.wrap (n:Int)==(n:Int))&&(WM (n:Int)==(decide (64≤n)&&decide (n≤79)))
theorem QqR:(List.range 256).all Qj9=true:=by kernel_rfl
theorem Qfm {n:Nat} (h:n<256):Qj9 n=true:=List.all_eq_true.1 QqR n (List.mem_range.2 h)
def YM (bs:List Int):Prop:=∀b∈bs,0≤b∧b≤255
theorem YM.at {bs:List Int} (hb:YM bs) {p:Int} (h0:0≤p) (h:p<bs.length):∃n:Nat,n<256∧bs[p.toNat]? = some (n:Int)∧bs.getD p.toNat 0=n∧QJ bs p=n:=by
 have hk:p.toNat<bs.length:=by omega
 obtain⟨h1,h2⟩:=hb _ (List.getElem_mem hk)
 obtain⟨n,hn⟩:∃n:Nat,bs[p.toNat]=(n:Int):=⟨bs[p.toNat].toNat,by omega⟩
 have hlt:n<256:=by omega
 have hg:bs.getD p.toNat 0=n:=by rw[List.getD_eq_getElem?_getD,List.getElem?_eq_getElem hk,hn];rfl
 have ht:=Qfm hlt
 unfold Qj9 at ht
 simp only[Bool.and_eq_true,beq_iff_eq]at ht
 exact⟨n,hlt,by rw[List.getElem?_eq_getElem hk,hn],hg,by unfold QJ;rw[hg];exact ht.1.2⟩
def JH (f:Fm) (c:Int):Bool:=bif decide (0≤QZ f.slots 4) then Quc c==f.code else IntKind.i64.wrap c==f.code
theorem QoE {bs:List Int} {c:Rr} (hl:bs.length≤1000000) (hb:YM bs) (hc:I64 c.x.f.code) (h:InB bs c.p) (h0:(opF bs c).1=0):c.p<bs.length∧JH c.x.f (bs.getD c.p.toNat 0)=true:=by
 have e:opF bs c=if(decide (QZ c.x.f.slots 4<0))=true then We bs c c.x.f.code
  else if(bs.length:Int)≤c.p then(9,c) else We bs {c with low:=Qbh bs c.p} (IntKind.i64.wrap (c.x.f.code+Qbh bs c.p)):=rfl
 rw[e]at h0
 unfold JH
 generalize QZ c.x.f.slots 4=i4 at *
 by_cases z:decide (i4<0)=true
 ·rw[if_pos z]at h0
  obtain⟨a1,a2,_⟩:=Qdc hl h h0
  have z':decide (0≤i4)=false:=by simp at z ⊢;omega
  refine⟨a1,?_⟩
  rw[z',cond_false]
  simpa[QJ] using a2
 ·rw[if_neg z]at h0
  have z':decide (0≤i4)=true:=by simp at z ⊢;omega
  by_cases g:(bs.length:Int)≤c.p
  ·rw[if_pos g]at h0;cases h0
  ·rw[if_neg g]at h0
   obtain⟨a1,a2,_⟩:=Qdc (c:={c with low:=Qbh bs c.p}) hl h h0
   obtain⟨n,hn,hn1,hn2,hn3⟩:=hb.at h.1 (by omega)
   have ht:=Qfm hn
   unfold Qj9 at ht
   simp only[Bool.and_eq_true,beq_iff_eq]at ht
   have hlow:Qbh bs c.p=((n % 8:Nat):Int):=by unfold Qbh;rw[hn2];exact ht.1.1.1
   simp only at a2
   rw[hn3,hlow]at a2
   refine⟨a1,?_⟩
   rw[z',cond_true,hn2,ht.1.1.2,beq_iff_eq]
   rw[IntKind.wrap_i64]at a2
   unfold I64 at hc
   omega
def stp (f:Fm) (c:Int):List Int:=(Qh f).map (fun b=>(b.toNat:Int))++[c]
def Zi (f:Fm) (l:List UInt8):Bool:=l.take (Qh f).length==Qh f&&decide ((Qh f).length<l.length)&&JH f ((l.getD (Qh f).length 0).toNat:Int)
section
variable {L:List Fm} {f:Fm} {c:Int} {leads:List (List UInt8)}
theorem VU:(stp f c).length=(Qh f).length+1:=by unfold stp;simp
theorem QqS (hv:f.vex=false) (hc:JH f c=true) {j:Nat} (hj:j≤(Qh f).length):Q0 f j ((stp f c).getD j 0)=true:=by
 unfold Q0 stp
 rw[hv,cond_false]
 by_cases h:j<(Qh f).length
 ·rw[List.getElem?_eq_getElem h,List.getD_eq_getElem?_getD,List.getElem?_append_left (by simpa using h),List.getElem?_map,List.getElem?_eq_getElem h]
  simp
 ·obtain rfl:j=(Qh f).length:=by omega
  rw[List.getElem?_eq_none (Nat.le_refl _),List.getD_eq_getElem?_getD,List.getElem?_append_right (by simp)]
  have:Nat.blt (Qh f).length (Qh f).length=false:=by
   cases h':Nat.blt (Qh f).length (Qh f).length with
   | false=>rfl
   | true=>have:=Nat.le_of_ble_eq_true h';omega
  simp only[this,List.length_map,Nat.sub_self,List.getElem?_cons_zero,Option.getD_some,cond_false]
  exact hc
structure Qg4 (L:List Fm) (f:Fm) (c:Int) (d:Nat) (L':List Fm):Prop where
 mem:f∈L'
 sub:∀g∈L',g∈L
 tk:∀g∈L',∀j,j<d→Q0 g j ((stp f c).getD j 0)=true
theorem Qg4.next (hv:f.vex=false) (hc:JH f c=true) {d:Nat} {L':List Fm} (h:Qg4 L f c d L') (hd:d≤(Qh f).length):Qg4 L f c (d+1) (L'.filter fun g=>Q0 g d ((stp f c).getD d 0)):=
 ⟨List.mem_filter.2 ⟨h.mem,QqS hv hc hd⟩,fun g hg=>h.sub g (List.mem_filter.1 hg).1,fun g hg j hj=>by
  by_cases e:j=d
  ·rw[e];exact(List.mem_filter.1 hg).2
  ·exact h.tk g (List.mem_filter.1 hg).1 j (by omega)⟩
theorem Qg4.shut (hc:JH f c=true) (hLd:∀g∈L,g.vex=false→Qh g∈leads) (hno:∀l∈leads,Zi f l=false) {L':List Fm} (h:Qg4 L f c ((Qh f).length+1) L'):YL ((Qh f).length+1) L'=false:=by
 cases L' with
 | nil=>rfl
 | cons g l=>
  have hg:=List.mem_cons_self (a:=g) (l:=l)
  show(bif g.vex then(Qh f).length+1==0 else Nat.ble ((Qh f).length+1) (Qh g).length)=false
  cases hgv:g.vex with
  | true=>rfl
  | false=>
   rw[cond_false]
   cases hle:Nat.ble ((Qh f).length+1) (Qh g).length with
   | false=>rfl
   | true=>
    exfalso
    have hlen:(Qh f).length<(Qh g).length:=by
     have:=Nat.le_of_ble_eq_true hle
     omega
    have tj:∀j (hj:j<(Qh g).length),j≤(Qh f).length→(stp f c).getD j 0=((Qh g)[j].toNat:Int):=fun j hj hj2=>by
     have:=h.tk g hg j (by omega)
     unfold Q0 at this
     rw[hgv,cond_false,List.getElem?_eq_getElem hj]at this
     simpa using this
    have hn:=hno _ (hLd g (h.sub g hg) hgv)
    have t1:(Qh g).take (Qh f).length=Qh f:=by
     refine List.ext_getElem (by rw[List.length_take];omega) fun j h1 h2=>?_
     have:=tj j (by omega) (by omega)
     rw[List.getElem_take]
     have e:(stp f c).getD j 0=((Qh f)[j].toNat:Int):=by
      unfold stp
      rw[List.getD_eq_getElem?_getD,List.getElem?_append_left (by simpa using h2),List.getElem?_map,List.getElem?_eq_getElem h2]
      rfl
     rw[e]at this
     have h3:(Qh f)[j].toNat=(Qh g)[j].toNat:=by omega
     exact(UInt8.toNat_inj.1 h3).symm
    have t2:(((Qh g).getD (Qh f).length 0).toNat:Int)=c:=by
     have:=tj (Qh f).length hlen (Nat.le_refl _)
     have e:(stp f c).getD (Qh f).length 0=c:=by
      unfold stp
      rw[List.getD_eq_getElem?_getD,List.getElem?_append_right (by simp)]
      simp
     rw[e]at this
     rw[List.getD_eq_getElem?_getD,List.getElem?_eq_getElem hlen,Option.getD_some,this]
    unfold Zi at hn
    rw[t1,t2,hc]at hn
    simp[hlen]at hn
theorem QsJ (hv:f.vex=false) (hc:JH f c=true) (hLd:∀g∈L,g.vex=false→Qh g∈leads) (hno:∀l∈leads,Zi f l=false):∀ (n d:Nat) (rest:List Int) (L':List Fm),n+d=(Qh f).length+1→Qg4 L f c d L'→f∈QV ((stp f c).drop d++rest) false d L'
 | 0,d,rest,L',h,hL=>by
  obtain rfl:d=(Qh f).length+1:=by omega
  rw[List.drop_of_length_le (by rw[VU];exact Nat.le_refl _),List.nil_append]
  cases rest with
  | nil=>exact hL.mem
  | cons x r=>
   show f∈bif YL ((Qh f).length+1) L' then _ else L'
   rw[hL.shut hc hLd hno]
   exact hL.mem
 | n+1,d,rest,L',h,hL=>by
  have hd:d<(stp f c).length:=by rw[VU];omega
  rw[List.drop_eq_getElem_cons hd,List.cons_append]
  show f∈bif YL d L' then(bif false&&WM (stp f c)[d] then _ else QV ((stp f c).drop (d+1)++rest) (false&&_) (d+1) (L'.filter fun f'=>Q0 f' d (stp f c)[d])) else L'
  cases YL d L' with
  | false=>exact hL.mem
  | true=>
   have e:(stp f c)[d]=(stp f c).getD d 0:=by rw[List.getD_eq_getElem?_getD,List.getElem?_eq_getElem hd];rfl
   rw[Bool.false_and,Bool.false_and,cond_true,cond_false,e]
   exact QsJ hv hc hLd hno n (d+1) rest _ (by omega) (hL.next hv hc (by omega))
theorem QuA (hc:JH f c=true) (hLd:∀g∈L,g.vex=false→Qh g∈leads) (hno:∀l∈leads,Zi f l=false) {L':List Fm} (hL:Qg4 L f c ((Qh f).length+1) L'):∀ (cs:List Int) (ah:Bool),f∈QV cs ah ((Qh f).length+1) L'
 | [],_=>hL.mem
 | x::r,ah=>by
  show f∈bif YL ((Qh f).length+1) L' then _ else L'
  rw[hL.shut hc hLd hno]
  exact hL.mem
theorem QuB (hv:f.vex=false) (hc:JH f c=true) (hLd:∀g∈L,g.vex=false→Qh g∈leads) (hno:∀l∈leads,Zi f l=false) {k:Nat} (hk:k≤(Qh f).length) {r:Int} (hr:WM r=true) (rest:List Int) {L':List Fm} (hL:Qg4 L f c k L'):f∈QV (r::((stp f c).drop k++rest)) true k L':=by
 show f∈bif YL k L' then(bif true&&WM r then QV ((stp f c).drop k++rest) false k L' else _) else L'
 rw[hr]
 cases YL k L' with
 | false=>exact hL.mem
 | true=>exact QsJ hv hc hLd hno ((Qh f).length+1 - k) k rest L' (by omega) hL
theorem Qwk (hv:f.vex=false) (hc:JH f c=true) (hLd:∀g∈L,g.vex=false→Qh g∈leads) (hno:∀l∈leads,Zi f l=false) {k:Nat} (hk:k≤(Qh f).length) (hr:WM ((stp f c).getD k 0)=false) (h15:k<(Qh f).length→(stp f c).getD k 0=15) (rest:List Int) {L':List Fm} (hL:Qg4 L f c k L'):f∈QV ((stp f c).drop k++rest) true k L':=by
 have hd:k<(stp f c).length:=by rw[VU];omega
 have e:(stp f c)[k]=(stp f c).getD k 0:=by rw[List.getD_eq_getElem?_getD,List.getElem?_eq_getElem hd];rfl
 rw[List.drop_eq_getElem_cons hd,List.cons_append,e]
 show f∈bif YL k L' then(bif true&&WM ((stp f c).getD k 0) then _ else QV ((stp f c).drop (k+1)++rest) (true&&((((stp f c).getD k 0)==102)||(((stp f c).getD k 0)==242)||(((stp f c).getD k 0)==243))) (k+1) (L'.filter fun f'=>Q0 f' k ((stp f c).getD k 0))) else L'
 rw[hr]
 cases YL k L' with
 | false=>exact hL.mem
 | true=>
  have hn:=hL.next hv hc hk
  rw[Bool.and_false,cond_true,cond_false]
  by_cases hlt:k<(Qh f).length
  ·rw[h15 hlt]at hn ⊢
   exact QsJ hv hc hLd hno ((Qh f).length - k) (k+1) rest _ (by omega) hn
  ·obtain rfl:k=(Qh f).length:=by omega
   exact QuA hc hLd hno hn _ _
theorem Qpz (hv:f.vex=false) (hc:JH f c=true) {k:Nat} (hk:k≤(Qh f).length) (hp:∀j,j<k→WM ((stp f c).getD j 0)=false∧((((stp f c).getD j 0)==102)||(((stp f c).getD j 0)==242)||(((stp f c).getD j 0)==243))=true) (tl:List Int) (htl:∀L',Qg4 L f c k L'→f∈QV tl true k L'):
  ∀ (n d:Nat) (L':List Fm),n+d=k→Qg4 L f c d L'→f∈QV (((stp f c).take k).drop d++tl) true d L'
 | 0,d,L',h,hL=>by
  obtain rfl:d=k:=by omega
  rw[List.drop_of_length_le (by rw[List.length_take];omega),List.nil_append]
  exact htl L' hL
 | n+1,d,L',h,hL=>by
  have hl:d<((stp f c).take k).length:=by rw[List.length_take,VU];omega
  have hd:d<(stp f c).length:=by rw[VU];omega
  have e:((stp f c).take k)[d]=(stp f c).getD d 0:=by rw[List.getElem_take,List.getD_eq_getElem?_getD,List.getElem?_eq_getElem hd];rfl
  obtain⟨p1,p2⟩:=hp d (by omega)
  rw[List.drop_eq_getElem_cons hl,List.cons_append,e]
  show f∈bif YL d L' then(bif true&&WM ((stp f c).getD d 0) then _ else QV (((stp f c).take k).drop (d+1)++tl) (true&&((((stp f c).getD d 0)==102)||(((stp f c).getD d 0)==242)||(((stp f c).getD d 0)==243))) (d+1) (L'.filter fun f'=>Q0 f' d ((stp f c).getD d 0))) else L'
  rw[p1,p2]
  cases YL d L' with
  | false=>exact hL.mem
  | true=>
   rw[Bool.and_false,cond_true,cond_false,Bool.and_true]
   exact Qpz hv hc hk hp tl htl n (d+1) _ (by omega) (hL.next hv hc (by omega))
end
theorem QiI {bs:List Int} {f:Fm} (h:(QA bs f).e=0):∃c0:Rr,c0.x.f=f∧c0.p=0∧(Wj bs c0).1=0∧(opF bs (Wj bs c0).2).1=0∧(Qb1 bs (opF bs (Wj bs c0).2).2).1=0:=by
 obtain⟨c0,hc0⟩:∃c0,c0=rd0 ⟨f,.slice none 0 0,.slice none 0 0⟩ (.slice none 0 0):=⟨_,rfl⟩
 have e:QA bs f=bif (rdM bs c0).1==0 then Qg1 bs (rdM bs c0).2 else Qab (rdM bs c0).1:=by rw[hc0];rfl
 refine⟨c0,by rw[hc0];rfl,by rw[hc0];rfl,?_⟩
 rw[e]at h
 have eM:rdM bs c0=bif (rdO bs c0).1==0 then Qb1 bs (rdO bs c0).2 else rdO bs c0:=rfl
 have eO:rdO bs c0=bif (Wj bs c0).1==0 then opF bs (Wj bs c0).2 else Wj bs c0:=rfl
 have zM:(rdM bs c0).1=0:=by
  cases z:(rdM bs c0).1==0 with
  | true=>simpa using z
  | false=>rw[z]at h;exact h
 have zO:(rdO bs c0).1=0:=by
  cases z:(rdO bs c0).1==0 with
  | true=>simpa using z
  | false=>rw[eM,z]at zM;exact zM
 have zH:(Wj bs c0).1=0:=by
  cases z:(Wj bs c0).1==0 with
  | true=>simpa using z
  | false=>rw[eO,z]at zO;exact zO
 have z1:((Wj bs c0).1==0)=true:=by rw[zH];rfl
 rw[z1,cond_true]at eO
 rw[eO]at zO eM
 have z2:((opF bs (Wj bs c0).2).1==0)=true:=by rw[zO];rfl
 rw[z2,cond_true]at eM
 rw[eM]at zM
 exact⟨zH,zO,zM⟩
theorem seg {bs:List Int} (hb:YM bs):∀ (l:List UInt8) (p:Nat),(∀j (hj:j<l.length),QJ bs ((p:Int)+j)=l[j].toNat)→p+l.length≤bs.length→bs.drop p=l.map (fun b=>(b.toNat:Int))++bs.drop (p+l.length)
 | [],p,_,_=>by simp
 | b::l,p,h,hl=>by
  simp only[List.length_cons]at hl
  have hp:p<bs.length:=by omega
  obtain⟨n,hn,h1,h2,h3⟩:=hb.at (p:=(p:Int)) (by omega) (by omega)
  have h0:=h 0 (by simp)
  simp only[Int.toNat_natCast]at h1
  rw[show((p:Int)+(0:Nat))=p by omega,h3]at h0
  rw[List.drop_eq_getElem_cons hp,List.map_cons,List.cons_append]
  rw[List.getElem?_eq_getElem hp]at h1
  have e1:bs[p]=(b.toNat:Int):=by
   have:=Option.some.inj h1
   rw[this,h0]
   rfl
  have ih:=seg hb l (p+1) (fun j hj=>by
   have:=h (j+1) (by simpa using hj)
   rw[show(((p+1:Nat):Int)+j)=(p:Int)+((j+1:Nat):Int) by omega,this]
   rfl) (by omega)
  rw[e1,ih,List.length_cons,show p+1+l.length=p+(l.length+1) by omega]
theorem QmP (l:Int):∀b∈QR l,b=102∨b=242∨b=243:=by
 intro b hb
 unfold QR at hb
 rw[List.mem_append,List.mem_append]at hb
 rcases hb with hb | hb | hb
 ·split at hb
  ·exact .inl (List.mem_singleton.1 hb)
  ·cases hb
 ·split at hb
  ·exact .inr (.inl (List.mem_singleton.1 hb))
  ·cases hb
 ·split at hb
  ·exact .inr (.inr (List.mem_singleton.1 hb))
  ·cases hb
theorem Qka (n:Int) (h:0<(WL n).length):(WL n)[0]=15:=by
 rcases Qiw n with e | e | e | e
 all_goals simp only[e]at h ⊢
 all_goals first
  | rfl
  | exact absurd h (Nat.lt_irrefl 0)
def wOf (rx:List Int):Int:=match rx with
 | []=>0
 | r::_=>Kg (r - 64).toNat 4 3
def QiJ (f:Fm) (c:Int) (rx:List Int):Prop:=(rx=[]∧WM ((stp f c).getD (QR f.pre).length 0)=false)∨∃r,rx=[r]∧WM r=true
theorem Qlh (f:Fm) (c:Int):stp f c=(QR f.pre).map (fun b=>(b.toNat:Int))++((WL f.map).map (fun b=>(b.toNat:Int))++[c]):=by unfold stp;rw[Zh,List.map_append,List.append_assoc]
theorem QiK (f:Fm) (c:Int):(stp f c).take (QR f.pre).length=(QR f.pre).map (fun b=>(b.toNat:Int)):=by rw[Qlh,List.take_append_of_le_length (by simp),List.take_of_length_le (by simp)]
theorem Qfn (f:Fm) (c:Int):(stp f c).drop (QR f.pre).length=(WL f.map).map (fun b=>(b.toNat:Int))++[c]:=by rw[Qlh,List.drop_append_of_le_length (by simp),List.drop_of_length_le (by simp),List.nil_append]
theorem QuC (f:Fm):(QR f.pre).length≤(Qh f).length:=by rw[Zh,List.length_append];omega
theorem QpA (f:Fm) (c:Int):∀j,j<(QR f.pre).length→WM ((stp f c).getD j 0)=false∧((((stp f c).getD j 0)==102)||(((stp f c).getD j 0)==242)||(((stp f c).getD j 0)==243))=true:=fun j hj=>by
 have e:(stp f c).getD j 0=((QR f.pre)[j].toNat:Int):=by
  rw[Qlh,List.getD_eq_getElem?_getD,List.getElem?_append_left (by simpa using hj),List.getElem?_map,List.getElem?_eq_getElem hj]
  rfl
 rw[e]
 rcases QmP f.pre _ (List.getElem_mem hj) with e | e | e<;>rw[e]<;>exact⟨by kernel_rfl,by decide⟩
def QcV (f:Fm) (c:Int) (rx rest:List Int):List Int:=(stp f c).take (QR f.pre).length++(rx++((stp f c).drop (QR f.pre).length++rest))
theorem Qkb {L:List Fm} {f:Fm} {c:Int} {leads:List (List UInt8)} {rx rest:List Int} (hv:f.vex=false) (hc:JH f c=true) (hf:f∈L) (hLd:∀g∈L,g.vex=false→Qh g∈leads) (hno:∀l∈leads,Zi f l=false) (hrx:QiJ f c rx):f∈QV (QcV f c rx rest) true 0 L:=by
 have hL0:Qg4 L f c 0 L:=⟨hf,fun g h=>h,fun g _ j hj=>absurd hj (Nat.not_lt_zero _)⟩
 have hkl:=QuC f
 unfold QcV
 have fin:=fun tl htl=>Qpz hv hc hkl (QpA f c) tl htl (QR f.pre).length 0 L (by omega) hL0
 rcases hrx with⟨rfl,hr⟩ | ⟨r,rfl,hr⟩
 ·have:=fin ((stp f c).drop (QR f.pre).length++rest) (fun L' hL'=>by
   refine Qwk hv hc hLd hno hkl hr (fun hlt=>?_) _ hL'
   have he:0<(WL f.map).length:=by rw[Zh,List.length_append]at hlt;omega
   rw[Qlh,List.getD_eq_getElem?_getD,List.getElem?_append_right (by simp),List.length_map,Nat.sub_self,List.getElem?_append_left (by simpa using he),List.getElem?_map,List.getElem?_eq_getElem he,Qka _ he]
   rfl)
  rw[List.drop_zero]at this
  exact this
 ·have:=fin ([r]++((stp f c).drop (QR f.pre).length++rest)) (fun L' hL'=>QuB hv hc hLd hno hkl hr _ hL')
  rw[List.drop_zero]at this
  exact this
def wAt (bs:List Int) (p:Int):Int:=if QdV bs p=true then Kg (QJ bs p - 64).toNat 4 3 else 0
theorem Qwl {bs:List Int} {c:Rr} (h0:(Zg bs c).1=0):wAt bs c.p=c.x.f.w:=by
 have e:Zg bs c=if(bs.length:Int)≤c.p then(9,c)
  else if(decide (64≤QJ bs c.p)&&decide (QJ bs c.p≤79))=true then X3 (Qmv c (QJ bs c.p - 64).toNat) (Kg (QJ bs c.p - 64).toNat 4 3) else X3 c 0:=rfl
 have ne:∀ (c':Rr) w,(X3 c' w).1=0→w=c'.x.f.w:=fun c' w h=>by
  unfold X3 at h
  split at h
  ·cases h
  ·rename_i hn
   simp at hn
   exact hn.1
 rw[e]at h0
 unfold wAt QdV
 by_cases h1:(bs.length:Int)≤c.p
 ·rw[if_pos h1]at h0;cases h0
 ·rw[if_neg h1]at h0
  by_cases h2:(decide (64≤QJ bs c.p)&&decide (QJ bs c.p≤79))=true
  ·rw[if_pos h2]at h0 ⊢
   exact ne (Qmv c (QJ bs c.p - 64).toNat) _ h0
  ·rw[if_neg h2]at h0 ⊢
   exact ne c 0 h0
theorem Qwm {bs:List Int} {c:Rr} (hl:bs.length≤1000000) (h:InB bs c.p) (h0:(Ki bs c).1=0):wAt bs (c.p+(QR c.x.f.pre).length)=c.x.f.w:=by
 rw[QiH]at h0
 unfold QdQ at h0
 generalize QR c.x.f.pre=pl at *
 by_cases z1:((K6 bs pl c).1==0)=true
 ·rw[if_pos z1]at h0
  obtain⟨a1,a2,a3⟩:=Qfl hl pl c h (by simpa using z1)
  rw[a1]at h0
  unfold QdP at h0
  by_cases z2:((Zg bs {c with p:=c.p+pl.length}).1==0)=true
  ·exact Qwl (c:={c with p:=c.p+pl.length}) (by simpa using z2)
  ·rw[if_neg z2]at h0
   rw[h0]at z2
   exact absurd rfl z2
 ·rw[if_neg z1]at h0
  rw[h0]at z1
  exact absurd rfl z1
theorem QsK {bs:List Int} (hb:YM bs) {p:Nat} (hp:p<bs.length):WM bs[p]=QdV bs p∧QJ bs p=bs[p]:=by
 obtain⟨n,hn,n1,n2,n3⟩:=hb.at (p:=(p:Int)) (by omega) (by omega)
 have ht:=Qfm hn
 unfold Qj9 at ht
 simp only[Bool.and_eq_true,beq_iff_eq]at ht
 simp only[Int.toNat_natCast]at n1
 have hg:bs[p]=(n:Int):=by rw[List.getElem?_eq_getElem hp]at n1;exact Option.some.inj n1
 refine⟨?_,by rw[n3,hg]⟩
 rw[hg,ht.2]
 unfold QdV
 rw[n3,Bool.eq_iff_iff]
 simp only[Bool.and_eq_true,decide_eq_true_eq]
 omega
theorem QmQ {bs:List Int} (hb:YM bs) {k:Nat} (hk:k<bs.length) {qn:Nat} (hq:(qn:Int)=k+(if QdV bs k=true then 1 else 0)):
  ∃rx:List Int,bs.drop k=rx++bs.drop qn∧qn=k+rx.length∧wAt bs k=wOf rx∧((rx=[]∧WM bs[k]=false)∨∃r,rx=[r]∧WM r=true):=by
 obtain⟨i1,i2⟩:=QsK hb hk
 unfold wAt
 cases hr:QdV bs k with
 | true=>
  rw[hr,if_pos rfl]at hq
  have:qn=k+1:=by omega
  subst this
  refine⟨[bs[k]],by rw[List.drop_eq_getElem_cons hk];rfl,rfl,?_,.inr ⟨_,rfl,by rw[i1,hr]⟩⟩
  rw[if_pos rfl,i2]
  rfl
 | false=>
  rw[hr,if_neg (by decide)]at hq
  have:qn=k:=by omega
  subst this
  exact⟨[],rfl,rfl,by rw[if_neg (by decide)];rfl,.inl ⟨rfl,by rw[i1,hr]⟩⟩
theorem Qkc {bs:List Int} {f:Fm} {c0:Rr} (hl:bs.length≤1000000) (hb:YM bs) (hcode:I64 f.code) (x0:c0.x.f=f) (p0:c0.p=0) (hH:(Ki bs c0).1=0) (hO:(opF bs (Ki bs c0).2).1=0):
  ∃c rx rest,JH f c=true∧bs=QcV f c rx rest∧QiJ f c rx∧wOf rx=f.w∧(Ki bs c0).2.p=((Qh f).length+rx.length:Nat)∧c=bs.getD ((Qh f).length+rx.length) 0:=by
 have hin:InB bs c0.p:=by rw[p0];exact .zero bs
 obtain⟨a1,a2,q,a3,a4,a5,a6,a7⟩:=Qlg hl hin hH
 have hW:=Qwm hl hin hH
 have hk:=Qlc (bs:=bs) (c:=c0) hl hin
 obtain⟨b1,b2⟩:=QoE hl hb (by rw[a7,x0];exact hcode) hk.2.2 hO
 rw[a7,x0]at b2
 rw[x0,p0]at a1 a2 a3 hW
 rw[x0]at a4 a5 a6
 rw[a6]at b1 b2
 obtain⟨k,hkd⟩:∃k,k=(QR f.pre).length:=⟨_,rfl⟩
 obtain⟨c,hc⟩:∃c,c=bs.getD (q+(WL f.map).length).toNat 0:=⟨_,rfl⟩
 rw[← hc]at b2
 have htk:=QiK f c
 have hdk:=Qfn f c
 have s1:=seg hb (QR f.pre) 0 (fun j hj=>by simpa using a1 j hj) (by omega)
 rw[List.drop_zero,Nat.zero_add,← htk]at s1
 obtain⟨qn,hqn⟩:∃qn:Nat,q=(qn:Int):=⟨q.toNat,by rw[a3];split<;>omega⟩
 rw[hqn]at a3 a4 a5 b1 hc
 have hz:(0:Int)+(QR f.pre).length=k:=by omega
 rw[hz]at a3 hW
 have hkb:k<bs.length:=by omega
 obtain⟨rx,r1,r2,r3,r4⟩:=QmQ hb hkb a3
 have s2:=seg hb (WL f.map) qn a4 (by omega)
 have s3:bs.drop (qn+(WL f.map).length)=c::bs.drop (qn+(WL f.map).length+1):=by
  have hp:qn+(WL f.map).length<bs.length:=by omega
  rw[List.drop_eq_getElem_cons hp]
  congr 1
  rw[hc,show((qn:Int)+((WL f.map).length:Int)).toNat=qn+(WL f.map).length by omega,List.getD_eq_getElem?_getD,List.getElem?_eq_getElem hp]
  rfl
 have s4:bs.drop qn=(stp f c).drop (QR f.pre).length++bs.drop (qn+(WL f.map).length+1):=by rw[s2,s3,hdk,List.append_assoc];rfl
 have hlen:(Qh f).length+rx.length=qn+(WL f.map).length:=by rw[Zh,List.length_append,← hkd];omega
 refine⟨c,rx,bs.drop (qn+(WL f.map).length+1),b2,?_,?_,by rw[← r3];exact hW,by rw[a6,hqn,hlen];omega,?_⟩
 ·unfold QcV
  rw[← s4,← r1,hkd]
  exact s1
 ·rcases r4 with⟨rfl,h⟩ | h
  ·refine .inl ⟨rfl,?_⟩
   rw[← hkd]
   have hq:qn=k:=by simpa using r2
   rw[hq]at s4
   have hd:k<(stp f c).length:=by rw[VU,Zh,List.length_append,← hkd];omega
   have e1:bs[k]? = ((stp f c).drop (QR f.pre).length++bs.drop (k+(WL f.map).length+1))[0]? := by rw[← s4,List.getElem?_drop,Nat.add_zero]
   rw[List.getElem?_append_left (by rw[List.length_drop,← hkd];omega),List.getElem?_drop,Nat.add_zero,← hkd,List.getElem?_eq_getElem hkb]at e1
   rw[List.getD_eq_getElem?_getD,← e1]
   exact h
  ·exact .inr h
 ·rw[hlen,hc]
  congr 1
theorem QgG {L:List Fm} {bs:List Int} {f:Fm} {leads:List (List UInt8)} (hl:bs.length≤1000000) (hb:YM bs) (hv:f.vex=false) (hcode:I64 f.code) (hf:f∈L) (hLd:∀g∈L,g.vex=false→Qh g∈leads) (hno:∀l∈leads,Zi f l=false) {c0:Rr} (x0:c0.x.f=f) (p0:c0.p=0) (hH:(Ki bs c0).1=0) (hO:(opF bs (Ki bs c0).2).1=0):f∈QV bs true 0 L:=by
 obtain⟨c,rx,rest,h1,h2,h3,_⟩:=Qkc hl hb hcode x0 p0 hH hO
 rw[h2]
 exact Qkb hv h1 hf hLd hno h3
theorem Qkd (f:Fm):∀b∈Qh f,b≠196∧b≠197:=by
 intro b hb
 rw[Zh,List.mem_append]at hb
 rcases hb with hb | hb
 ·rcases QmP _ b hb with rfl | rfl | rfl<;>decide
 ·rcases Qiw f.map with e | e | e | e<;>rw[e]at hb
  ·rw[List.mem_singleton.1 hb];decide
  ·rcases List.mem_cons.1 hb with rfl | hb
   ·decide
   ·rw[List.mem_singleton.1 hb];decide
  ·rcases List.mem_cons.1 hb with rfl | hb
   ·decide
   ·rw[List.mem_singleton.1 hb];decide
  ·cases hb
theorem QpB {bs:List Int} {c:Rr} (h:(Vj bs c).1=0):bs.length≠0∧((bs.getD 0 0==196)||((bs.getD 0 0==197)&&(c.x.f.map==1)&&!(c.x.f.w==1)))=true:=by
 unfold Vj at h
 by_cases h1:bs.length=0
 ·rw[if_pos h1]at h;cases h
 ·rw[if_neg h1]at h
  refine⟨h1,?_⟩
  by_cases h2:((bs.getD 0 0==197)&&(c.x.f.map==1)&&!(c.x.f.w==1))=true
  ·rw[h2,Bool.or_true]
  ·rw[if_neg h2]at h
   by_cases h3:(bs.getD 0 0==196)=false
   ·rw[if_pos h3]at h;cases h
   ·have h4:(bs.getD 0 0==196)=true:=by simpa using h3
    rw[h4,Bool.true_or]
theorem QmR {L:List Fm} {bs:List Int} {f:Fm} (hv:f.vex=true) (hf:f∈L) (h1:bs.length≠0) (h2:((bs.getD 0 0==196)||((bs.getD 0 0==197)&&(f.map==1)&&!(f.w==1)))=true):f∈QV bs true 0 L:=by
 cases bs with
 | nil=>exact absurd rfl h1
 | cons c cs=>
  have h2':((c==196)||((c==197)&&(f.map==1)&&!(f.w==1)))=true:=h2
  have hc:c=196∨c=197:=by
   rcases Bool.or_eq_true _ _▸h2' with h3 | h3
   ·left;simpa using h3
   ·right;simp only[Bool.and_eq_true,beq_iff_eq]at h3;exact h3.1.1
  have hrx:WM c=false:=by rcases hc with rfl | rfl<;>kernel_rfl
  have ht:Q0 f 0 c=true:=by unfold Q0;rw[hv,cond_true,h2'];rfl
  have hm:f∈L.filter fun g=>Q0 g 0 c:=List.mem_filter.2 ⟨hf,ht⟩
  have hsh:YL 1 (L.filter fun g=>Q0 g 0 c)=false:=by
   cases e:L.filter fun g=>Q0 g 0 c with
   | nil=>rfl
   | cons g l=>
    have hg:g∈L.filter fun g=>Q0 g 0 c:=by rw[e];exact List.mem_cons_self ..
    have tg:=(List.mem_filter.1 hg).2
    show(bif g.vex then(1==0) else Nat.ble 1 (Qh g).length)=false
    cases hgv:g.vex with
    | true=>rfl
    | false=>
     rw[cond_false]
     cases el:Qh g with
     | nil=>rfl
     | cons b r=>
      exfalso
      unfold Q0 at tg
      rw[hgv,cond_false,el]at tg
      have tb:c=(b.toNat:Int):=by simpa using tg
      obtain⟨m1,m2⟩:=Qkd g b (by rw[el];exact List.mem_cons_self ..)
      rcases hc with e | e
      ·exact m1 (UInt8.toNat_inj.1 (show b.toNat=(196:UInt8).toNat by show b.toNat=196;omega))
      ·exact m2 (UInt8.toNat_inj.1 (show b.toNat=(197:UInt8).toNat by show b.toNat=197;omega))
  show f∈bif YL 0 L then(bif true&&WM c then _ else QV cs (true&&_) 1 (L.filter fun g=>Q0 g 0 c)) else L
  rw[hrx]
  cases YL 0 L with
  | false=>exact hf
  | true=>
   rw[Bool.and_false,cond_true,cond_false]
   cases cs with
   | nil=>exact hm
   | cons x r=>
    show f∈bif YL 1 (L.filter fun g=>Q0 g 0 c) then _ else(L.filter fun g=>Q0 g 0 c)
    rw[hsh]
    exact hm
theorem QsL {L:List Fm} {bs:List Int} {f:Fm} {leads:List (List UInt8)} (hl:bs.length≤1000000) (hb:YM bs) (hcode:I64 f.code) (hf:f∈L) (hLd:∀g∈L,g.vex=false→Qh g∈leads) (hno:f.vex=false→∀l∈leads,Zi f l=false) (h:(QA bs f).e=0):f∈QV bs true 0 L:=by
 obtain⟨c0,x0,p0,hH,hO,_⟩:=QiI h
 cases hv:f.vex with
 | true=>
  have eH:Wj bs c0=Vj bs c0:=by unfold Wj;rw[x0,hv];rfl
  rw[eH]at hH
  obtain⟨h1,h2⟩:=QpB hH
  rw[x0]at h2
  exact QmR hv hf h1 h2
 | false=>
  have eH:Wj bs c0=Ki bs c0:=by unfold Wj;rw[x0,hv];rfl
  rw[eH]at hH hO
  exact QgG hl hb hv hcode hf hLd (hno hv) x0 p0 hH hO
theorem Qke (bs:List Int) (f:Fm) (l:List Fm) (err:Int):QfY bs (f::l) err=if((QA bs f).e==0)=true then⟨(QA bs f).op,(QA bs f).l,(QA bs f).n,0⟩ else QfY bs l (if((QA bs f).e==9)=true then 9 else err):=rfl
theorem QmS {bs:List Int}:∀ (l:List Fm) (err:Int),(err=9∨∃f∈l,(QA bs f).e=9)→(QfY bs l err).e=0∨(QfY bs l err).e=9
 | [],err,h=>by
  rcases h with rfl | ⟨f,hf,_⟩
  ·exact .inr rfl
  ·cases hf
 | g::l,err,h=>by
  rw[Qke]
  by_cases z:((QA bs g).e==0)=true
  ·rw[if_pos z];exact .inl rfl
  ·rw[if_neg z]
   refine QmS l _ ?_
   by_cases z9:((QA bs g).e==9)=true
   ·rw[if_pos z9];exact .inl rfl
   ·rw[if_neg z9]
    rcases h with h | ⟨f,hf,h9⟩
    ·exact .inl h
    ·rcases List.mem_cons.1 hf with rfl | hf
     ·rw[h9]at z9;exact absurd rfl z9
     ·exact .inr ⟨f,hf,h9⟩
theorem QpC {bs:List Int} {f:Fm} (h:(QA bs f).e=0):∀ (l:List Fm) (err:Int),f∈l→(∀g∈l,(QA bs g).e=0→QA bs g=QA bs f)→QfY bs l err=QA bs f
 | [],_,hf,_=>by cases hf
 | g::l,err,hf,hu=>by
  rw[Qke]
  by_cases z:((QA bs g).e==0)=true
  ·have e0:(QA bs g).e=0:=by simpa using z
   rw[if_pos z,hu g (List.mem_cons_self ..) e0]
   rw[← h]
  ·rw[if_neg z]
   rcases List.mem_cons.1 hf with rfl | hf
   ·rw[h]at z;exact absurd rfl z
   ·exact QpC h l _ hf fun g' hg'=>hu g' (List.mem_cons_of_mem _ hg')
theorem Vm (f:Fm):∀ (b:List Int) (ah:Bool) (d:Nat) (L:List Fm),f∈QV b ah d L→f∈L
 | [],_,_,_,h=>h
 | c::cs,ah,d,L,h=>by
  have h:f∈bif YL d L then(bif ah&&WM c then QV cs false d L else QV cs (ah&&((c==102)||(c==242)||(c==243))) (d+1) (L.filter fun f=>Q0 f d c)) else L:=h
  cases ho:YL d L with
  | false=>rw[ho]at h;exact h
  | true=>
   rw[ho,cond_true]at h
   cases hr:ah&&WM c with
   | true=>rw[hr]at h;exact Vm f cs _ _ _ h
   | false=>rw[hr]at h;exact(List.mem_filter.1 (Vm f cs _ _ _ h)).1
theorem QcW (f:Fm) (b:List Int):∀ (a:List Int) (ah:Bool) (d:Nat) (L:List Fm),f∈QV (a++b) ah d L→f∈QV a ah d L
 | [],ah,d,L,h=>Vm f b ah d L h
 | c::cs,ah,d,L,h=>by
  have h:f∈bif YL d L then(bif ah&&WM c then QV (cs++b) false d L else QV (cs++b) (ah&&((c==102)||(c==242)||(c==243))) (d+1) (L.filter fun f=>Q0 f d c)) else L:=h
  show f∈bif YL d L then(bif ah&&WM c then QV cs false d L else QV cs (ah&&((c==102)||(c==242)||(c==243))) (d+1) (L.filter fun f=>Q0 f d c)) else L
  cases ho:YL d L with
  | false=>rw[ho]at h;exact h
  | true=>
   rw[ho,cond_true]at h
   rw[cond_true]
   cases hr:ah&&WM c with
   | true=>rw[hr]at h;exact QcW f b cs _ _ _ h
   | false=>rw[hr]at h;exact QcW f b cs _ _ _ h
theorem QiL {bs:List Int} {c:Rr} {n:Int} (h:InB bs c.p) (h0:(We bs c n).1=9):c.p=bs.length:=by
 unfold InB at h
 have e:We bs c n=((Qb0 bs c.p n).1,{c with p:=(Qb0 bs c.p n).2}):=rfl
 rw[e]at h0
 simp only at h0
 unfold Qb0 at h0
 by_cases h1:(bs.length:Int)≤c.p
 ·omega
 ·rw[if_neg h1]at h0
  by_cases h2:(IntKind.i64.wrap (bs.getD c.p.toNat 0)==n)=false
  ·rw[if_pos h2]at h0;cases h0
  ·rw[if_neg h2]at h0;cases h0
theorem QiM {bs:List Int} (hl:bs.length≤1000000):∀ (l:List UInt8) (c:Rr),InB bs c.p→(K6 bs l c).1=9→∃j,j<l.length∧c.p+j=bs.length∧∀i (hi:i<l.length),i<j→QJ bs (c.p+i)=l[i].toNat
 | [],c,h,h0=>by cases h0
 | n::l,c,h,h0=>by
  have e:K6 bs (n::l) c=if((We bs c n.toNat).1==0)=true then K6 bs l (We bs c n.toNat).2 else We bs c n.toNat:=rfl
  rw[e]at h0
  by_cases z:((We bs c n.toNat).1==0)=true
  ·rw[if_pos z]at h0
   obtain⟨h1,h2,h3⟩:=Qdc hl h (by simpa using z)
   rw[h3]at h0
   have h':InB bs (c.p+1):=by unfold InB at *;omega
   obtain⟨j,j1,j2,j3⟩:=QiM hl l {c with p:=c.p+1} h' h0
   simp only at j2 j3
   refine⟨j+1,by simpa using j1,by omega,fun i hi hij=>?_⟩
   cases i with
   | zero=>simpa using h2
   | succ i=>
    have:=j3 i (by simpa using hi) (by omega)
    rw[show c.p+((i+1:Nat):Int)=c.p+1+i by omega,this]
    rfl
  ·rw[if_neg z]at h0
   exact⟨0,by simp,by have:=QiL h h0;omega,fun i hi hij=>absurd hij (Nat.not_lt_zero _)⟩
theorem QsM {bs:List Int} {c:Rr} (h:InB bs c.p) (h0:(Zg bs c).1=9):c.p=bs.length:=by
 unfold InB at h
 have e:Zg bs c=if(bs.length:Int)≤c.p then(9,c)
  else if(decide (64≤QJ bs c.p)&&decide (QJ bs c.p≤79))=true then X3 (Qmv c (QJ bs c.p - 64).toNat) (Kg (QJ bs c.p - 64).toNat 4 3) else X3 c 0:=rfl
 have ne:∀c' w,(X3 c' w).1≠9:=fun c' w=>by unfold X3;split<;>simp
 rw[e]at h0
 by_cases h1:(bs.length:Int)≤c.p
 ·omega
 ·rw[if_neg h1]at h0
  split at h0
  ·exact absurd h0 (ne _ _)
  ·exact absurd h0 (ne _ _)
theorem QqT {bs:List Int} {f:Fm} (h:(QA bs f).e=9):∃c0:Rr,c0.x.f=f∧c0.p=0∧((Wj bs c0).1=9∨(Wj bs c0).1=0∧((opF bs (Wj bs c0).2).1=9∨(opF bs (Wj bs c0).2).1=0)):=by
 obtain⟨c0,hc0⟩:∃c0,c0=rd0 ⟨f,.slice none 0 0,.slice none 0 0⟩ (.slice none 0 0):=⟨_,rfl⟩
 have e:QA bs f=bif (rdM bs c0).1==0 then Qg1 bs (rdM bs c0).2 else Qab (rdM bs c0).1:=by rw[hc0];rfl
 refine⟨c0,by rw[hc0];rfl,by rw[hc0];rfl,?_⟩
 rw[e]at h
 have eM:rdM bs c0=bif (rdO bs c0).1==0 then Qb1 bs (rdO bs c0).2 else rdO bs c0:=rfl
 have eO:rdO bs c0=bif (Wj bs c0).1==0 then opF bs (Wj bs c0).2 else Wj bs c0:=rfl
 cases zH:(Wj bs c0).1==0 with
 | false=>
  rw[zH,cond_false]at eO
  rw[eO,zH,cond_false]at eM
  rw[eM,zH,cond_false]at h
  exact .inl h
 | true=>
  rw[zH,cond_true]at eO
  rw[eO]at eM
  refine .inr ⟨by simpa using zH,?_⟩
  cases zO:(opF bs (Wj bs c0).2).1==0 with
  | true=>exact .inr (by simpa using zO)
  | false=>
   rw[zO,cond_false]at eM
   rw[eM,zO,cond_false]at h
   exact .inl h
theorem QuD {bs:List Int} {c:Rr} (h:InB bs c.p) (h0:(opF bs c).1=9):c.p=bs.length:=by
 have e:opF bs c=if(decide (QZ c.x.f.slots 4<0))=true then We bs c c.x.f.code
  else if(bs.length:Int)≤c.p then(9,c) else We bs {c with low:=Qbh bs c.p} (IntKind.i64.wrap (c.x.f.code+Qbh bs c.p)):=rfl
 rw[e]at h0
 by_cases z:decide (QZ c.x.f.slots 4<0)=true
 ·rw[if_pos z]at h0
  exact QiL h h0
 ·rw[if_neg z]at h0
  by_cases g:(bs.length:Int)≤c.p
  ·unfold InB at h;omega
  ·rw[if_neg g]at h0
   exact QiL (c:={c with low:=Qbh bs c.p}) h h0
section
variable {bs:List Int} {f:Fm} {c0:Rr}
theorem QmT {bs:List Int} {f:Fm} (hb:YM bs) {j:Nat} (hj:j≤(QR f.pre).length) (hjl:j=bs.length) (h:∀i (hi:i<(QR f.pre).length),i<j→QJ bs ((0:Int)+i)=(QR f.pre)[i].toNat) (c:Int):
  ∃more,bs++more=QcV f c [] []:=by
 have s:=seg hb ((QR f.pre).take j) 0 (fun i hi=>by
  rw[List.length_take]at hi
  have:=h i (by omega) (by omega)
  rw[List.getElem_take]
  simpa using this) (by rw[List.length_take];omega)
 rw[List.drop_zero,List.drop_of_length_le (by rw[List.length_take];omega),List.append_nil]at s
 refine⟨((QR f.pre).drop j).map (fun b=>(b.toNat:Int))++(stp f c).drop (QR f.pre).length,?_⟩
 unfold QcV
 rw[s,← List.append_assoc,← List.map_append,List.take_append_drop,QiK,List.nil_append,List.append_nil]
theorem QmU {bs:List Int} {f:Fm} (hb:YM bs) (h1:∀j (hj:j<(QR f.pre).length),QJ bs ((0:Int)+j)=(QR f.pre)[j].toNat) (hk:(QR f.pre).length<bs.length) {q:Int} (hq:q=(QR f.pre).length+(if QdV bs (QR f.pre).length=true then 1 else 0)) {j:Nat} (hj:j≤(WL f.map).length) (hjl:q+j=bs.length)
  (h:∀i (hi:i<(WL f.map).length),i<j→QJ bs (q+i)=(WL f.map)[i].toNat) (c:Int) (hnr:WM ((stp f c).getD (QR f.pre).length 0)=false):
  ∃more rx,bs++more=QcV f c rx []∧QiJ f c rx:=by
 obtain⟨qn,hqn⟩:∃qn:Nat,q=(qn:Int):=⟨q.toNat,by rw[hq];split<;>omega⟩
 rw[hqn]at hq hjl h
 obtain⟨rx,r1,r2,r3,r4⟩:=QmQ hb hk hq
 have s1:=seg hb (QR f.pre) 0 (fun j hj=>by simpa using h1 j hj) (by omega)
 rw[List.drop_zero,Nat.zero_add,r1]at s1
 have s:=seg hb ((WL f.map).take j) qn (fun i hi=>by
  rw[List.length_take]at hi
  have:=h i (by omega) (by omega)
  rw[List.getElem_take]
  exact this) (by rw[List.length_take];omega)
 have hd:bs.drop (qn+((WL f.map).take j).length)=[]:=List.drop_of_length_le (by rw[List.length_take];omega)
 rw[hd,List.append_nil]at s
 rw[s]at s1
 refine⟨((WL f.map).drop j).map (fun b=>(b.toNat:Int))++[c],rx,?_,?_⟩
 ·unfold QcV
  rw[QiK,Qfn,List.append_nil]
  have e:(WL f.map).map (fun b=>(b.toNat:Int))=((WL f.map).take j).map (fun b=>(b.toNat:Int))++((WL f.map).drop j).map (fun b=>(b.toNat:Int)):=by rw[← List.map_append,List.take_append_drop]
  rw[e]
  conv=>lhs;rw[s1]
  simp only[List.append_assoc]
 ·rcases r4 with⟨rfl,_⟩ | h
  ·exact .inl ⟨rfl,hnr⟩
  ·exact .inr h
theorem QuE (hl:bs.length≤1000000) (hb:YM bs) (x0:c0.x.f=f) (p0:c0.p=0) (h0:(Ki bs c0).1=9) (c:Int) (hnr:WM ((stp f c).getD (QR f.pre).length 0)=false):
  ∃more rx,bs++more=QcV f c rx []∧QiJ f c rx:=by
 have hin:InB bs c0.p:=by rw[p0];exact .zero bs
 rw[QiH]at h0
 unfold QdQ at h0
 rw[x0]at h0
 by_cases z1:((K6 bs (QR f.pre) c0).1==0)=true
 ·rw[if_pos z1]at h0
  obtain⟨a1,a2,a3⟩:=Qfl hl (QR f.pre) c0 hin (by simpa using z1)
  rw[a1]at h0
  have hi1:InB bs (c0.p+(QR f.pre).length):=by unfold InB at *;omega
  rw[p0]at a2 a3
  unfold QdP at h0
  by_cases z2:((Zg bs {c0 with p:=c0.p+(QR f.pre).length}).1==0)=true
  ·rw[if_pos z2]at h0
   obtain⟨b1,b2,b3⟩:=Qpy (c:={c0 with p:=c0.p+(QR f.pre).length}) hl hi1 (by simpa using z2)
   have hk:=QkY (bs:=bs) (c:={c0 with p:=c0.p+(QR f.pre).length}) hi1 hl
   generalize Zg bs {c0 with p:=c0.p+(QR f.pre).length}=x at *
   simp only at b1 b2 b3
   rw[b2,x0]at h0
   obtain⟨j,j1,j2,j3⟩:=QiM hl _ x.2 hk h0
   rw[p0,Int.zero_add]at b1 b3
   exact QmU hb a3 (by omega) b3 (Nat.le_of_lt j1) j2 j3 c hnr
  ·rw[if_neg z2]at h0
   have:=QsM (c:={c0 with p:=c0.p+(QR f.pre).length}) hi1 h0
   simp only at this
   rw[p0]at this
   obtain⟨more,hm⟩:=QmT hb (Nat.le_refl _) (by omega) (fun i hi _=>a3 i hi) c
   exact⟨more,[],hm,.inl ⟨rfl,hnr⟩⟩
 ·rw[if_neg z1]at h0
  obtain⟨j,j1,j2,j3⟩:=QiM hl _ c0 hin h0
  rw[p0]at j2 j3
  obtain⟨more,hm⟩:=QmT hb (Nat.le_of_lt j1) (by omega) j3 c
  exact⟨more,[],hm,.inl ⟨rfl,hnr⟩⟩
theorem QqU (hl:bs.length≤1000000) (hb:YM bs) (x0:c0.x.f=f) (p0:c0.p=0) (hH:(Ki bs c0).1=0) (hO:(opF bs (Ki bs c0).2).1=9) (c:Int) (hnr:WM ((stp f c).getD (QR f.pre).length 0)=false):
  ∃more rx,bs++more=QcV f c rx []∧QiJ f c rx:=by
 have hin:InB bs c0.p:=by rw[p0];exact .zero bs
 obtain⟨a1,a2,q,a3,a4,a5,a6,a7⟩:=Qlg hl hin hH
 have hk:=Qlc (bs:=bs) (c:=c0) hl hin
 have hp:=QuD hk.2.2 hO
 rw[x0,p0]at a1 a2 a3
 rw[x0]at a4 a5 a6
 rw[a6]at hp
 rw[Int.zero_add]at a2 a3
 exact QmU hb a1 (by omega) a3 (Nat.le_refl _) hp (fun i hi _=>a4 i hi) c hnr
end
theorem QsN {bs:List Int} {c:Rr} (h:(Vj bs c).1≠4):bs.length=0∨((bs.getD 0 0==196)||((bs.getD 0 0==197)&&(c.x.f.map==1)&&!(c.x.f.w==1)))=true:=by
 unfold Vj at h
 by_cases h1:bs.length=0
 ·exact .inl h1
 ·rw[if_neg h1]at h
  refine .inr ?_
  by_cases h2:((bs.getD 0 0==197)&&(c.x.f.map==1)&&!(c.x.f.w==1))=true
  ·rw[h2,Bool.or_true]
  ·rw[if_neg h2]at h
   by_cases h3:(bs.getD 0 0==196)=false
   ·rw[if_pos h3]at h;exact absurd rfl h
   ·have h4:(bs.getD 0 0==196)=true:=by simpa using h3
    rw[h4,Bool.true_or]
theorem QsO {L:List Fm} {bs:List Int} {f:Fm} {leads:List (List UInt8)} (hl:bs.length≤1000000) (hb:YM bs) (hcode:I64 f.code) (hf:f∈L) (hLd:∀g∈L,g.vex=false→Qh g∈leads) (hno:f.vex=false→∀l∈leads,Zi f l=false)
  (hop:f.vex=false→JH f f.code=true) (hnr:f.vex=false→WM ((stp f f.code).getD (QR f.pre).length 0)=false) (h:(QA bs f).e=9):f∈QV bs true 0 L:=by
 obtain⟨c0,x0,p0,hc⟩:=QqT h
 cases hv:f.vex with
 | true=>
  have eH:Wj bs c0=Vj bs c0:=by unfold Wj;rw[x0,hv];rfl
  have h4:(Vj bs c0).1≠4:=by rw[← eH];rcases hc with h | ⟨h,_⟩<;>rw[h]<;>decide
  have h2:=QsN h4
  rw[x0]at h2
  by_cases h1:bs.length=0
  ·cases bs with
   | nil=>exact hf
   | cons _ _=>cases h1
  ·exact QmR hv hf h1 (h2.resolve_left h1)
 | false=>
  have eH:Wj bs c0=Ki bs c0:=by unfold Wj;rw[x0,hv];rfl
  rw[eH]at hc
  have fin:(∃more rx,bs++more=QcV f f.code rx []∧QiJ f f.code rx)→f∈QV bs true 0 L:=by
   rintro⟨more,rx,h1,h2⟩
   have:=Qkb (rest:=[]) hv (hop hv) hf hLd (hno hv) h2
   rw[← h1]at this
   exact QcW f more bs _ _ _ this
  rcases hc with h | ⟨hH,h | h⟩
  ·exact fin (QuE hl hb x0 p0 h f.code (hnr hv))
  ·exact fin (QqU hl hb x0 p0 hH h f.code (hnr hv))
  ·exact QgG hl hb hv hcode hf hLd (hno hv) x0 p0 hH h
def pfx (c:Int):Bool:=(c==102)||(c==242)||(c==243)
def QcX:List Int→List Int
 | []=>[]
 | c::cs=>bif WM c then cs else bif pfx c then c::QcX cs else c::cs
theorem Qkf (t:List Int):∀l:List Int,(∀x∈l,WM x=false∧pfx x=true)→QcX (l++t)=l++QcX t
 | [],_=>rfl
 | x::l,h=>by
  obtain⟨h1,h2⟩:=h x (List.mem_cons_self ..)
  show(bif WM x then l++t else bif pfx x then x::QcX (l++t) else x::(l++t))=_
  rw[h1,h2,cond_false,cond_true,Qkf t l fun y hy=>h y (List.mem_cons_of_mem _ hy)]
  rfl
theorem QsP {c:Int} {cs:List Int} (h:WM c=false):∃r,QcX (c::cs)=c::r:=by
 show ∃r,(bif WM c then cs else bif pfx c then c::QcX cs else c::cs)=c::r
 rw[h,cond_false]
 cases pfx c
 ·exact⟨cs,rfl⟩
 ·exact⟨QcX cs,rfl⟩
theorem Qer {f:Fm} {c:Int} {rx rest:List Int} (h:QiJ f c rx):∃r,QcX (QcV f c rx rest)=stp f c++r:=by
 have hp:∀x∈(stp f c).take (QR f.pre).length,WM x=false∧pfx x=true:=by
  intro x hx
  obtain⟨j,hj,rfl⟩:=List.mem_iff_getElem.1 hx
  rw[List.length_take]at hj
  have h1:=QpA f c j (by omega)
  have e:((stp f c).take (QR f.pre).length)[j]=(stp f c).getD j 0:=by rw[List.getElem_take,List.getD_eq_getElem?_getD,List.getElem?_eq_getElem (by omega)];rfl
  rw[e]
  exact h1
 have key:∀t r,QcX t=(stp f c).drop (QR f.pre).length++r→QcX ((stp f c).take (QR f.pre).length++t)=stp f c++r:=fun t r h=>by
  rw[Qkf t _ hp,h,← List.append_assoc,List.take_append_drop]
 unfold QcV
 rcases h with⟨rfl,hr⟩ | ⟨r,rfl,hr⟩
 ·rw[List.nil_append]
  have hlt:(QR f.pre).length<(stp f c).length:=by rw[VU,Zh,List.length_append];omega
  have hd:(stp f c).getD (QR f.pre).length 0=(stp f c)[(QR f.pre).length]:=by rw[List.getD_eq_getElem?_getD,List.getElem?_eq_getElem hlt];rfl
  rw[hd]at hr
  cases he:WL f.map with
  | nil=>
   have e1:(stp f c).drop (QR f.pre).length=[c]:=by rw[Qfn,he];rfl
   have e2:(stp f c)[(QR f.pre).length]=c:=by
    have:=List.drop_eq_getElem_cons hlt
    rw[e1]at this
    exact(List.cons.inj this).1.symm
   rw[e2]at hr
   obtain⟨r,hr2⟩:=QsP (cs:=rest) hr
   refine⟨r,key _ r ?_⟩
   rw[e1]
   exact hr2
  | cons b l=>
   have hb:b=15:=by
    have:=Qka f.map (by rw[he];exact Nat.succ_pos _)
    simp only[he]at this
    exact this
   subst hb
   have e1:(stp f c).drop (QR f.pre).length=(15:Int)::(l.map (fun b=>(b.toNat:Int))++[c]):=by rw[Qfn,he];rfl
   refine⟨rest,key _ rest ?_⟩
   rw[e1]
   rfl
 ·refine⟨rest,key _ rest ?_⟩
  show(bif WM r then((stp f c).drop (QR f.pre).length++rest) else _)=_
  rw[hr,cond_true]
theorem QiN (f:Fm) (c:Int) {r:List Int} {j:Nat} (hj:j<(Qh f).length):(stp f c++r)[j]? = some ((Qh f)[j].toNat:Int):=by
 unfold stp
 rw[List.append_assoc,List.getElem?_append_left (by simpa using hj),List.getElem?_map,List.getElem?_eq_getElem hj]
 rfl
theorem QiO (f:Fm) (c:Int) {r:List Int}:(stp f c++r)[(Qh f).length]? = some c:=by
 unfold stp
 rw[List.append_assoc,List.getElem?_append_right (by simp),List.length_map,Nat.sub_self]
 rfl
theorem QpD {f g:Fm} {c d:Int} {r s:List Int} (hc:JH f c=true) (h:stp f c++r=stp g d++s) (hlt:(Qh f).length<(Qh g).length):Zi f (Qh g)=true:=by
 have t1:(Qh g).take (Qh f).length=Qh f:=by
  refine List.ext_getElem (by rw[List.length_take];omega) fun j h1 h2=>?_
  rw[List.getElem_take]
  have e:=congrArg (fun l=>l[j]?) h
  rw[QiN f c h2,QiN g d (by omega)]at e
  have:=Option.some.inj e
  have h3:(Qh f)[j].toNat=(Qh g)[j].toNat:=by omega
  exact(UInt8.toNat_inj.1 h3).symm
 have t2:(((Qh g).getD (Qh f).length 0).toNat:Int)=c:=by
  have e:=congrArg (fun l=>l[(Qh f).length]?) h
  rw[QiO,QiN g d hlt]at e
  rw[List.getD_eq_getElem?_getD,List.getElem?_eq_getElem hlt,Option.getD_some]
  exact(Option.some.inj e).symm
 unfold Zi
 rw[t1,t2,hc]
 simp[hlt]
theorem QqV {f g:Fm} {c d:Int} {r s:List Int} (hc:JH f c=true) (hd:JH g d=true) (h:stp f c++r=stp g d++s) (h1:Zi f (Qh g)=false) (h2:Zi g (Qh f)=false):Qh f=Qh g∧c=d:=by
 have n1:¬ (Qh f).length<(Qh g).length:=fun hlt=>by rw[QpD hc h hlt]at h1;cases h1
 have n2:¬ (Qh g).length<(Qh f).length:=fun hlt=>by rw[QpD hd h.symm hlt]at h2;cases h2
 have hl:(Qh f).length=(Qh g).length:=by omega
 have e1:Qh f=Qh g:=by
  refine List.ext_getElem hl fun j h1 h2=>?_
  have e:=congrArg (fun l=>l[j]?) h
  rw[QiN f c h1,QiN g d h2]at e
  have:=Option.some.inj e
  have h3:(Qh f)[j].toNat=(Qh g)[j].toNat:=by omega
  exact UInt8.toNat_inj.1 h3
 refine⟨e1,?_⟩
 have e:=congrArg (fun l=>l[(Qh f).length]?) h
 rw[QiO,hl,QiO]at e
 exact Option.some.inj e
def Qkg:List (List UInt8):=(List.range 8).flatMap fun p=>(List.range 4).map fun m=>QR (p:Nat)++WL (m:Nat)
theorem QsQ:((List.range 8).all fun p=>(List.range 4).all fun m=>(List.range 8).all fun p'=>(List.range 4).all fun m'=>!((QR (p:Nat)++WL (m:Nat))==(QR (p':Nat)++WL (m':Nat)))||(Nat.beq p p'&&Nat.beq m m'))=true:=by kernel_rfl
def QjC (f:Fm):Bool:=
 decide (0≤f.code)&&decide (f.code≤255)&&Nat.beq f.shapes.length f.slots.length &&
 (f.vex||((f.l==0)&&decide (0≤f.pre)&&decide (f.pre<8)&&decide (0≤f.map)&&decide (f.map<4)&&JH f f.code&&!WM ((stp f f.code).getD (QR f.pre).length 0)&&(Qkg.all fun l=>!Zi f l)&&!((Qh f).isEmpty&&(JH f 196||JH f 197))))
structure Fit (f:Fm):Prop where
 l0:f.l=0
 p0:0≤f.pre
 p8:f.pre<8
 m0:0≤f.map
 m4:f.map<4
 op:JH f f.code=true
 nr:WM ((stp f f.code).getD (QR f.pre).length 0)=false
 no:∀l∈Qkg,Zi f l=false
 nv:Qh f=[]→JH f 196=false∧JH f 197=false
theorem QcY {f:Fm} (h:QjC f=true):I64 f.code∧f.shapes.length=f.slots.length:=by
 unfold QjC at h
 simp only[Bool.and_eq_true,decide_eq_true_eq]at h
 exact⟨by unfold I64;omega,Nat.eq_of_beq_eq_true h.1.2⟩
theorem Qbl {f:Fm} (h:QjC f=true) (hv:f.vex=false):Fit f:=by
 unfold QjC at h
 simp only[Bool.and_eq_true,decide_eq_true_eq,hv,Bool.false_or,beq_iff_eq,Bool.not_eq_true',List.all_eq_true]at h
 obtain⟨_,⟨⟨⟨⟨⟨⟨⟨h1,h2⟩,h3⟩,h4⟩,h5⟩,h6⟩,h7⟩,h8⟩,h9⟩:=h
 refine⟨h1,h2,h3,h4,h5,h6,h7,h8,fun e=>?_⟩
 rw[e]at h9
 have h9':(JH f 196||JH f 197)=false:=h9
 exact Bool.or_eq_false_iff.1 h9'
theorem QiP {f:Fm} (h:Fit f):Qh f∈Qkg:=by
 unfold Qkg
 have p0:=h.p0
 have p8:=h.p8
 have m0:=h.m0
 have m4:=h.m4
 rw[List.mem_flatMap]
 refine⟨f.pre.toNat,List.mem_range.2 (by omega),?_⟩
 rw[List.mem_map]
 refine⟨f.map.toNat,List.mem_range.2 (by omega),?_⟩
 rw[show((f.pre.toNat:Nat):Int)=f.pre by omega,show((f.map.toNat:Nat):Int)=f.map by omega,Zh]
theorem QsR {f g:Fm} (hf:Fit f) (hg:Fit g) (h:Qh f=Qh g):f.pre=g.pre∧f.map=g.map:=by
 have p0:=hf.p0
 have p8:=hf.p8
 have m0:=hf.m0
 have m4:=hf.m4
 have q0:=hg.p0
 have q8:=hg.p8
 have n0:=hg.m0
 have n4:=hg.m4
 have t:=List.all_eq_true.1 (List.all_eq_true.1 (List.all_eq_true.1 (List.all_eq_true.1 QsQ f.pre.toNat (List.mem_range.2 (by omega))) f.map.toNat (List.mem_range.2 (by omega))) g.pre.toNat (List.mem_range.2 (by omega))) g.map.toNat (List.mem_range.2 (by omega))
 rw[show((f.pre.toNat:Nat):Int)=f.pre by omega,show((f.map.toNat:Nat):Int)=f.map by omega,show((g.pre.toNat:Nat):Int)=g.pre by omega,show((g.map.toNat:Nat):Int)=g.map by omega,← Zh,← Zh,h,beq_self_eq_true]at t
 simp only[Bool.not_true,Bool.false_or,Bool.and_eq_true]at t
 have e1:=Nat.eq_of_beq_eq_true t.1
 have e2:=Nat.eq_of_beq_eq_true t.2
 omega
theorem QuG {f g:Fm} {c:Int} {rx rx' rest rest':List Int} (hb:QcV f c rx rest=QcV g c rx' rest') (hp:f.pre=g.pre) (hs:stp f c=stp g c) (h:QiJ f c rx) (h':QiJ g c rx'):rx=rx':=by
 unfold QcV at hb
 unfold QiJ at h h'
 rw[← hp,← hs]at hb h'
 have hb:=List.append_cancel_left hb
 have hlt:(QR f.pre).length<(stp f c).length:=by rw[VU,Zh,List.length_append];omega
 have hd:(stp f c).getD (QR f.pre).length 0=(stp f c)[(QR f.pre).length]:=by rw[List.getD_eq_getElem?_getD,List.getElem?_eq_getElem hlt];rfl
 rw[List.drop_eq_getElem_cons hlt,← hd]at hb
 generalize (stp f c).getD (QR f.pre).length 0=z at *
 rcases h with⟨rfl,h⟩ | ⟨r,rfl,h⟩<;>rcases h' with⟨rfl,h'⟩ | ⟨r',rfl,h'⟩
 ·rfl
 ·have:=(List.cons.inj hb).1
  rw[this,h']at h
  cases h
 ·have:=(List.cons.inj hb).1
  rw[this,h']at h
  cases h
 ·have:=(List.cons.inj hb).1
  rw[this]
theorem QmV {a b:Fm} {c:Int} (h0:0≤c) (h1:c≤255) (ha:JH a c=true) (hb:JH b c=true):QoF a b=true:=by
 obtain⟨n,rfl⟩:∃n:Nat,c=n:=⟨c.toNat,by omega⟩
 have ht:=Qfm (n:=n) (by omega)
 unfold Qj9 at ht
 simp only[Bool.and_eq_true,beq_iff_eq]at ht
 have e1:=ht.1.1.2
 have e2:=ht.1.2
 unfold JH at ha hb
 unfold QoF Qhr
 generalize decide (0≤QZ a.slots 4)=A at *
 generalize decide (0≤QZ b.slots 4)=B at *
 cases A<;>cases B<;>simp only[cond_true,cond_false,beq_iff_eq,Bool.and_eq_true]at *
 ·rw[e2]at ha hb
  exact⟨trivial,by omega⟩
 ·rw[e2]at ha
  rw[e1]at hb
  refine⟨trivial,?_⟩
  rw[Qfo _ (by unfold I64;omega)]
  omega
 ·rw[e1]at ha
  rw[e2]at hb
  refine⟨?_,trivial⟩
  rw[Qfo _ (by unfold I64;omega)]
  omega
 ·rw[e1]at ha hb
  rw[Qfo _ (by unfold I64;omega)]
  omega
theorem QmW {bs:List Int} {c:Rr} (hl:bs.length≤1000000) (h:InB bs c.p) (h0:(opF bs c).1=0):(opF bs c).2.p=c.p+1∧(opF bs c).2.x=c.x:=by
 have e:opF bs c=if(decide (QZ c.x.f.slots 4<0))=true then We bs c c.x.f.code
  else if(bs.length:Int)≤c.p then(9,c) else We bs {c with low:=Qbh bs c.p} (IntKind.i64.wrap (c.x.f.code+Qbh bs c.p)):=rfl
 rw[e]at h0 ⊢
 by_cases z:decide (QZ c.x.f.slots 4<0)=true
 ·rw[if_pos z]at h0 ⊢
  obtain⟨_,_,e⟩:=Qdc hl h h0
  rw[e]
  exact⟨rfl,rfl⟩
 ·rw[if_neg z]at h0 ⊢
  by_cases g:(bs.length:Int)≤c.p
  ·rw[if_pos g]at h0;cases h0
  ·rw[if_neg g]at h0 ⊢
   obtain⟨_,_,e⟩:=Qdc (c:={c with low:=Qbh bs c.p}) hl h h0
   rw[e]
   exact⟨rfl,rfl⟩
def Qkh (f:Fm) (n:Int):Prop:=0≤QZ f.slots 2→QbP f n (f.shapes.getD (QZ f.slots 2).toNat 0)=true
theorem QpE {bs:List Int} {c:Rr} (h0:(Qb1 bs c).1=0):Qkh c.x.f (QJ bs c.p):=by
 intro hi
 have e:Qb1 bs c=if decide (QZ c.x.f.slots 2<0)=true then(0,c)
  else if(bs.length:Int)≤c.p then(9,c)
  else if QbP c.x.f (QJ bs c.p) (c.x.f.shapes.getD (QZ c.x.f.slots 2).toNat 0)=false then(4,c)
  else if((rdF bs c.p c.xx c.bb).2==0)=false then((rdF bs c.p c.xx c.bb).2,c)
  else(0,{c with seen:=(rdF bs c.p c.xx c.bb).1,p:=(rdF bs c.p c.xx c.bb).1.ends}):=rfl
 rw[e]at h0
 rw[if_neg (by simp;omega)]at h0
 by_cases g:(bs.length:Int)≤c.p
 ·rw[if_pos g]at h0;cases h0
 ·rw[if_neg g]at h0
  cases hm:QbP c.x.f (QJ bs c.p) (c.x.f.shapes.getD (QZ c.x.f.slots 2).toNat 0) with
  | true=>rfl
  | false=>rw[if_pos hm]at h0;cases h0
theorem QmX {a b:Fm} {n:Int} (ha:a.shapes.length=a.slots.length) (hb:b.shapes.length=b.slots.length) (h1:Qkh a n) (h2:Qkh b n):
  ((!decide (0≤QZ a.slots 2)||!decide (0≤QZ b.slots 2))||(!(decide (0≤a.digit)&&decide (0≤b.digit)&&!(a.digit==b.digit))&&!((Qg5 a&&Qg6 b)||(Qg6 a&&Qg5 b))))=true:=by
 unfold Qkh at h1 h2
 have la:=Qho a.slots 2
 have lb:=Qho b.slots 2
 by_cases ia:0≤QZ a.slots 2
 ·by_cases ib:0≤QZ b.slots 2
  ·have h1:=h1 ia
   have h2:=h2 ib
   have sa:QaM a=a.shapes.getD (QZ a.slots 2).toNat 0:=by unfold QaM;rw[if_pos ⟨ia,by omega⟩]
   have sb:QaM b=b.shapes.getD (QZ b.slots 2).toNat 0:=by unfold QaM;rw[if_pos ⟨ib,by omega⟩]
   rw[← sa]at h1
   rw[← sb]at h2
   have reg:∀f:Fm,Qg5 f=true→QbP f n (QaM f)=true→(K3 n 6==3)=true:=fun f hr hm=>by
    unfold Qg5 at hr
    unfold QbP at hm
    generalize QaM f=s at *
    simp only[Bool.and_eq_true,decide_eq_true_eq]at hr
    cases h3:K3 n 6==3 with
    | true=>rfl
    | false=>
     rw[h3,cond_false]at hm
     have hz:szF s<0:=by unfold szF;repeat' (first | (split;· omega));omega
     rw[decide_eq_true hz]at hm
     simp at hm
   have plc:∀f:Fm,Qg6 f=true→QbP f n (QaM f)=true→(K3 n 6==3)=false:=fun f hr hm=>by
    unfold Qg6 at hr
    unfold QbP at hm
    generalize QaM f=s at *
    simp only[Bool.or_eq_true,Bool.and_eq_true,decide_eq_true_eq,beq_iff_eq]at hr
    cases h3:K3 n 6==3 with
    | false=>rfl
    | true=>
     rw[h3,cond_true]at hm
     have hz:clF s=0:=by unfold clF;rw[if_neg (by omega),if_neg (by omega),if_neg (by omega),if_neg (by omega),if_neg (by omega),if_neg (by omega)]
     rw[hz]at hm
     simp at hm
   have hd:(decide (0≤a.digit)&&decide (0≤b.digit)&&!(a.digit==b.digit))=false:=by
    unfold QbP at h1 h2
    simp only[Bool.and_eq_true,Bool.not_eq_true']at h1 h2
    have d1:=h1.1
    have d2:=h2.1
    by_cases za:0≤a.digit
    ·by_cases zb:0≤b.digit
     ·simp only[decide_eq_true za,decide_eq_true zb,Bool.true_and,Bool.not_eq_false',beq_iff_eq]at d1 d2 ⊢
      omega
     ·simp[zb]
    ·simp[za]
   have hrp:((Qg5 a&&Qg6 b)||(Qg6 a&&Qg5 b))=false:=by
    cases r1:Qg5 a<;>cases r2:Qg6 b<;>cases r3:Qg6 a<;>cases r4:Qg5 b<;>first
     | rfl
     | (have:=reg a r1 h1;rw[plc b r2 h2]at this;cases this)
     | (have:=reg b r4 h2;rw[plc a r3 h1]at this;cases this)
   rw[hd,hrp]
   simp
  ·simp[ib]
 ·simp[ia]
theorem QsS {bs:List Int} {c:Rr} (h:(Vj bs c).1=0):QdR (W2 bs).1 c.x.f=false∧(Vj bs c).2.p=(W2 bs).2.1∧(Vj bs c).2.x=c.x:=by
 have tl:∀c':Rr,(QcQ bs c').1=0→QdR (W2 bs).1 c'.x.f=false∧(QcQ bs c').2.p=(W2 bs).2.1∧(QcQ bs c').2.x=c'.x:=fun c' h=>by
  unfold QcQ at h ⊢
  by_cases h1:((W2 bs).2.2==0)=false
  ·rw[if_pos h1]at h
   have h:(W2 bs).2.2=0:=h
   rw[h]at h1
   cases h1
  ·rw[if_neg h1]at h ⊢
   by_cases h2:QdR (W2 bs).1 c'.x.f=true
   ·rw[if_pos h2]at h;cases h
   ·rw[if_neg h2]at h ⊢
    split at h
    ·cases h
    ·rename_i h3
     rw[if_neg h3]
     exact⟨by simpa using h2,rfl,rfl⟩
 unfold Vj at h ⊢
 by_cases h1:bs.length=0
 ·rw[if_pos h1]at h;cases h
 ·rw[if_neg h1]at h ⊢
  by_cases h2:((bs.getD 0 0==197)&&(c.x.f.map==1)&&!(c.x.f.w==1))=true
  ·rw[if_pos h2]at h ⊢
   exact tl c h
  ·rw[if_neg h2]at h ⊢
   by_cases h3:(bs.getD 0 0==196)=false
   ·rw[if_pos h3]at h;cases h
   ·rw[if_neg h3]at h ⊢
    by_cases h4:bs.length<2
    ·rw[if_pos h4]at h;cases h
    ·rw[if_neg h4]at h ⊢
     split at h
     ·cases h
     ·rename_i h5
      rw[if_neg h5]
      exact tl (Qaa bs c) h
theorem Qf0 {bs:List Int} {f:Fm} (hl:bs.length≤1000000) (hb:YM bs) (hcode:I64 f.code) (hv:f.vex=false) (h:(QA bs f).e=0):
  ∃c rx rest,JH f c=true∧bs=QcV f c rx rest∧QiJ f c rx∧wOf rx=f.w∧0≤c∧c≤255∧Qkh f (QJ bs (((Qh f).length+rx.length:Nat)+1)):=by
 obtain⟨c0,x0,p0,hH,hO,hM⟩:=QiI h
 have eH:Wj bs c0=Ki bs c0:=by unfold Wj;rw[x0,hv];rfl
 rw[eH]at hH hO hM
 obtain⟨c,rx,rest,h1,h2,h3,h4,h5,h6⟩:=Qkc hl hb hcode x0 p0 hH hO
 have hin:InB bs c0.p:=by rw[p0];exact .zero bs
 obtain⟨_,_,_,_,_,_,_,hx⟩:=Qlg hl hin hH
 have hk:=Qlc (bs:=bs) (c:=c0) hl hin
 obtain⟨s1,s2⟩:=QmW hl hk.2.2 hO
 have hm:=QpE hM
 obtain⟨b1,_⟩:=QoE hl hb (by rw[hx,x0];exact hcode) hk.2.2 hO
 rw[s2,hx,x0,s1,h5]at hm
 rw[h5]at b1
 obtain⟨n,n1,n2,n3,n4⟩:=hb.at (p:=(((Qh f).length+rx.length:Nat):Int)) (by omega) b1
 simp only[Int.toNat_natCast]at n3
 exact⟨c,rx,rest,h1,h2,h3,h4,by rw[h6,n3];omega,by rw[h6,n3];omega,hm⟩
theorem Qf1 {bs:List Int} {f:Fm} (hl:bs.length≤1000000) (hb:YM bs) (hcode:I64 f.code) (hv:f.vex=true) (h:(QA bs f).e=0):
  QdR (W2 bs).1 f=false∧JH f (bs.getD (W2 bs).2.1.toNat 0)=true∧(W2 bs).2.1<bs.length∧Qkh f (QJ bs ((W2 bs).2.1+1))∧bs.length≠0∧(bs.getD 0 0=196∨bs.getD 0 0=197):=by
 obtain⟨c0,x0,p0,hH,hO,hM⟩:=QiI h
 have eH:Wj bs c0=Vj bs c0:=by unfold Wj;rw[x0,hv];rfl
 rw[eH]at hH hO hM
 obtain⟨v1,v2,v3⟩:=QsS hH
 obtain⟨w1,w2⟩:=QpB hH
 have hp:=Qk0 bs
 have hin:InB bs (Vj bs c0).2.p:=by rw[v2];exact hp
 obtain⟨b1,b2⟩:=QoE hl hb (by rw[v3,x0];exact hcode) hin hO
 obtain⟨s1,s2⟩:=QmW hl hin hO
 have hm:=QpE hM
 rw[s2,v3,x0,s1,v2]at hm
 rw[v3,x0,v2]at b2
 rw[v2]at b1
 rw[x0]at v1 w2
 refine⟨v1,b2,b1,hm,w1,?_⟩
 rcases Bool.or_eq_true _ _▸w2 with h | h
 ·exact .inl (by simpa using h)
 ·simp only[Bool.and_eq_true,beq_iff_eq]at h
  exact .inr h.1.1
theorem Qvb {bs:List Int} {f:Fm} (hl:bs.length≤1000000) (hb:YM bs) (hf:QjC f=true) (hv:f.vex=false) (h:(QA bs f).e=0) (h1:bs.length≠0) (h2:bs.getD 0 0=196∨bs.getD 0 0=197):False:=by
 obtain⟨c,rx,rest,a1,a2,a3,_⟩:=Qf0 hl hb (QcY hf).1 hv h
 have ff:=Qbl hf hv
 obtain⟨r,hr⟩:=Qer (rest:=rest) a3
 rw[← a2]at hr
 cases bs with
 | nil=>exact h1 rfl
 | cons x t=>
  have h2:x=196∨x=197:=h2
  have e:QcX (x::t)=x::t:=by
   rcases h2 with rfl | rfl<;>rfl
  rw[e]at hr
  cases hlf:Qh f with
  | nil=>
   have:stp f c=[c]:=by unfold stp;rw[hlf];rfl
   rw[this]at hr
   have hx:x=c:=(List.cons.inj hr).1
   obtain⟨n1,n2⟩:=ff.nv hlf
   rcases h2 with e | e
   ·rw[← hx,e,n1]at a1;cases a1
   ·rw[← hx,e,n2]at a1;cases a1
  | cons b l=>
   have:stp f c=(b.toNat:Int)::(l.map (fun b=>(b.toNat:Int))++[c]):=by unfold stp;rw[hlf];rfl
   rw[this]at hr
   have hx:x=(b.toNat:Int):=(List.cons.inj hr).1
   obtain⟨m1,m2⟩:=Qkd f b (by rw[hlf];exact List.mem_cons_self ..)
   rcases h2 with e | e
   ·exact m1 (UInt8.toNat_inj.1 (show b.toNat=(196:UInt8).toNat by show b.toNat=196;omega))
   ·exact m2 (UInt8.toNat_inj.1 (show b.toNat=(197:UInt8).toNat by show b.toNat=197;omega))
theorem QiQ {bs:List Int} {f g:Fm} (hl:bs.length≤1000000) (hb:YM bs) (hf:QjC f=true) (hg:QjC g=true) (h1:(QA bs f).e=0) (h2:(QA bs g).e=0):Qfp f g=true:=by
 obtain⟨cf,sf⟩:=QcY hf
 obtain⟨cg,sg⟩:=QcY hg
 have eM:Qfp f g=((f.vex==g.vex)&&(f.pre==g.pre)&&(f.map==g.map)&&(f.l==g.l) &&
  !((!(f.w==g.w)&&!(f.w==-1)&&!(g.w==-1))||!QoF f g) &&
  ((!decide (0≤QZ f.slots 2)||!decide (0≤QZ g.slots 2))||(!(decide (0≤f.digit)&&decide (0≤g.digit)&&!(f.digit==g.digit))&&!((Qg5 f&&Qg6 g)||(Qg6 f&&Qg5 g))))):=rfl
 cases vf:f.vex with
 | false=>
  cases vg:g.vex with
  | false=>
   obtain⟨c,rx,rest,a1,a2,a3,a4,a5,a6,a7⟩:=Qf0 hl hb cf vf h1
   obtain⟨d,rx',rest',b1,b2,b3,b4,b5,b6,b7⟩:=Qf0 hl hb cg vg h2
   have ff:=Qbl hf vf
   have fg:=Qbl hg vg
   obtain⟨r,hr⟩:=Qer (rest:=rest) a3
   obtain⟨s,hs⟩:=Qer (rest:=rest') b3
   rw[← a2]at hr
   rw[← b2]at hs
   obtain⟨e1,rfl⟩:=QqV a1 b1 (hr.symm.trans hs) (ff.no _ (QiP fg)) (fg.no _ (QiP ff))
   obtain⟨e2,e3⟩:=QsR ff fg e1
   have e4:stp f c=stp g c:=by unfold stp;rw[e1]
   have e5:=QuG (a2.symm.trans b2) e2 e4 a3 b3
   rw[← e5,← e1]at b7
   rw[← e5]at b4
   have hm:=QmX sf sg a7 b7
   rw[eM,hm,QmV a5 a6 a1 b1,vf,vg,e2,e3,ff.l0,fg.l0,← a4,← b4]
   simp
  | true=>
   obtain⟨_,_,_,_,n1,n2⟩:=Qf1 hl hb cg vg h2
   exact(Qvb hl hb hf vf h1 n1 n2).elim
 | true=>
  obtain⟨v1,v2,v3,v4,n1,n2⟩:=Qf1 hl hb cf vf h1
  cases vg:g.vex with
  | false=>exact(Qvb hl hb hg vg h2 n1 n2).elim
  | true=>
   obtain⟨w1,w2,w3,w4,_⟩:=Qf1 hl hb cg vg h2
   have hm:=QmX sf sg v4 w4
   have hp:=Qk0 bs
   obtain⟨n,k1,k2,k3,k4⟩:=hb.at hp.1 v3
   rw[k3]at v2 w2
   have ho:=QmV (by omega) (by omega) v2 w2
   unfold QdR at v1 w1
   simp only[Bool.or_eq_false_iff,Bool.not_eq_false',beq_iff_eq,Bool.and_eq_false_iff]at v1 w1
   obtain⟨⟨⟨x1,x2⟩,x3⟩,x4⟩:=v1
   obtain⟨⟨⟨y1,y2⟩,y3⟩,y4⟩:=w1
   have hw:(!(f.w==g.w)&&!(f.w==-1)&&!(g.w==-1))=false:=by
    rcases x2 with x2 | x2
    ·simp[x2]
    ·rcases y2 with y2 | y2
     ·simp[y2]
     ·simp[← x2,← y2]
   rw[eM,hm,ho,vf,vg,hw,← x1,← y1,← x3,← y3,← x4,← y4]
   simp
theorem Qes {P:Program} {f:Nat} {t:TypeId} {fs:Array Field} {xs ys:Array Value} (h:P.underlying t=some (.struct fs)) (hs:P.stoodInHeld t=false):aeq P (f+1) t (.agg xs) (.agg ys)=WD P (aeq P f) fs.toList xs ys:=by
 unfold aeq
 rw[h]
 simp[hs]
theorem Qbm {P:Program} {f:Nat} {t:TypeId} {k:IntKind} {a b:Int} (h:P.underlying t=some (.int k)):aeq P (f+1) t (.int k a) (.int k b)=some (a==b):=by
 unfold aeq
 rw[h]
 simp
theorem X5 {P:Program} {eq:TypeId→Value→Value→Option Bool} {fd:Field} {fs:List Field} {xs ys:Array Value} {a b:Value} {r s:Bool} (hn:(fd.name == "_")=false) (ha:JJ P fd.type xs fd.offset=some a) (hb:JJ P fd.type ys fd.offset=some b) (he:eq fd.type a b=some r) (hr:WD P eq fs xs ys=some s):
  WD P eq (fd::fs) xs ys=some (r&&s):=by
 have hn':¬fd.name = "_" := by simpa using hn
 show(if fd.name = "_" then WD P eq fs xs ys else match JJ P fd.type xs fd.offset,JJ P fd.type ys fd.offset with
  | some a,some b=>match eq fd.type a b with
   | some true=>WD P eq fs xs ys
   | r=>r
  | _,_=>none)=_
 rw[if_neg hn',ha,hb]
 simp only[he]
 cases r
 ·rfl
 ·rw[hr];rfl
theorem QiR {P:Program} {eq:TypeId→Value→Value→Option Bool} {xs ys:Array Value}:WD P eq [] xs ys=some true:=rfl
theorem QiS:prog.underlying 3=some (.int .i64):=by kernel_rfl
theorem Qwo:prog.underlying Q3=some (.struct #[⟨ "Class",3,0,false, "", "",0⟩,⟨ "N",3,1,false, "", "",8⟩]):=by kernel_rfl
theorem Qwp:prog.underlying Qv=some (.struct #[⟨ "Base",Q3,0,false, "", "",0⟩,⟨ "Index",Q3,2,false, "", "",16⟩,⟨ "Scale",3,4,false, "", "",32⟩,⟨ "Disp",3,5,false, "", "",40⟩,⟨ "Size",3,6,false, "", "",48⟩]):=by kernel_rfl
theorem Qwq:prog.underlying Qe=some (.struct #[⟨ "Kind",3,0,false, "", "",0⟩,⟨ "R",Q3,1,false, "", "",8⟩,⟨ "M",Qv,3,false, "", "",24⟩,⟨ "N",3,10,false, "", "",80⟩]):=by kernel_rfl
theorem Qlj (f:Nat) (a b c d:Int):aeq prog (f+2) Q3 (.agg #[.int .i64 a,.int .i64 b]) (.agg #[.int .i64 c,.int .i64 d])=some ((a==c)&&((b==d)&&true)):=by
 rw[Qes Qwo (by kernel_rfl)]
 exact X5 (by rfl) (a:=.int .i64 a) (b:=.int .i64 c) (by kernel_rfl) (by kernel_rfl) (Qbm QiS) (X5 (by rfl) (a:=.int .i64 b) (b:=.int .i64 d) (by kernel_rfl) (by kernel_rfl) (Qbm QiS) QiR)
theorem QuH (f:Nat) (a1 a2 a3 a4 a5 a6 a7 b1 b2 b3 b4 b5 b6 b7:Int):aeq prog (f+3) Qv (.agg #[.int .i64 a1,.int .i64 a2,.int .i64 a3,.int .i64 a4,.int .i64 a5,.int .i64 a6,.int .i64 a7]) (.agg #[.int .i64 b1,.int .i64 b2,.int .i64 b3,.int .i64 b4,.int .i64 b5,.int .i64 b6,.int .i64 b7]) =
  some (((a1==b1)&&((a2==b2)&&true))&&(((a3==b3)&&((a4==b4)&&true))&&((a5==b5)&&((a6==b6)&&((a7==b7)&&true))))):=by
 rw[Qes Qwp (by kernel_rfl)]
 exact X5 (by rfl) (a:=.agg #[.int .i64 a1,.int .i64 a2]) (b:=.agg #[.int .i64 b1,.int .i64 b2]) (by kernel_rfl) (by kernel_rfl) (Qlj f _ _ _ _)
  (X5 (by rfl) (a:=.agg #[.int .i64 a3,.int .i64 a4]) (b:=.agg #[.int .i64 b3,.int .i64 b4]) (by kernel_rfl) (by kernel_rfl) (Qlj f _ _ _ _)
  (X5 (by rfl) (a:=.int .i64 a5) (b:=.int .i64 b5) (by kernel_rfl) (by kernel_rfl) (Qbm QiS)
  (X5 (by rfl) (a:=.int .i64 a6) (b:=.int .i64 b6) (by kernel_rfl) (by kernel_rfl) (Qbm QiS)
  (X5 (by rfl) (a:=.int .i64 a7) (b:=.int .i64 b7) (by kernel_rfl) (by kernel_rfl) (Qbm QiS) QiR))))
theorem QuI (f:Nat) (a b:Ar):aeq prog (f+4) Qe (.agg a.cells.toArray) (.agg b.cells.toArray)=some (decide (a=b)):=by
 obtain⟨k,⟨rc,rn⟩,⟨⟨bc,bn⟩,⟨ic,iN⟩,sc,dd,sz⟩,n⟩:=a
 obtain⟨k',⟨rc',rn'⟩,⟨⟨bc',bn'⟩,⟨ic',iN'⟩,sc',dd',sz'⟩,n'⟩:=b
 have e:=Qes (f:=f+3) (xs:=#[.int .i64 k,.int .i64 rc,.int .i64 rn,.int .i64 bc,.int .i64 bn,.int .i64 ic,.int .i64 iN,.int .i64 sc,.int .i64 dd,.int .i64 sz,.int .i64 n]) (ys:=#[.int .i64 k',.int .i64 rc',.int .i64 rn',.int .i64 bc',.int .i64 bn',.int .i64 ic',.int .i64 iN',.int .i64 sc',.int .i64 dd',.int .i64 sz',.int .i64 n']) Qwq (by kernel_rfl)
 have e2:=X5 (P:=prog) (eq:=aeq prog (f+3)) (fd:=⟨ "Kind",3,0,false, "", "",0⟩) (by rfl) (a:=.int .i64 k) (b:=.int .i64 k') (xs:=#[.int .i64 k,.int .i64 rc,.int .i64 rn,.int .i64 bc,.int .i64 bn,.int .i64 ic,.int .i64 iN,.int .i64 sc,.int .i64 dd,.int .i64 sz,.int .i64 n]) (ys:=#[.int .i64 k',.int .i64 rc',.int .i64 rn',.int .i64 bc',.int .i64 bn',.int .i64 ic',.int .i64 iN',.int .i64 sc',.int .i64 dd',.int .i64 sz',.int .i64 n']) (by kernel_rfl) (by kernel_rfl) (Qbm QiS)
  (X5 (fd:=⟨ "R",Q3,1,false, "", "",8⟩) (by rfl) (a:=.agg #[.int .i64 rc,.int .i64 rn]) (b:=.agg #[.int .i64 rc',.int .i64 rn']) (by kernel_rfl) (by kernel_rfl) (Qlj (f+1) _ _ _ _)
  (X5 (fd:=⟨ "M",Qv,3,false, "", "",24⟩) (by rfl) (a:=.agg #[.int .i64 bc,.int .i64 bn,.int .i64 ic,.int .i64 iN,.int .i64 sc,.int .i64 dd,.int .i64 sz]) (b:=.agg #[.int .i64 bc',.int .i64 bn',.int .i64 ic',.int .i64 iN',.int .i64 sc',.int .i64 dd',.int .i64 sz']) (by kernel_rfl) (by kernel_rfl) (QuH f _ _ _ _ _ _ _ _ _ _ _ _ _ _)
  (X5 (fd:=⟨ "N",3,10,false, "", "",80⟩) (by rfl) (a:=.int .i64 n) (b:=.int .i64 n') (by kernel_rfl) (by kernel_rfl) (Qbm QiS) QiR)))
 refine(e.trans e2).trans ?_
 congr 1
 rw[Bool.eq_iff_iff]
 simp[and_assoc]
theorem Qwr {A:Env} {H:Qa} {k:Value→Qa→Prop} {x y:Operand} {t':TypeId} (a b:Ar) (hc:(Qdd x||Qdd y)=false) (hx:ev A x=.agg a.cells.toArray) (hy:ev A y=.agg b.cells.toArray):
  pr prog (.gen (.binOp .neq Qe x y t')) false A H k=k (.bool (!decide (a=b))) H:=by
 have hg:YE prog false Qe (.agg a.cells.toArray) (.agg b.cells.toArray)=true:=by
  have h:prog.eqGuardType prog.depth Qe=false:=by kernel_rfl
  simp[YE,QeC,QlO,h]
 have e:rop prog (.gen (.binOp .neq Qe x y t')) A H=some (.bool (!decide (a=b)),H):=by
  simp only[rop,aop,QaY,QlY,hx,hy,hc,QhE,KK,hg,Bool.and_self,if_true,QuI 16]
  rfl
 refine(QP _).trans ?_
 rw[e,Ql]
theorem QoG (va vb:Value) (xs ys:List Ar) (H:Qa) (ha:Yv H va xs) (hb:Yv H vb ys) (hlx:xs.length≤1000000) (hly:ys.length≤1000000):Qf prog Ya [va,vb] H fun u H'=>u=.bool (decide (xs=ys))∧H'=H:=by
 refine QaO fun hw=>?_
 obtain⟨aa,acap,rfl,hsa⟩:=ha
 obtain⟨ba,bcap,rfl,hsb⟩:=hb
 simp only[JF,sxA,sxB,Nat.reduceBEq,Nat.reduceEqDiff,reduceCtorEq,mxA,mxB,Nat.reduceAdd,reduceIte,Nat.reduceLeDiff,splice]
 by_cases hne:xs.length=ys.length
 ·have e0:((xs.length:Int)==(ys.length:Int))=true:=by simp[hne]
  simp only[e0,sxA,sxB,Nat.reduceBEq,Nat.reduceEqDiff,reduceCtorEq,mxA,mxB,Nat.reduceAdd,reduceIte,Nat.reduceLeDiff,splice]
  refine QX (fun m A' H'=>∃i:Nat,i≤xs.length∧m=xs.length - i∧H'=H∧(∀j,j<i→xs[j]? = ys[j]?)∧A' 0=.slice aa xs.length acap∧A' 1=.slice ba ys.length bcap∧A' 5=.int .i64 i) xs.length ?_ ?_
  ·refine⟨0,Nat.zero_le _,by omega,rfl,fun j h=>by omega,?_,?_,?_⟩
   all_goals simp only[uxA,uxB,Nat.reduceBEq]
   rfl
  ·rintro m A' H' ⟨i,hi,rfl,hEq,hall,r0,r1,r5⟩
   subst hEq
   simp only[sxA,sxB,Nat.reduceBEq,Nat.reduceEqDiff,reduceCtorEq,mxA,mxB,Nat.reduceAdd,reduceIte,Nat.reduceLeDiff,splice,r0,r1,r5]
   refine Qg (fun h2=>?_) (fun h2=>?_)
   ·have h2:i<xs.length:=by have:=of_decide_eq_true h2;omega
    obtain⟨b1,e1,ro1,rfl,hb1⟩:=hsa (by omega)
    obtain⟨b2,e2,ro2,rfl,hb2⟩:=hsb (by omega)
    have c1:(0:Int)≤i∧(i:Int)<xs.length:=by omega
    have c2:(0:Int)≤i∧(i:Int)<ys.length:=by omega
    have c3:(i:Int).toNat=i:=by omega
    have c4:i * 11+11≤xs.length * 11:=by omega
    have c5:i * 11+11≤ys.length * 11:=by omega
    have ei:IntKind.i64.wrap ((i:Int)+1)=((i+1:Nat):Int):=by rw[w64 (by unfold I64;omega)];omega
    have h2':i<ys.length:=by omega
    have p1:=List.getElem?_eq_getElem h2
    have p2:=List.getElem?_eq_getElem h2'
    have d1:=GG xs i _ p1
    have d2:=GG ys i _ p2
    have n1:=WY xs
    have n2:=WY ys
    generalize xs[i]=x at *
    generalize ys[i]=y at *
    have a1:(x.cells.all fun v=>v.oneCell')=true:=rfl
    have a2:(y.cells.all fun v=>v.oneCell')=true:=rfl
    simp only[sxA,sxB,Nat.reduceBEq,Nat.reduceEqDiff,reduceCtorEq,mxA,mxB,Nat.reduceAdd,reduceIte,Nat.reduceLeDiff,splice,r0,r1,r5,c1,c2,c3,c4,c5,hb1,hb2,d1,d2,n1,n2,a1,a2,Q4]
    rw[Qwr x y rfl (by simp only[uxA,uxB,Nat.reduceBEq]) (by simp only[uxA,uxB,Nat.reduceBEq])]
    by_cases h3:x=y
    ·have e3:decide (x=y)=true:=decide_eq_true h3
     simp only[sxA,sxB,Nat.reduceBEq,Nat.reduceEqDiff,reduceCtorEq,mxA,mxB,Nat.reduceAdd,reduceIte,Nat.reduceLeDiff,splice,e3,r5,ei]
     refine⟨xs.length - (i+1),by omega,i+1,by omega,rfl,rfl,fun j hj=>?_,?_,?_,?_⟩
     ·rcases Nat.lt_or_ge j i with h | h
      ·exact hall j h
      ·rw[show j=i by omega,p1,p2,h3]
     all_goals simp only[uxA,uxB,Nat.reduceBEq,r0,r1]
    ·have e3:decide (x=y)=false:=decide_eq_false h3
     simp only[sxA,sxB,Nat.reduceBEq,Nat.reduceEqDiff,reduceCtorEq,mxA,mxB,Nat.reduceAdd,reduceIte,Nat.reduceLeDiff,splice,e3,XR]
     have h4:xs≠ys:=fun h=>by
      rw[h,p2]at p1
      exact h3 (Option.some.inj p1).symm
     exact .mk (Nat.le_refl _) ⟨by rw[decide_eq_false h4],rfl⟩
   ·have h2:i=xs.length:=by have:=of_decide_eq_false h2;omega
    subst h2
    simp only[sxA,sxB,Nat.reduceBEq,Nat.reduceEqDiff,reduceCtorEq,mxA,mxB,Nat.reduceAdd,reduceIte,Nat.reduceLeDiff,splice,XR]
    have heq:xs=ys:=by
     refine List.ext_getElem? fun i=>?_
     by_cases h1:i<xs.length
     ·exact hall i h1
     ·rw[List.getElem?_eq_none (by omega),List.getElem?_eq_none (by omega)]
    exact .mk (Nat.le_refl _) ⟨by rw[decide_eq_true heq],rfl⟩
 ·have e0:((xs.length:Int)==(ys.length:Int))=false:=by simp;omega
  simp only[e0,sxA,sxB,Nat.reduceBEq,Nat.reduceEqDiff,reduceCtorEq,mxA,mxB,Nat.reduceAdd,reduceIte,Nat.reduceLeDiff,splice,XR]
  exact .mk (Nat.le_refl _) ⟨by rw[decide_eq_false (fun h=>hne (by rw[h]))],rfl⟩
theorem QiT (o p:Int) (va vb:Value) (xs ys:List Ar) (H:Qa) (ha:Yv H va xs) (hb:Yv H vb ys) (hlx:xs.length≤1000000) (hly:ys.length≤1000000):Qf prog X8 [.agg #[.int .i64 o,va],.agg #[.int .i64 p,vb]] H fun u H'=>u=.bool ((o==p)&&decide (xs=ys))∧∃k,H'=H.up k:=by
 refine QaN fun hw=>?_
 have hx:Ext H ((H.push (.cells [.int .i64 o,va] Qb false)).push (.cells [.int .i64 p,vb] Qb false)):=((Ext.refl H).push _).push _
 have ha2:=ha.ext hw hx
 have hb2:=hb.ext hw hx
 have q:=QoG va vb xs ys _ ha2 hb2 hlx hly
 obtain⟨aa,acap,rfl,hsa⟩:=ha
 obtain⟨ba,bcap,rfl,hsb⟩:=hb
 simp only[JE,sxA,sxB,Nat.reduceBEq,Nat.reduceEqDiff,reduceCtorEq,mxA,mxB,Nat.reduceAdd,reduceIte,Nat.reduceLeDiff,splice,WZ]
 cases h1:o==p
 ·simp only[sxA,sxB,Nat.reduceBEq,Nat.reduceEqDiff,reduceCtorEq,mxA,mxB,Nat.reduceAdd,reduceIte,Nat.reduceLeDiff,splice,WZ]
  exact .ext hw hx ⟨rfl,_,rfl⟩
 ·simp only[sxA,sxB,Nat.reduceBEq,Nat.reduceEqDiff,reduceCtorEq,mxA,mxB,Nat.reduceAdd,reduceIte,Nat.reduceLeDiff,splice,WZ]
  refine q.thenW ?_
  rintro _ _ hn hw2 ⟨rfl,rfl⟩
  simp only[sxA,sxB,Nat.reduceBEq,Nat.reduceEqDiff,reduceCtorEq,mxA,mxB,Nat.reduceAdd,reduceIte,Nat.reduceLeDiff,splice,WZ]
  exact .ext hw hx ⟨by simp,_,rfl⟩
theorem JY (va vb:Value) (xs ys:List Int) (H:Qa) (ha:KX H va xs.length (ints xs)) (hb:KX H vb ys.length (ints ys)) (hlx:xs.length≤1000000) (hly:ys.length≤1000000):Qf prog W8 [va,vb] H fun u H'=>u=.bool (decide (xs=ys))∧H'=H:=by
 refine QaP fun hw=>?_
 obtain⟨aa,acap,rfl,hsa⟩:=ha
 obtain⟨ba,bcap,rfl,hsb⟩:=hb
 simp only[JG,sxA,sxB,mxA,mxB,splice,simprocAttr]
 by_cases hne:xs.length=ys.length
 ·have e0:((xs.length:Int)==(ys.length:Int))=true:=by simp[hne]
  simp only[e0,sxA,sxB,mxA,mxB,splice,simprocAttr]
  refine QX (fun m A' H'=>∃i:Nat,i≤xs.length∧m=xs.length - i∧H'=H∧(∀j,j<i→xs.getD j 0=ys.getD j 0)∧A' 0=.slice aa xs.length acap∧A' 1=.slice ba ys.length bcap∧A' 12=.int .i64 xs.length∧A' 13=.int .i64 i) xs.length ?_ ?_
  ·refine⟨0,Nat.zero_le _,by omega,rfl,fun j h=>by omega,?_,?_,?_,?_⟩
   all_goals simp only[uxA,uxB,simprocAttr]
   all_goals rfl
  ·rintro m A' H' ⟨i,hi,rfl,hEq,hall,r0,r1,r12,r13⟩
   subst hEq
   simp only[sxA,sxB,mxA,mxB,splice,simprocAttr,r0,r1,r12,r13]
   refine Qg (fun h2=>?_) (fun h2=>?_)
   ·have h2:i<xs.length:=by have:=of_decide_eq_true h2;omega
    obtain⟨b1,e1,ro1,rfl,hb1⟩:=hsa (by omega)
    obtain⟨b2,e2,ro2,rfl,hb2⟩:=hsb (by omega)
    have c1:(0:Int)≤i∧(i:Int)<xs.length:=by omega
    have c2:(0:Int)≤i∧(i:Int)<ys.length:=by omega
    have c3:(i:Int).toNat=i:=by omega
    have ei:IntKind.i64.wrap ((i:Int)+1)=((i+1:Nat):Int):=by rw[w64 (by unfold I64;omega)];omega
    have g1:=KG (l:=xs) (i:=i) (by omega)
    have g2:=KG (l:=ys) (i:=i) (by omega)
    simp only[sxA,sxB,mxA,mxB,splice,simprocAttr,r0,r1,r12,r13,c1,c2,c3,hb1,hb2,g1,g2]
    refine Qg (fun h3=>?_) (fun h3=>?_)
    ·have h3:¬xs.getD i 0=ys.getD i 0:=by simpa using h3
     simp only[sxA,sxB,mxA,mxB,splice,simprocAttr,XS]
     exact .mk (Nat.le_refl _) ⟨by rw[decide_eq_false (fun h=>h3 (by rw[h]))],rfl⟩
    ·have h3:xs.getD i 0=ys.getD i 0:=by simpa using h3
     simp only[sxA,sxB,mxA,mxB,splice,simprocAttr,r13,ei]
     refine⟨xs.length - (i+1),by omega,i+1,by omega,rfl,rfl,fun j hj=>?_,?_,?_,?_,?_⟩
     ·rcases Nat.lt_or_ge j i with h | h
      ·exact hall j h
      ·rw[show j=i by omega];exact h3
     all_goals simp only[uxA,uxB,simprocAttr,r0,r1,r12]
   ·have h2:i=xs.length:=by have:=of_decide_eq_false h2;omega
    subst h2
    simp only[sxA,sxB,mxA,mxB,splice,simprocAttr,XS]
    have heq:xs=ys:=by
     apply List.ext_getElem hne
     intro i h1 h2
     have:=hall i h1
     simpa[List.getD,List.getElem?_eq_getElem h1,List.getElem?_eq_getElem h2] using this
    exact .mk (Nat.le_refl _) ⟨by rw[decide_eq_true heq],rfl⟩
 ·have e0:((xs.length:Int)==(ys.length:Int))=false:=by simp;omega
  simp only[e0,sxA,sxB,mxA,mxB,splice,simprocAttr,XS]
  exact .mk (Nat.le_refl _) ⟨by rw[decide_eq_false (fun h=>hne (by rw[h]))],rfl⟩
def eqF (a b:Fm):Bool:=(a.op==b.op)&&decide (a.shapes=b.shapes)&&decide (a.slots=b.slots)&&(a.pre==b.pre)&&(a.map==b.map)&&(a.code==b.code)&&(a.digit==b.digit)&&(a.w==b.w)&&(a.vex==b.vex)&&(a.l==b.l)
theorem Qws (a b:Fm):eqF a b=decide (a=b):=by
 rw[Bool.eq_iff_iff]
 obtain⟨a1,a2,a3,a4,a5,a6,a7,a8,a9,a10⟩:=a
 obtain⟨b1,b2,b3,b4,b5,b6,b7,b8,b9,b10⟩:=b
 simp[eqF,and_assoc]
 intro _
 constructor
 ·rintro⟨h2,h3,h4,h5,h6,h7,h8,h9,h10⟩;exact⟨h4,h5,h6,h7,h8,h10,h9,h2,h3⟩
 ·rintro⟨h4,h5,h6,h7,h8,h10,h9,h2,h3⟩;exact⟨h2,h3,h4,h5,h6,h7,h8,h9,h10⟩
theorem QuJ (x y:Lf) (H:Qa) (hx:x.At H) (hy:y.At H):Qf prog GK [.agg x.cells.toArray,.agg y.cells.toArray] H fun u H'=>u=.bool (eqF x.f y.f)∧∃m,H'=H.up m:=by
 refine Qg7 fun hw=>?_
 have ex:(Value.agg x.cells.toArray).cells.toList=x.cells:=rfl
 have ey:(Value.agg y.cells.toArray).cells.toList=y.cells:=rfl
 have hxx:Ext H ((H.push (.cells x.cells Qc false)).push (.cells y.cells Qc false)):=((Ext.refl H).push _).push _
 obtain⟨l1,l2,h1,h2⟩:=hx.ext hw hxx
 obtain⟨l3,l4,h3,h4⟩:=hy.ext hw hxx
 have x0:x.cells[0]? = some (.int .i64 x.f.op):=rfl
 have x1:x.cells[1]? = some x.sv:=rfl
 have x2:x.cells[2]? = some x.tv:=rfl
 have x3:x.cells[3]? = some (.int .i64 x.f.pre):=rfl
 have x4:x.cells[4]? = some (.int .i64 x.f.map):=rfl
 have x5:x.cells[5]? = some (.int .i64 x.f.code):=rfl
 have x6:x.cells[6]? = some (.int .i64 x.f.digit):=rfl
 have x7:x.cells[7]? = some (.int .i64 x.f.w):=rfl
 have x8:x.cells[8]? = some (.bool x.f.vex):=rfl
 have x9:x.cells[9]? = some (.int .i64 x.f.l):=rfl
 have y0:y.cells[0]? = some (.int .i64 y.f.op):=rfl
 have y1:y.cells[1]? = some y.sv:=rfl
 have y2:y.cells[2]? = some y.tv:=rfl
 have y3:y.cells[3]? = some (.int .i64 y.f.pre):=rfl
 have y4:y.cells[4]? = some (.int .i64 y.f.map):=rfl
 have y5:y.cells[5]? = some (.int .i64 y.f.code):=rfl
 have y6:y.cells[6]? = some (.int .i64 y.f.digit):=rfl
 have y7:y.cells[7]? = some (.int .i64 y.f.w):=rfl
 have y8:y.cells[8]? = some (.bool y.f.vex):=rfl
 have y9:y.cells[9]? = some (.int .i64 y.f.l):=rfl
 have fin:∀ (b:Bool),b=eqF x.f y.f→Ret H (fun u H'=>u=.bool (eqF x.f y.f)∧∃m,H'=H.up m) (.bool b) ((H.push (.cells x.cells Qc false)).push (.cells y.cells Qc false)):=fun b hb=>.ext hw hxx ⟨by rw[hb],_,rfl⟩
 simp only[QbS,ex,ey,sxA,sxB,mxA,mxB,splice,simprocAttr,x1,y1]
 refine(JY _ _ x.f.shapes y.f.shapes _ h1 h3 (by omega) (by omega)).mono ?_
 rintro _ _ ⟨rfl,rfl⟩
 cases q1:decide (x.f.shapes=y.f.shapes)<;>simp only[sxA,sxB,mxA,mxB,splice,simprocAttr,x2,y2,Wi]
 ·exact fin _ (by simp[eqF,q1])
 refine(JY _ _ x.f.slots y.f.slots _ h2 h4 (by omega) (by omega)).mono ?_
 rintro _ _ ⟨rfl,rfl⟩
 cases q2:decide (x.f.slots=y.f.slots)<;>simp only[sxA,sxB,mxA,mxB,splice,simprocAttr,VW,x0,y0,Wi]
 ·exact fin _ (by simp[eqF,q1,q2])
 cases q0:x.f.op==y.f.op<;>simp only[sxA,sxB,mxA,mxB,splice,simprocAttr,x3,y3,Wi]
 ·exact fin _ (by simp[eqF,q0])
 cases q3:x.f.pre==y.f.pre<;>simp only[sxA,sxB,mxA,mxB,splice,simprocAttr,x4,y4,Wi]
 ·exact fin _ (by simp[eqF,q0,q1,q2,q3])
 cases q4:x.f.map==y.f.map<;>simp only[sxA,sxB,mxA,mxB,splice,simprocAttr,x5,y5,Wi]
 ·exact fin _ (by simp[eqF,q0,q1,q2,q3,q4])
 cases q5:x.f.code==y.f.code<;>simp only[sxA,sxB,mxA,mxB,splice,simprocAttr,VV,x6,y6,Wi]
 ·exact fin _ (by simp[eqF,q0,q1,q2,q3,q4,q5])
 cases q6:x.f.digit==y.f.digit<;>simp only[sxA,sxB,mxA,mxB,splice,simprocAttr,x7,y7,Wi]
 ·exact fin _ (by simp[eqF,q0,q1,q2,q3,q4,q5,q6])
 cases q7:x.f.w==y.f.w<;>simp only[sxA,sxB,mxA,mxB,splice,simprocAttr,x8,y8,Wi]
 ·exact fin _ (by simp[eqF,q0,q1,q2,q3,q4,q5,q6,q7])
 cases q8:x.f.vex==y.f.vex<;>simp only[sxA,sxB,mxA,mxB,splice,simprocAttr,x9,y9,Wi]
 ·exact fin _ (by simp[eqF,q0,q1,q2,q3,q4,q5,q6,q7,q8])
 exact fin _ (by simp[eqF,q0,q1,q2,q3,q4,q5,q6,q7,q8])
def byM (bs:List Int) (f:Fm) (L:List Fm):Dr:=if f∈L then QA bs f else Qab 2
theorem Qxh {T:Qa→Prop} {L:List Fm} {bs:List Int} (hO:∀op H,T H→Qf prog Yb [.int .i64 op] H fun u H'=>Qfi H H' u (L.filter fun f=>f.op==op)) (hL:∀f∈L,f.shapes.length=f.slots.length) (x:Lf) (va:Value) (hT:∀H H',H.Wf→T H→Ext H H'→T H') (H:Qa) (ht:T H) (hx:x.At H) (hb:QbY H va bs) (hbl:bs.length≤100000):
  Qf prog VB [.agg x.cells.toArray,va] H (QdU H (byM bs x.f L)):=by
 refine Qli fun hw=>?_
 have ex:(Value.agg x.cells.toArray).cells.toList=x.cells:=rfl
 have x0:x.cells[0]? = some (.int .i64 x.f.op):=rfl
 have ax0:=W5 hx
 simp only[Qfq,ex,sxA,sxB,mxA,mxB,splice,simprocAttr]
 have hx0:Ext H ((H.push (.cells x.cells Qc false)).push (.cells [.int .i64 0,.slice none 0 0] Qb false)):=((Ext.refl H).push _).push _
 have hgf:((H.push (.cells x.cells Qc false)).push (.cells [.int .i64 0,.slice none 0 0] Qb false)).get H.next=some (.cells x.cells Qc false):=by rw[Qa.get_push,Qa.next_push,if_neg (by omega),Qa.get_push,if_pos rfl]
 have hg0:((H.push (.cells x.cells Qc false)).push (.cells [.int .i64 0,.slice none 0 0] Qb false)).get (H.next+1)=some (.cells [.int .i64 0,.slice none 0 0] Qb false):=by rw[Qa.get_push,Qa.next_push,if_pos rfl]
 have hw0:=(hw.push (.cells x.cells Qc false)).push (.cells [.int .i64 0,.slice none 0 0] Qb false)
 generalize (H.push (.cells x.cells Qc false)).push (.cells [.int .i64 0,.slice none 0 0] Qb false)=H0 at hx0 hgf hg0 hw0
 simp only[sxA,sxB,mxA,mxB,splice,simprocAttr,hgf,x0,Qa.next_push]
 refine(hO x.f.op H0 (hT _ _ hw ht hx0)).thenW ?_
 rintro v1 H1 hn1 hw1 ⟨hx1,ys,e1,ha1,hl1,hf1⟩
 obtain⟨⟨aa,cap,rfl,hsl⟩,hxa⟩:=id ha1.fms
 obtain⟨r,hr⟩:∃r,r=byM bs x.f L:=⟨_,rfl⟩
 rw[← hr]
 have hmem:∀y∈ys,y.f∈L:=fun y hy=>by
  have:y.f∈ys.map (·.f):=List.mem_map_of_mem hy
  rw[e1]at this
  exact(List.mem_filter.1 this).1
 have hback:x.f∈L→∃y∈ys,y.f=x.f:=fun h=>by
  have:x.f∈L.filter fun f=>f.op==x.f.op:=List.mem_filter.2 ⟨h,by simp⟩
  rw[← e1]at this
  exact List.mem_map.1 this
 have hlt0:=hw0.lt hg0
 have hltf:=hw0.lt hgf
 simp only[sxA,sxB,mxA,mxB,splice,simprocAttr]
 refine QX (fun m A' H'=>∃ (k:Nat),k≤ys.length∧m=ys.length - k∧H'.Wf∧Ext H1 H'∧
   A' 1=va∧A' 2=.pointer (some ⟨H.next,0,none⟩)∧A' 4=.pointer (some ⟨H.next+1,0,none⟩)∧A' 11=.slice aa ys.length cap∧A' 12=.int .i64 ys.length∧A' 13=.int .i64 k∧∀y∈ys.take k,¬x.f=y.f) ys.length ?_ ?_
 ·refine⟨0,Nat.zero_le _,by omega,hw1,.refl _,?_,?_,?_,?_,?_,?_,?_⟩
  rotate_right
  ·intro y hy;simp at hy
  all_goals simp only[uxA,uxB,simprocAttr]
  all_goals rfl
 ·rintro m A' H3 ⟨k,hk,rfl,hw3,hx3,r1,r2,r4,r11,r12,r13,hnot⟩
  simp only[sxA,sxB,mxA,mxB,splice,simprocAttr,r12,r13]
  have hg3:H3.get (H.next+1)=some (.cells [.int .i64 0,.slice none 0 0] Qb false):=by rw[(hx1.trans hx3).get _ hlt0];exact hg0
  have hgf3:H3.get H.next=some (.cells x.cells Qc false):=by rw[(hx1.trans hx3).get _ hltf];exact hgf
  refine Qg (fun h3=>?_) (fun h3=>?_)
  ·have h3:k<ys.length:=by have:=of_decide_eq_true h3;omega
   obtain⟨b1,e1',ro1,rfl,hg1⟩:=hsl (by omega)
   have hg3':H3.get b1=some (.cells (QS ys) e1' ro1):=by rw[hx3.get _ (hw1.lt hg1)];exact hg1
   have d1:(0:Int)≤k∧(k:Int)<ys.length:=by omega
   have d3:(k:Int).toNat=k:=by omega
   have d4:k * 10+10≤ys.length * 10:=by omega
   have ek:IntKind.i64.wrap ((k:Int)+1)=((k+1:Nat):Int):=by rw[w64 (by unfold I64;omega)];omega
   have hpk:=List.getElem?_eq_getElem h3
   have dd:=Zq ys k _ hpk
   have nn:=Wx ys
   have hym:ys[k]∈ys:=List.getElem_mem h3
   have wk:=(hxa _ hym).ext hw1 hx3
   have htk:ys.take (k+1)=ys.take k++[ys[k]]:=by rw[List.take_add_one,hpk];rfl
   generalize ys[k]=y at hpk dd hym wk htk
   have ak:=W5 wk
   simp only[sxA,sxB,mxA,mxB,splice,simprocAttr,r11,r13,d1,d3,d4,hg3',nn,dd,Qp,QW,ak]
   obtain⟨G1,hG1⟩:∃h,h=(H3.push (.cells [.int .i64 0,.slice none 0 0,.slice none 0 0,.int .i64 0,.int .i64 0,.int .i64 0,.int .i64 0,.int .i64 0,.bool false,.int .i64 0] Qc false)).set H3.next (.cells y.cells Qc false):=⟨_,rfl⟩
   have hwG1:G1.Wf:=by rw[hG1];exact(hw3.push _).set (by rw[Qa.get_push,if_pos rfl]) _
   have hxG1:Ext H3 G1:=by rw[hG1];exact((Ext.refl H3).push _).set (Nat.le_refl _) _
   have hgy:G1.get H3.next=some (.cells y.cells Qc false):=by rw[hG1,Qa.get_set,if_pos rfl]
   have hgfG:G1.get H.next=some (.cells x.cells Qc false):=by rw[hxG1.get _ (hw3.lt hgf3)];exact hgf3
   have hgG:G1.get (H.next+1)=some (.cells [.int .i64 0,.slice none 0 0] Qb false):=by rw[hxG1.get _ (hw3.lt hg3)];exact hg3
   simp only[← hG1]
   clear hG1
   have hxa1:Ext H G1:=(hx0.trans hx1).trans (hx3.trans hxG1)
   have wy:=wk.ext hw3 hxG1
   have wx:=hx.ext hw hxa1
   simp only[sxA,sxB,mxA,mxB,splice,simprocAttr,r2,hgfG,hgy,Qp,QW,ax0,ak]
   refine(QuJ x y G1 wx wy).thenW ?_
   rintro _ _ hnq hwq ⟨rfl,kq,rfl⟩
   have hkq:G1.next≤kq:=hnq
   have hxq:=(Ext.refl G1).up hkq
   rw[Qws]
   have hgyq:(G1.up kq).get H3.next=some (.cells y.cells Qc false):=by rw[Qa.get_up];exact hgy
   have hgGq:(G1.up kq).get (H.next+1)=some (.cells [.int .i64 0,.slice none 0 0] Qb false):=by rw[Qa.get_up];exact hgG
   by_cases he:x.f=y.f
   ·have he1:decide (x.f=y.f)=true:=decide_eq_true he
    have hr2:r=QA bs y.f:=by
     rw[hr,byM,he,if_pos (hmem y hym)]
    simp only[sxA,sxB,mxA,mxB,splice,simprocAttr,he1,hgyq,Qp,QW,ak,r1]
    have byq:QbY (G1.up kq) va bs:=by
     obtain⟨a,c,hv,hby⟩:=hb
     refine⟨a,c,hv,fun hl=>?_⟩
     obtain⟨bb,o,e,ro,cs,e1,hg,hcs⟩:=hby hl
     exact⟨bb,o,e,ro,cs,e1,by rw[(hxa1.trans hxq).get bb (hw.lt hg),hg],hcs⟩
    refine(QsE y va bs (G1.up kq) (wy.ext hwG1 hxq) byq (by omega) (hL _ (hmem y hym))).thenW ?_
    rintro _ G2 hn4 hw4 ⟨hxG2,v',rfl,hv',hfr⟩
    rw[← hr2]at *
    obtain⟨va',vc',rfl,hv2⟩:=id hv'
    have hgG2:G2.get (H.next+1)=some (.cells [.int .i64 0,.slice none 0 0] Qb false):=by rw[hxG2.get _ (hwq.lt hgGq)];exact hgGq
    simp only[sxA,sxB,mxA,mxB,splice,simprocAttr,r4,hgG2,QdW]
    have hxx:Ext H (G2.set (H.next+1) (.cells [.int .i64 r.op,.slice va' r.l.length vc'] Qb false)):=(hxa1.trans (hxq.trans hxG2)).set (by omega) _
    have hlt2:=hwq.lt hgGq
    refine .mk hxx.next ⟨hxx,_,rfl,?_,fun a n c h=>?_⟩
    ·refine⟨va',vc',rfl,fun h=>?_⟩
     obtain⟨b2,e2,ro2,rfl,hg⟩:=hv2 h
     have h1:=hfr _ _ _ rfl
     simp only at h1
     exact⟨b2,e2,ro2,rfl,by rw[Qa.get_set,if_neg (by omega)];exact hg⟩
    ·have:=hfr a n c h
     have:=(hxa1.trans hxq).next
     omega
   ·have he1:decide (x.f=y.f)=false:=decide_eq_false he
    simp only[sxA,sxB,mxA,mxB,splice,simprocAttr,he1,r13,ek]
    refine⟨ys.length - (k+1),by omega,k+1,by omega,rfl,hwq,hx3.trans (hxG1.trans hxq),?_,?_,?_,?_,?_,?_,?_⟩
    rotate_right
    ·intro z hz
     rw[htk,List.mem_append]at hz
     rcases hz with hz | hz
     ·exact hnot z hz
     ·rw[List.mem_singleton.1 hz];exact he
    all_goals simp only[uxA,uxB,simprocAttr,r1,r2,r4,r11,r12]
  ·have h3:k=ys.length:=by have:=of_decide_eq_false h3;omega
   subst h3
   rw[List.take_length]at hnot
   have hr2:r=Qab 2:=by
    rw[hr,byM,if_neg]
    intro h
    obtain⟨y,hy,e⟩:=hback h
    exact hnot y hy e.symm
   have hxx:=hx0.trans (hx1.trans hx3)
   simp only[sxA,sxB,mxA,mxB,splice,simprocAttr,r4,hg3,QdW]
   have hxx2:=fun C=>hxx.set (i:=H.next+1) (by omega) C
   exact .mk (hxx2 _).next ⟨hxx2 _,_,by rw[hr2];rfl,by rw[hr2];exact⟨none,0,rfl,fun h=>absurd h (Nat.lt_irrefl 0)⟩,fun a n c h=>by cases h⟩
theorem QgH (ib:Int×Bool):∀l:List Ar,(WI ib l).1.length≤l.length
 | []=>Nat.le_refl _
 | a::l=>by
  have:=QgH ib l
  show(if((JX ib a).2==0)=true then((JX ib a).1::(WI ib l).1,(WI ib l).2) else([],(JX ib a).2)).1.length≤_
  split
  ·simp only[List.length_cons];omega
  ·exact Nat.zero_le _
theorem QqW (op:Int) (l:List Ar):(VS op l).length≤l.length+1:=by
 unfold VS
 split
 ·split
  ·simp
  ·omega
 ·split
  ·simp
  ·split
   ·simp
   ·omega
theorem QsT (op p:Int) (l:List Ar):(QmE op p l).l.length≤5:=by
 unfold QmE
 split
 ·exact Nat.zero_le _
 ·rename_i h
  show(XQ op l).2.1.length≤5
  unfold XQ at h ⊢
  split
  ·exact Nat.zero_le _
  ·rename_i h1
   split
   ·exact Nat.zero_le _
   ·have h2:=Qeq (op:=op) (l:=l) (by simpa using h1)
    have h3:=QgH (Z8 op l) l
    have h4:=QqW op (WI (Z8 op l) l).1
    show(VS op (WI (Z8 op l) l).1).length≤5
    omega
theorem QsU (bs:List Int) (c:Rr):(Qg1 bs c).l.length≤5:=by
 have f8:∀c n,(Qoz bs c n).l.length≤5:=fun c n=>by
  unfold Qoz
  repeat' split
  all_goals first
   | exact QsT _ _ _
   | exact Nat.zero_le _
 unfold Qg1
 repeat' split
 all_goals first
  | exact f8 _ _
  | exact Nat.zero_le _
theorem QqX (bs:List Int) (f:Fm):(QA bs f).l.length≤5:=by
 unfold QA Qj6
 cases(rdM bs (rd0 ⟨f,.slice none 0 0,.slice none 0 0⟩ (.slice none 0 0))).1==0
 ·exact Nat.zero_le _
 ·exact QsU _ _
structure Qxi (i k:Nat) (d1 d2 d3:Dr):Prop where
 same:d1.e=0→d3=d1
 one:d1.e=0→i≠k→d2.e≠0
 cut:d1.e=9→d3.e≠4
section
variable {L:List Fm} (hfit:∀f∈L,QjC f=true) (hap:∀ (i k:Nat) (a b:Fm),L[i]? = some a→L[k]? = some b→Qfp a b=decide (i=k))
include hfit hap
theorem Qwt {bs:List Int} (hb:YM bs) (hl:bs.length≤1000000) {i k:Nat} {f g:Fm} (hi:L[i]? = some f) (hk:L[k]? = some g):Qxi i k (QA bs f) (QA bs g) (QfY bs (QV bs true 0 L) 4):=by
 have hf:=List.mem_of_getElem? hi
 have hg:=List.mem_of_getElem? hk
 have hLd:∀g∈L,g.vex=false→Qh g∈Qkg:=fun g hg hv=>QiP (Qbl (hfit g hg) hv)
 have hno:f.vex=false→∀l∈Qkg,Zi f l=false:=fun hv=>(Qbl (hfit f hf) hv).no
 have cf:=(QcY (hfit f hf)).1
 refine⟨fun h=>?_,fun h hne h2=>?_,fun h=>?_⟩
 ·refine QpC h _ 4 (QsL hl hb cf hf hLd hno h) fun g' hg' h'=>?_
  have hgL:=Vm g' bs true 0 L hg'
  obtain⟨j,hj⟩:=List.mem_iff_getElem?.1 hgL
  have hm:=QiQ hl hb (hfit f hf) (hfit g' hgL) h h'
  rw[hap i j f g' hi hj]at hm
  have e:=of_decide_eq_true hm
  subst e
  rw[hi]at hj
  rw[Option.some.inj hj]
 ·have hm:=QiQ hl hb (hfit f hf) (hfit g hg) h h2
  rw[hap i k f g hi hk]at hm
  exact hne (of_decide_eq_true hm)
 ·have hc:=QsO hl hb cf hf hLd hno (fun hv=>(Qbl (hfit f hf) hv).op) (fun hv=>(Qbl (hfit f hf) hv).nr) h
  rcases QmS (bs:=bs) (QV bs true 0 L) 4 (.inr ⟨f,hc,h⟩) with h | h<;>rw[h]<;>decide
end
section
variable {T:Qa→Prop} {L:List Fm} (hT:∀H H',H.Wf→T H→Ext H H'→T H') (hR:∀H,T H→Qf prog Wg [] H fun u H'=>Qfi H H' u L) (hO:∀op H,T H→Qf prog Yb [.int .i64 op] H fun u H'=>Qfi H H' u (L.filter fun f=>f.op==op)) (hty:QiF Ws)
 (hAw:∀H,T H→Qf prog Xn [] H fun u H'=>u=.bool true∧H'=H) (hfit:∀f∈L,QjC f=true) (hap:∀ (i k:Nat) (a b:Fm),L[i]? = some a→L[k]? = some b→Qfp a b=decide (i=k)) (hL0:0<L.length) (hL1:L.length≤6000)
include hT hR hO hty hAw hfit hap hL0 hL1
theorem Qxj (va:Value) (bs:List Int) (hby:YM bs) (i:Int) (hi:I64 i) (k:Int) (hk:I64 k) (H:Qa) (hTH:T H) (hb:QiG H va bs):Qf prog Xr [va,.int .i64 i,.int .i64 k] H fun u H'=>u=.bool true∧True:=by
 refine Vn fun hw=>?_
 obtain⟨ba,bcap,rfl,hbs⟩:=id hb
 simp only[Zj,sxA,sxB,mxA,mxB,splice,simprocAttr]
 refine(hAw H hTH).thenW ?_
 rintro _ H hn hw ⟨rfl,rfl⟩
 simp only[sxA,sxB,mxA,mxB,splice,simprocAttr]
 refine(hR H hTH).thenW ?_
 rintro v1 H1 hn1 hw1 ⟨hx1,ys,e1,ha1,_,hfr⟩
 have l1:ys.length=L.length:=by have:=congrArg List.length e1;simpa using this
 obtain⟨⟨a1,cap1,rfl,hs1⟩,hat1⟩:=ha1.fms
 obtain⟨b1,et1,ro1,rfl,hb1⟩:=hs1 (by omega)
 have z1:((ys.length:Int)==0)=false:=beq_eq_false_iff_ne.2 (by omega)
 have z2:decide ((0:Int)<ys.length)=true:=decide_eq_true (by omega)
 by_cases h30:(30:Int)<bs.length
 ·have e30:decide ((30:Int)<bs.length)=true:=decide_eq_true h30
  simp only[sxA,sxB,mxA,mxB,splice,simprocAttr,e30,z1,z2,Q9]
  first | exact .mk hx1.next rfl | exact .mk hx1.next ⟨rfl,trivial⟩
 have e30:decide ((30:Int)<bs.length)=false:=decide_eq_false h30
 simp only[sxA,sxB,mxA,mxB,splice,simprocAttr,e30,z1]
 have hb30:bs.length≤30:=by omega
 simp only[Yw,sxA,sxB,mxA,mxB,splice,simprocAttr]
 refine(Vo i ys.length hi (by omega) H1).thenW ?_
 rintro _ H1 _ hw1 ⟨rfl,rfl⟩
 simp only[sxA,sxB,mxA,mxB,splice,simprocAttr]
 refine(Vo k ys.length hk (by omega) H1).thenW ?_
 rintro _ H1 _ hw1 ⟨rfl,rfl⟩
 have hz0:=Int.emod_nonneg i (by omega:(ys.length:Int)≠0)
 have hz1:=Int.emod_lt_of_pos i (by omega:(0:Int)<ys.length)
 have hy0:=Int.emod_nonneg k (by omega:(ys.length:Int)≠0)
 have hy1:=Int.emod_lt_of_pos k (by omega:(0:Int)<ys.length)
 generalize i % (ys.length:Int)=z at hz0 hz1
 generalize k % (ys.length:Int)=y at hy0 hy1
 obtain⟨n,rfl⟩:∃n:Nat,z=n:=⟨z.toNat,by omega⟩
 obtain⟨m,rfl⟩:∃n:Nat,y=n:=⟨y.toNat,by omega⟩
 have hnn:n<ys.length:=by omega
 have hm:m<ys.length:=by omega
 have c1:(0:Int)≤n∧(n:Int)<ys.length:=by omega
 have c3:(n:Int).toNat=n:=by omega
 have c4:n * 10+10≤ys.length * 10:=by omega
 have f1:(0:Int)≤m∧(m:Int)<ys.length:=by omega
 have f3:(m:Int).toNat=m:=by omega
 have f4:m * 10+10≤ys.length * 10:=by omega
 have hp:=List.getElem?_eq_getElem hnn
 have hq:=List.getElem?_eq_getElem hm
 have d1:=Zq ys n _ hp
 have g1:=Zq ys m _ hq
 have nn:=Wx ys
 have wx:=hat1 _ (List.getElem_mem hnn)
 have wy:=hat1 _ (List.getElem_mem hm)
 have lx:L[n]? = some (ys[n]).f:=by rw[← e1,List.getElem?_map,hp];rfl
 have ly:L[m]? = some (ys[m]).f:=by rw[← e1,List.getElem?_map,hq];rfl
 generalize ys[n]=x at hp d1 wx lx
 generalize ys[m]=y at hq g1 wy ly
 have ax:=W5 wx
 have ay:=W5 wy
 have hok:=Qwt hfit hap hby (by omega) lx ly
 have hLs:∀f∈L,f.shapes.length=f.slots.length:=fun f hf=>(QcY (hfit f hf)).2
 have hm1:byM bs x.f L=QA bs x.f:=by unfold byM;rw[if_pos (List.mem_of_getElem? lx)]
 have hm2:byM bs y.f L=QA bs y.f:=by unfold byM;rw[if_pos (List.mem_of_getElem? ly)]
 have hbl1:=QqX bs x.f
 -- the first form
 simp only[sxA,sxB,mxA,mxB,splice,simprocAttr,c1,c3,c4,hb1,nn,d1,Qp,QW,ax]
 have q1:=Qxh hO hLs x (.slice ba bs.length bcap) hT H1 (hT _ _ hw hTH hx1) wx (hb.ext hw hx1).by_ (by omega)
 rw[hm1]at q1
 refine q1.thenW ?_
 rintro _ H2 hn2 hw2 ⟨hx2,v2,rfl,hv2,hf2⟩
 obtain⟨va2,vc2,rfl,_⟩:=id hv2
 have hxH2:=hx1.trans hx2
 have hneb:(b1=H2.next)=False:=by have:=hw1.lt hb1;have:=hx2.next;simp;omega
 have hb2:H2.get b1=some (.cells (QS ys) et1 ro1):=by rw[hx2.get _ (hw1.lt hb1)];exact hb1
 simp only[sxA,sxB,mxA,mxB,splice,simprocAttr,f1,f3,f4,hneb,hb2,nn,g1,Qp,QW,ay]
 have hx3:Ext H2 ((H2.push (.cells [.int .i64 0,.slice none 0 0] Qb false)).set H2.next (.cells [.int .i64 (QA bs x.f).op,.slice va2 (QA bs x.f).l.length vc2] Qb false)):=((Ext.refl H2).push _).set (Nat.le_refl _) _
 have hw3:((H2.push (.cells [.int .i64 0,.slice none 0 0] Qb false)).set H2.next (.cells [.int .i64 (QA bs x.f).op,.slice va2 (QA bs x.f).l.length vc2] Qb false)).Wf:=(hw2.push _).set (by rw[Qa.get_push,if_pos rfl]) _
 have hg3:((H2.push (.cells [.int .i64 0,.slice none 0 0] Qb false)).set H2.next (.cells [.int .i64 (QA bs x.f).op,.slice va2 (QA bs x.f).l.length vc2] Qb false)).get H2.next=some (.cells [.int .i64 (QA bs x.f).op,.slice va2 (QA bs x.f).l.length vc2] Qb false):=by rw[Qa.get_set,if_pos rfl]
 generalize (H2.push (.cells [.int .i64 0,.slice none 0 0] Qb false)).set H2.next (.cells [.int .i64 (QA bs x.f).op,.slice va2 (QA bs x.f).l.length vc2] Qb false)=H3 at hx3 hw3 hg3
 have hxH3:=hxH2.trans hx3
 have hxR:=hx2.trans hx3
 have hb3:H3.get b1=some (.cells (QS ys) et1 ro1):=by rw[hxR.get _ (hw1.lt hb1)];exact hb1
 have wy3:=wy.ext hw1 hxR
 have hv3:=hv2.ext hw2 hx3
 -- the second form
 have q2:=Qxh hO hLs y (.slice ba bs.length bcap) hT H3 (hT _ _ hw hTH hxH3) wy3 (hb.ext hw hxH3).by_ (by omega)
 rw[hm2]at q2
 refine q2.thenW ?_
 rintro _ H4 hn4 hw4 ⟨hx4,v4,rfl,hv4,hf4⟩
 obtain⟨va4,vc4,rfl,_⟩:=id hv4
 simp only[sxA,sxB,mxA,mxB,splice,simprocAttr]
 have hx5:Ext H4 ((H4.push (.cells [.int .i64 0,.slice none 0 0] Qb false)).set H4.next (.cells [.int .i64 (QA bs y.f).op,.slice va4 (QA bs y.f).l.length vc4] Qb false)):=((Ext.refl H4).push _).set (Nat.le_refl _) _
 have hw5:((H4.push (.cells [.int .i64 0,.slice none 0 0] Qb false)).set H4.next (.cells [.int .i64 (QA bs y.f).op,.slice va4 (QA bs y.f).l.length vc4] Qb false)).Wf:=(hw4.push _).set (by rw[Qa.get_push,if_pos rfl]) _
 generalize (H4.push (.cells [.int .i64 0,.slice none 0 0] Qb false)).set H4.next (.cells [.int .i64 (QA bs y.f).op,.slice va4 (QA bs y.f).l.length vc4] Qb false)=H5 at hx5 hw5
 have hxH5:=hxH3.trans (hx4.trans hx5)
 have hg5:H5.get H2.next=some (.cells [.int .i64 (QA bs x.f).op,.slice va2 (QA bs x.f).l.length vc2] Qb false):=by rw[(hx4.trans hx5).get _ (hw3.lt hg3)];exact hg3
 have hv5:=hv3.ext hw3 (hx4.trans hx5)
 -- the QbT
 refine(Qg3 hR hty (fun f hf=>hLs f (Vm f bs true 0 L hf)) (.slice ba bs.length bcap) hT H5 (hT _ _ hw hTH hxH5) (hb.ext hw hxH5) (by omega)).thenW ?_
 rintro _ H6 hn6 hw6 ⟨hx6,v6,rfl,hv6,hf6⟩
 generalize QA bs x.f=r1 at *
 generalize QA bs y.f=r2 at *
 generalize QfY bs (QV bs true 0 L) 4=r3 at *
 obtain⟨va6,vc6,rfl,_⟩:=id hv6
 simp only[sxA,sxB,mxA,mxB,splice,simprocAttr]
 have hx7:Ext H6 ((H6.push (.cells [.int .i64 0,.slice none 0 0] Qb false)).set H6.next (.cells [.int .i64 r3.op,.slice va6 r3.l.length vc6] Qb false)):=((Ext.refl H6).push _).set (Nat.le_refl _) _
 have hw7:((H6.push (.cells [.int .i64 0,.slice none 0 0] Qb false)).set H6.next (.cells [.int .i64 r3.op,.slice va6 r3.l.length vc6] Qb false)).Wf:=(hw6.push _).set (by rw[Qa.get_push,if_pos rfl]) _
 have hg7':((H6.push (.cells [.int .i64 0,.slice none 0 0] Qb false)).set H6.next (.cells [.int .i64 r3.op,.slice va6 r3.l.length vc6] Qb false)).get H6.next=some (.cells [.int .i64 r3.op,.slice va6 r3.l.length vc6] Qb false):=by rw[Qa.get_set,if_pos rfl]
 generalize (H6.push (.cells [.int .i64 0,.slice none 0 0] Qb false)).set H6.next (.cells [.int .i64 r3.op,.slice va6 r3.l.length vc6] Qb false)=H7 at hx7 hw7 hg7'
 have hxH7:=hxH5.trans (hx6.trans hx7)
 have hg7:H7.get H2.next=some (.cells [.int .i64 r1.op,.slice va2 r1.l.length vc2] Qb false):=by rw[(hx6.trans hx7).get _ (hw5.lt hg5)];exact hg5
 have hv7:=hv5.ext hw5 (hx6.trans hx7)
 have hv7':=hv6.ext hw6 hx7
 obtain⟨same,one,cut⟩:=hok
 have eqi:((n:Int)==(m:Int))=decide (n=m):=by rw[Bool.eq_iff_iff,beq_iff_eq,decide_eq_true_eq];omega
 cases q0:r1.e==0 with
 | true=>
  have e0:r1.e=0:=by simpa using q0
  have s:=same e0
  rw[s]at hg7' hv7'
  have t9:(r1.e==9)=false:=by rw[e0];rfl
  by_cases hik:n=m
  ·have hd:decide (n=m)=true:=decide_eq_true hik
   simp only[sxA,sxB,mxA,mxB,splice,simprocAttr,q0,eqi,hd,s,beq_self_eq_true,hg7,hg7']
   refine(QiT _ _ _ _ _ _ H7 hv7 hv7' (by omega) (by omega)).thenW ?_
   rintro _ _ hn8 hw8 ⟨rfl,kk,rfl⟩
   have hxx:=hxH7.up (show H7.next≤kk from hn8)
   simp only[sxA,sxB,mxA,mxB,splice,simprocAttr,beq_self_eq_true,decide_true,Bool.and_self,t9,Q9]
   first | exact .mk hxx.next rfl | exact .mk hxx.next ⟨rfl,trivial⟩
  ·have hd:decide (n=m)=false:=decide_eq_false hik
   have hd2:(r2.e==0)=false:=by have:=one e0 hik;simpa using this
   simp only[sxA,sxB,mxA,mxB,splice,simprocAttr,q0,eqi,hd,hd2,s,beq_self_eq_true,hg7,hg7']
   refine(QiT _ _ _ _ _ _ H7 hv7 hv7' (by omega) (by omega)).thenW ?_
   rintro _ _ hn8 hw8 ⟨rfl,kk,rfl⟩
   have hxx:=hxH7.up (show H7.next≤kk from hn8)
   simp only[sxA,sxB,mxA,mxB,splice,simprocAttr,beq_self_eq_true,decide_true,Bool.and_self,t9,Q9]
   first | exact .mk hxx.next rfl | exact .mk hxx.next ⟨rfl,trivial⟩
 | false=>
  simp only[sxA,sxB,mxA,mxB,splice,simprocAttr,q0]
  cases q9:r1.e==9 with
  | true=>
   have h4:(r3.e==4)=false:=by have:=cut (by simpa using q9);simpa using this
   simp only[sxA,sxB,mxA,mxB,splice,simprocAttr,q9,h4,Q9]
   first | exact .mk hxH7.next rfl | exact .mk hxH7.next ⟨rfl,trivial⟩
  | false=>
   simp only[sxA,sxB,mxA,mxB,splice,simprocAttr,q9,Q9]
   first | exact .mk hxH7.next rfl | exact .mk hxH7.next ⟨rfl,trivial⟩
end
end Go.Proofs.YtfofbicfabokbaaGreatDoor.code
