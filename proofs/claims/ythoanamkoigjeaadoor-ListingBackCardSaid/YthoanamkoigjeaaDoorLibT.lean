/- The document's Check. -/
import Derived.Test.YthoanamkoigjeaaDoorLibS
set_option linter.unusedVariables false
set_option linter.unusedSimpArgs false
set_option maxRecDepth 100000
set_option maxHeartbeats 4000000
namespace Go.Proofs.YthoanamkoigjeaaDoor.code
open Go.Ab
def QnO (l:List Sy) (i:Nat):Prop:=∀y,l[i]? = some y→V4 y.name=true∧∀p,i≠0→l[i - 1]? = some p→Op.bytesLess p.name y.name=true
def QcP (l:List Sy):Prop:=∀i,QnO l i
def Wy:List Mk→Int→Int→Int→Bool
 | [],a,e,_=>a==e
 | m::l,a,e,ln=>if m.at_≠a∨m.size<1∨e - a<m.size∨m.line<ln∨1048576<m.line then false else Wy l (a+m.size) e m.line
def ZF (x:Im):Prop:=(x.b.length≤1048576∧x.syms.length≤20000∧x.marks.length≤20000)∧(0≤x.org∧x.org≤140737488355328)∧QcP x.syms∧Wy x.marks x.org (x.org+x.b.length) 1=true
theorem Gs.isl {size:Nat} {e:TypeId} {H0 H:Qa} {v:Value} {n:Nat} {cs:List Value} (h:Gs size e H0 H v n cs):YD H v n cs:=by
 rcases h with⟨rfl,rfl,rfl⟩ | ⟨b,rfl,h2,h3,h4⟩
 ·exact⟨none,0,rfl,fun h=>by omega⟩
 ·exact⟨_,_,rfl,fun _=>⟨b,e,false,rfl,h3⟩⟩
theorem Ki.low' {H0 H:Qa} {x:Im} {vb vs vm:Value} (h:Ki H0 H x vb vs vm) (hw:H.Wf):(∀id,Qr vb id→id<H.next)∧(∀id,Qr vs id→id<H.next)∧(∀id,Qr vm id→id<H.next):=
 ⟨fun _ hi=>(h.gb.low hw hi).2,fun _ hi=>(h.gs.low hw hi).2,fun _ hi=>(h.gm.low hw hi).2⟩
theorem Ki.more {H0 H H':Qa} {x:Im} {vb vs vm:Value} (h:Ki H0 H x vb vs vm) (hw:H.Wf) (hx:Ext H H'):Ki H0 H' x vb vs vm:=by
 have k:∀ {size e v n cs},Gs size e H0 H v n cs→Gs size e H0 H' v n cs:=fun hg=>hg.ext fun id hid=>hx.get id (hg.low hw hid).2
 exact⟨k h.gb,k h.gs,k h.gm,h.bs,h.bm,h.sm⟩
theorem Ki.set {H0 H:Qa} {x:Im} {vb vs vm:Value} (h:Ki H0 H x vb vs vm) {D:Nat} (b:Blk) (hb:¬Qr vb D) (hs:¬Qr vs D) (hm:¬Qr vm D):Ki H0 (H.set D b) x vb vs vm:=by
 have k:∀ {size e v n cs},Gs size e H0 H v n cs→¬Qr v D→Gs size e H0 (H.set D b) v n cs:=fun hg hd=>hg.ext fun id hid=>by
  rw[Qa.get_set,if_neg (fun h=>hd (by rw[← h];exact hid))]
 exact⟨k h.gb hb,k h.gs hs,k h.gm hm,h.bs,h.bm,h.sm⟩
theorem Ki.setB {H0 H H1:Qa} {x:Im} {vb vs vm vb':Value} {b':List UInt8} {n:Nat} {cs:List Value} (h:Ki H0 H x vb vs vm) (hwH:H.Wf) (hg:Gs 1 5 H0 H1 vb' n cs) (en:n=b'.length) (ec:cs=u8v b') (hk:∀id,id<H.next→¬Qr vb id→H1.get id=H.get id) (hn:∀id,Qr vb' id→id=H.next):Ki H0 H1 {x with b:=b'} vb' vs vm:=by
 subst en;subst ec
 obtain⟨l2,l3,l4⟩:=h.low' hwH
 exact⟨hg,h.gs.ext fun id hi=>hk id (l3 id hi) fun hb=>h.bs id hb hi,h.gm.ext fun id hi=>hk id (l4 id hi) fun hb=>h.bm id hb hi,fun id hi hs=>by have:=hn id hi;have:=l3 id hs;omega,fun id hi hs=>by have:=hn id hi;have:=l4 id hs;omega,h.sm⟩
theorem Ki.setS {H0 H H1:Qa} {x:Im} {vb vs vm vs':Value} {s':List Sy} {n:Nat} {cs:List Value} (h:Ki H0 H x vb vs vm) (hwH:H.Wf) (hg:Gs 3 QM H0 H1 vs' n cs) (en:n=s'.length) (ec:cs=YV s') (hk:∀id,id<H.next→¬Qr vs id→H1.get id=H.get id) (hn:∀id,Qr vs' id→id=H.next):Ki H0 H1 {x with syms:=s'} vb vs' vm:=by
 subst en;subst ec
 obtain⟨l2,l3,l4⟩:=h.low' hwH
 exact⟨h.gb.ext fun id hi=>hk id (l2 id hi) fun hb=>h.bs id hi hb,hg,h.gm.ext fun id hi=>hk id (l4 id hi) fun hb=>h.sm id hb hi,fun id hi hs=>by have:=hn id hs;have:=l2 id hi;omega,h.bm,fun id hi hs=>by have:=hn id hi;have:=l4 id hs;omega⟩
theorem Ki.setM {H0 H H1:Qa} {x:Im} {vb vs vm vm':Value} {m':List Mk} {n:Nat} {cs:List Value} (h:Ki H0 H x vb vs vm) (hwH:H.Wf) (hg:Gs 3 Wt H0 H1 vm' n cs) (en:n=m'.length) (ec:cs=WS m') (hk:∀id,id<H.next→¬Qr vm id→H1.get id=H.get id) (hn:∀id,Qr vm' id→id=H.next):Ki H0 H1 {x with marks:=m'} vb vs vm':=by
 subst en;subst ec
 obtain⟨l2,l3,l4⟩:=h.low' hwH
 exact⟨h.gb.ext fun id hi=>hk id (l2 id hi) fun hb=>h.bm id hi hb,h.gs.ext fun id hi=>hk id (l3 id hi) fun hb=>h.sm id hi hb,hg,h.bs,fun id hi hs=>by have:=hn id hs;have:=l2 id hi;omega,fun id hi hs=>by have:=hn id hs;have:=l3 id hi;omega⟩
def QhK (x:Im) (w1 w2 w3:List UInt8):Option Im:=match Qcc w3 with
 | none=>none
 | some b=>if(Yn (Qh w2)==w2)=true∧(WR w1 0).err=0∧(WR w1 0).e=w1.length∧(Z7 (WR w1 0).n==w1)=true then some {x with b:=x.b++b,marks:=x.marks++[⟨(WR w1 0).n,Qh w2,b.length⟩]} else none
def QjD (x:Im) (w1 w2 w3:List UInt8):Option Im:=if(Yn (Qh w2)==w2)=true∧x.marks.length=0∧(w3=[104,101,114,101]∨w3=[99,111,110,115,116]) then some {x with syms:=x.syms++[⟨w1,Qh w2,w3==[104,101,114,101]⟩]} else none
def QjE (x:Im) (w0 w1:List UInt8):Option Im:=if w0=[111,114,103]∧(Yn (Qh w1)==w1)=true then some {x with org:=Qh w1} else none
def Qdm (x:Im) (s:List UInt8) (first:Bool):Option Im:=if first=true then(match Qc s with
  | [w0,w1]=>QjE x w0 w1
  | _=>none) else(match Qc s with
  | [w0,w1,w2,w3]=>if w0=[115,121,109] then QjD x w1 w2 w3 else if w0=[109,97,114,107] then QhK x w1 w2 w3 else none
  | _=>none)
theorem Gs.bel {size:Nat} {e:TypeId} {H0 H:Qa} {v:Value} {n:Nat} {cs:List Value} (h:Gs size e H0 H v n cs) (hw:H.Wf) {m f:Nat} (hm:H.next≤m):QH m (f+1) v=true:=by
 rcases h with⟨rfl,rfl,rfl⟩ | ⟨b,rfl,h2,h3,h4⟩
 ·rfl
 ·show Nat.blt b m=true
  rw[Nat.blt_eq];exact Nat.lt_of_lt_of_le (hw.lt h3) hm
open Classical in
theorem Gs.base {size:Nat} {e:TypeId} {H0 H1 H:Qa} {v:Value} {n:Nat} {cs:List Value} (h:Gs size e H1 H v n cs) (hn:H0.next≤H1.next):Gs size e H0 H v n cs:=h.old hn
theorem Ki.old {H0 H1 H:Qa} {x:Im} {vb vs vm:Value} (h:Ki H1 H x vb vs vm) (hn:H0.next≤H1.next):Ki H0 H x vb vs vm:=⟨h.gb.old hn,h.gs.old hn,h.gm.old hn,h.bs,h.bm,h.sm⟩
/-! ### Words -/
def W1:List (List UInt8)→List UInt8
 | []=>[]
 | [w]=>w
 | w::ws=>w++32::W1 ws
def QgQ (w:List UInt8):Prop:=∀c∈w,c≠32
theorem ZG:∀l:List UInt8,W1 (Qc l)=l∧∀w∈Qc l,QgQ w
 | []=>⟨rfl,fun w hw c hc=>by simp[Qc]at hw;subst hw;simp at hc⟩
 | c::l=>by
  obtain⟨h1,h2⟩:=ZG l
  unfold Qc
  by_cases h:c=32
  ·rw[if_pos h]
   have hj:∀ws:List (List UInt8),ws≠[]→W1 ([]::ws)=32::W1 ws:=fun ws hws=>by
    cases ws with
    | nil=>exact absurd rfl hws
    | cons a r=>rfl
   refine⟨by rw[hj _ (QaX l),h1,h],fun w hw=>?_⟩
   rcases List.mem_cons.1 hw with rfl | hw
   ·intro c hc;simp at hc
   ·exact h2 w hw
  ·rw[if_neg h]
   cases hw:Qc l with
   | nil=>exact absurd hw (QaX l)
   | cons w ws=>
    rw[hw]at h1 h2
    constructor
    ·rw[← h1]
     cases ws<;>rfl
    ·intro v hv
     rcases List.mem_cons.1 hv with rfl | hv
     ·intro d hd
      rcases List.mem_cons.1 hd with rfl | hd
      ·exact h
      ·exact h2 w (by simp) d hd
     ·exact h2 v (by simp[hv])
theorem Gi:∀ws:List (List UInt8),ws≠[]→(∀w∈ws,QgQ w)→Qc (W1 ws)=ws
 | [w],_,h=>GR w (h w (by simp))
 | w::v::ws,_,h=>by
  rw[show W1 (w::v::ws)=w++32::W1 (v::ws) from rfl,VN _ _ (h w (by simp)),Gi (v::ws) (by simp) fun u hu=>h u (by simp[hu])]
theorem QcQ {s:List UInt8} {ws:List (List UInt8)} (hn:ws≠[]) (h:∀w∈ws,QgQ w):s=W1 ws↔Qc s=ws:=by
 constructor
 ·intro hs;rw[hs];exact Gi ws hn h
 ·intro hs;rw[← hs];exact(ZG s).1.symm
theorem QdO:∀d,d<16→Qs d≠32∧Qs d≠45:=by decide
theorem QhL (b:Nat) (hb:2≤b∧b≤16):∀u:Nat,∀c∈dgs b u,c≠32∧c≠45:=by
 intro u
 induction u using Nat.strongRecOn with
 | ind u ih=>
  by_cases h:u<b
  ·rw[Gg h];intro c hc;simp at hc;subst hc;exact QdO u (by omega)
  ·rw[QaD (by omega) hb.1]
   intro c hc
   rcases List.mem_append.1 hc with hc | hc
   ·exact ih (u / b) (Nat.div_lt_self (by omega) (by omega)) c hc
   ·simp at hc;subst hc
    exact QdO _ (by have:=Nat.mod_lt u (show 0<b by omega);omega)
theorem QfX (n:Int) (b:Nat) (hb:2≤b∧b≤16) (a:List UInt8) (ha:QgQ a):QgQ (GQ n b a):=by
 intro c hc
 unfold GQ at hc
 rcases List.mem_append.1 hc with hc | hc
 ·rcases List.mem_append.1 hc with hc | hc
  ·split at hc
   ·simp at hc;subst hc;decide
   ·simp at hc
  ·exact ha c hc
 ·exact(QhL b hb _ c hc).1
theorem KI (n:Int):QgQ (Yn n):=QfX n 16 (by decide) _ (show ∀c∈([48,120]:List UInt8),c≠32 by decide)
theorem QfY (n:Int):QgQ (Z7 n):=QfX n 10 (by decide) _ (fun c hc=>by simp at hc)
theorem QeL (b:List UInt8):QgQ (XK b):=by
 intro c hc
 unfold XK at hc
 obtain⟨d,_,hd⟩:=List.mem_flatMap.1 hc
 have h1:=d.toNat_lt
 simp at hd
 rcases hd with rfl | rfl
 ·exact(QdO _ (by omega)).1
 ·exact(QdO _ (by omega)).1
/-! ### Digits of bytes -/
theorem QcR:∀c,c<256→((Xh c≤15→(Qs (Xh c)).toNat=c)∧(∀d,d<16→(Qs d).toNat=c→Xh c=d)):=by
 have h:((List.range 256).all fun c=>(!(Nat.ble (Xh c) 15)||(Qs (Xh c)).toNat==c)&&(List.range 16).all fun d=>!((Qs d).toNat==c)||Xh c==d)=true:=by decide
 intro c hc
 have:=List.all_eq_true.1 h c (List.mem_range.2 hc)
 simp only[Bool.and_eq_true,Bool.or_eq_true,Bool.not_eq_true',List.all_eq_true,List.mem_range,beq_iff_eq,beq_eq_false_iff_ne]at this
 refine⟨fun h15=>?_,fun d hd he=>?_⟩
 ·rcases this.1 with h | h
  ·rw[Nat.ble_eq_true_of_le h15]at h;cases h
  ·exact h
 ·rcases this.2 d hd with h | h
  ·exact absurd he h
  ·exact h
theorem QjF {c:UInt8} (h:Xh c.toNat≤15):Qs (Xh c.toNat)=c:=UInt8.toNat_inj.1 ((QcR c.toNat c.toNat_lt).1 h)
theorem QjG {c:Nat} (h:Xh c≤15):Zt c=Xh c:=by
 unfold Zt
 have:Nat.beq (Xh c) 16=false:=by
  cases hb:Nat.beq (Xh c) 16 with
  | false=>rfl
  | true=>rw[Nat.beq_eq]at hb;omega
 rw[this];rfl
theorem QfZ (a b:Nat) (ha:a≤15) (hb:b≤15):(16 * a+b).toUInt8.toNat=16 * a+b:=by
 show(16 * a+b) % 256=_
 omega
theorem QcS:∀ (w b:List UInt8),QgO w=some b→XK b=w∧YM w=b
 | [],b,h=>by cases h;exact⟨rfl,rfl⟩
 | [_],b,h=>by cases h
 | a::c::l,b,h=>by
  unfold QgO at h
  cases hb:Nat.blt 15 (Xh a.toNat)||Nat.blt 15 (Xh c.toNat) with
  | true=>rw[hb]at h;cases h
  | false=>
   rw[hb]at h
   have h:(QgO l).map (((16 * Xh a.toNat+Xh c.toNat).toUInt8)::·)=some b:=h
   simp only[Bool.or_eq_false_iff]at hb
   have ha15:Xh a.toNat≤15:=by
    rcases Nat.lt_or_ge 15 (Xh a.toNat) with h' | h'
    ·have:=(by rw[Nat.blt_eq];exact h':Nat.blt _ _=true);rw[hb.1]at this;cases this
    ·exact h'
   have hc15:Xh c.toNat≤15:=by
    rcases Nat.lt_or_ge 15 (Xh c.toNat) with h' | h'
    ·have:=(by rw[Nat.blt_eq];exact h':Nat.blt _ _=true);rw[hb.2]at this;cases this
    ·exact h'
   cases hu:QgO l with
   | none=>rw[hu]at h;cases h
   | some r=>
    rw[hu]at h
    cases h
    obtain⟨i1,i2⟩:=QcS l r hu
    have hn:=QfZ _ _ ha15 hc15
    constructor
    ·show[Qs ((16 * Xh a.toNat+Xh c.toNat).toUInt8.toNat / 16),Qs ((16 * Xh a.toNat+Xh c.toNat).toUInt8.toNat % 16)]++XK r=_
     rw[hn,show(16 * Xh a.toNat+Xh c.toNat) / 16=Xh a.toNat by omega,show(16 * Xh a.toNat+Xh c.toNat) % 16=Xh c.toNat by omega,QjF ha15,QjF hc15,i1]
     rfl
    ·rw[YM,QjG ha15,QjG hc15,i2]
theorem Qf0:∀ (w:List UInt8),w.length % 2=0→XK (YM w)=w→QgO w=some (YM w)
 | [],_,_=>rfl
 | [_],h,_=>by simp at h
 | a::c::l,he,h=>by
  rw[YM]at h
  have h:Qs ((16 * Zt a.toNat+Zt c.toNat).toUInt8.toNat / 16)::Qs ((16 * Zt a.toNat+Zt c.toNat).toUInt8.toNat % 16)::XK (YM l)=a::c::l:=h
  have za:=QdN a.toNat
  have zc:=QdN c.toNat
  rw[QfZ _ _ za zc,show(16 * Zt a.toNat+Zt c.toNat) / 16=Zt a.toNat by omega,show(16 * Zt a.toNat+Zt c.toNat) % 16=Zt c.toNat by omega]at h
  injection h with h1 h
  injection h with h2 h3
  have da:=(QcR a.toNat a.toNat_lt).2 _ (show Zt a.toNat<16 by omega) (by rw[h1])
  have dc:=(QcR c.toNat c.toNat_lt).2 _ (show Zt c.toNat<16 by omega) (by rw[h2])
  have ih:=Qf0 l (by simp only[List.length_cons]at he;omega) h3
  have b1:Nat.blt 15 (Xh a.toNat)=false:=by
   cases hb:Nat.blt 15 (Xh a.toNat) with
   | false=>rfl
   | true=>rw[Nat.blt_eq]at hb;omega
  have b2:Nat.blt 15 (Xh c.toNat)=false:=by
   cases hb:Nat.blt 15 (Xh c.toNat) with
   | false=>rfl
   | true=>rw[Nat.blt_eq]at hb;omega
  unfold QgO
  rw[b1,b2,ih,YM,da,dc]
  rfl
theorem Qi1 (w:List UInt8):(∀b,Qcc w=some b→b=YM w)∧((Qcc w).isSome=true↔(w.length≠0∧w.length % 2=0∧w=XK (YM w))):=by
 have hc:(w.isEmpty||!Nat.beq (w.length % 2) 0)=false↔(w.length≠0∧w.length % 2=0):=by
  rw[Bool.or_eq_false_iff]
  constructor
  ·rintro⟨h1,h2⟩
   refine⟨fun h=>?_,?_⟩
   ·rw[List.length_eq_zero_iff.1 h]at h1;cases h1
   ·cases hb:Nat.beq (w.length % 2) 0 with
    | true=>rw[Nat.beq_eq]at hb;exact hb
    | false=>rw[hb]at h2;cases h2
  ·rintro⟨h1,h2⟩
   refine⟨?_,by rw[h2];rfl⟩
   cases w with
   | nil=>exact absurd rfl h1
   | cons a l=>rfl
 unfold Qcc
 cases hb:w.isEmpty||!Nat.beq (w.length % 2) 0 with
 | true=>
  refine⟨fun b h=>(by cases h),⟨fun h=>(by cases h),fun h=>?_⟩⟩
  have:=hc.2 ⟨h.1,h.2.1⟩
  rw[hb]at this;cases this
 | false=>
  have h2:=hc.1 hb
  refine⟨fun b h=>(QcS w b h).2.symm,⟨fun h=>?_,fun h=>?_⟩⟩
  ·obtain⟨b,hu⟩:=Option.isSome_iff_exists.1 h
   obtain⟨p1,p2⟩:=QcS w b hu
   exact⟨h2.1,h2.2,by rw[p2];exact p1.symm⟩
  ·show(QgO w).isSome=true
   rw[Qf0 w h.2.1 h.2.2.symm];rfl
/-! ### Numbers -/
theorem Qf1 {n:Int} (h:0≤n):(Z7 n).take 1≠[45]:=by
 unfold Z7 GQ
 rw[if_neg (by omega)]
 simp only[List.nil_append]
 intro he
 have hm:(45:UInt8)∈(dgs 10 n.natAbs).take 1:=by rw[he];simp
 exact(QhL 10 (by decide) _ 45 (List.mem_of_mem_take hm)).2 rfl
theorem QhM {w:List UInt8} (h:(w.take 1==[45])=true):(WR w 0).err≠0:=by
 cases w with
 | nil=>simp at h
 | cons c l=>
  have hc:c=45:=by simpa using h
  subst hc
  have h0:WR (45::l) 0=V2 6 0:=rfl
  rw[h0]
  decide
theorem Qny (w:List UInt8) (k:Int) (hk:1≤k):((WR w 0).err=0∧(WR w 0).e=w.length∧(Z7 (WR w 0).n==w)=true∧k≤(WR w 0).n→Qh w=(WR w 0).n∧Z7 (Qh w)=w)∧(k≤Qh w∧Z7 (Qh w)=w→(WR w 0).err=0∧(WR w 0).e=w.length∧Qh w=(WR w 0).n):=by
 cases hm:w.take 1==[45] with
 | true=>
  refine⟨fun h=>absurd h.1 (QhM hm),fun h=>?_⟩
  have:=Qf1 (n:=Qh w) (by omega)
  rw[h.2]at this
  exact absurd (beq_iff_eq.1 hm) this
 | false=>
  have hcut:Gh w [45]=w:=by
   unfold Gh
   rw[show([45]:List UInt8).length=1 from rfl,hm,if_neg (by simp)]
  have hok:okW w=((WR w 0).err==0&&(WR w 0).e==(w.length:Int)):=by unfold okW;rw[hcut]
  have hnum:Qh w=if okW w then(WR w 0).n else 0:=by unfold Qh;rw[hm,hcut,if_neg (by simp:¬ (false=true))]
  constructor
  ·rintro⟨h1,h2,h3,_⟩
   have:okW w=true:=by rw[hok,h1,h2];simp
   rw[hnum,if_pos this]
   exact⟨rfl,beq_iff_eq.1 h3⟩
  ·rintro⟨h1,h2⟩
   cases ho:okW w with
   | false=>rw[hnum,ho,if_neg (by simp)]at h1;omega
   | true=>
    rw[hok,Bool.and_eq_true,beq_iff_eq,beq_iff_eq]at ho
    refine⟨ho.1,ho.2,?_⟩
    rw[hnum,hok,ho.1,ho.2];simp
def Kj:Int→List Mk→Int
 | k,[]=>k
 | _,m::l=>Kj m.line l
theorem QeM:∀ (l:List Mk) (k:Int),(match l.getLast? with | some m=>m.line | none=>k)=Kj k l
 | [],k=>rfl
 | [a],k=>rfl
 | a::b::l,k=>by
  rw[List.getLast?_cons_cons,Kj,← QeM (b::l) a.line]
  cases h:(b::l).getLast? with
  | none=>rw[List.getLast?_eq_none_iff]at h;cases h
  | some m=>rfl
theorem Qcg (l:List Mk):QaI l=Kj 1 l:=by unfold QaI;exact QeM l 1
theorem Qf2:∀ (l:List Mk) (a e ln:Int),Wy l a e ln=true→ln≤Kj ln l
 | [],_,_,_,_=>Int.le_refl _
 | m::l,a,e,ln,h=>by
  rw[Wy]at h
  split at h
  ·cases h
  ·rename_i hn
   have:=Qf2 l _ _ _ h
   rw[Kj];omega
theorem QaK:∀ (l:List Mk) (a e e' ln:Int) (m:Mk),Wy l a e ln=true→e≤e'→(Wy (l++[m]) a e' ln=true↔(m.at_=e∧1≤m.size∧m.size≤e' - e∧Kj ln l≤m.line∧m.line≤1048576∧e+m.size=e'))
 | [],a,e,e',ln,m,h,he=>by
  rw[Wy,beq_iff_eq]at h
  subst h
  rw[List.nil_append,Wy,Kj]
  by_cases hb:m.at_≠a∨m.size<1∨e' - a<m.size∨m.line<ln∨1048576<m.line
  ·rw[if_pos hb]
   exact⟨fun h=>(by cases h),fun h=>by omega⟩
  ·rw[if_neg hb,Wy,beq_iff_eq]
   constructor
   ·intro h;omega
   ·intro h;omega
 | m0::l,a,e,e',ln,m,h,he=>by
  rw[Wy]at h
  split at h
  ·cases h
  ·rename_i hn
   rw[List.cons_append,Wy,if_neg (by omega),Kj]
   exact QaK l _ e e' _ m h he
theorem QaL:∀a b:List UInt8,Op.bytesLess a b=true↔Sy.le b a=false
 | [],[]=>by decide
 | [],d::b=>by simp[Op.bytesLess,Sy.le]
 | c::a,[]=>by simp[Op.bytesLess,Sy.le]
 | c::a,d::b=>by
  have ih:=QaL a b
  simp only[Op.bytesLess,Sy.le,Bool.or_eq_true,Bool.and_eq_true,Bool.or_eq_false_iff,beq_iff_eq,decide_eq_true_eq,Bool.and_eq_false_iff,beq_eq_false_iff_ne,decide_eq_false_iff_not]at ih ⊢
  rcases Nat.lt_trichotomy c.toNat d.toNat with h | h | h
  ·have h1:c<d:=h
   have h2:¬d<c:=fun h'=>by have:d.toNat<c.toNat:=h';omega
   have h3:¬d=c:=fun h'=>by rw[h']at h;omega
   refine⟨fun _=>⟨⟨h2,.inl h3⟩,fun h'=>?_⟩,fun _=>.inl h1⟩
   injection h' with h' _;exact h3 h'
  ·have h0:c=d:=UInt8.toNat_inj.1 h
   subst h0
   have h2:¬c<c:=fun h'=>by have:c.toNat<c.toNat:=h';omega
   constructor
   ·rintro(h' | ⟨_,h'⟩)
    ·exact absurd h' h2
    ·obtain⟨i1,i2⟩:=ih.1 h'
     exact⟨⟨h2,.inr i1⟩,fun h'=>by injection h' with _ h';exact i2 h'⟩
   ·rintro⟨⟨_,h'⟩,h''⟩
    refine .inr ⟨rfl,ih.2 ⟨?_,fun h=>h'' (by rw[h])⟩⟩
    rcases h' with h' | h'
    ·exact absurd rfl h'
    ·exact h'
  ·have h1:d<c:=h
   have h2:¬c<d:=fun h'=>by have:c.toNat<d.toNat:=h';omega
   have h3:¬c=d:=fun h'=>by rw[h']at h;omega
   refine⟨fun h'=>?_,fun h'=>absurd h1 h'.1.1⟩
   rcases h' with h' | h'
   ·exact absurd h' h2
   ·exact absurd h'.1 h3
theorem QaM (l:List Sy) (y:Sy):QcP (l++[y])↔(QcP l∧V4 y.name=true∧∀p,l.getLast? = some p→Op.bytesLess p.name y.name=true):=by
 constructor
 ·intro h
  refine⟨fun i z hz=>?_,?_,fun p hp=>?_⟩
  ·have hi:i<l.length:=(List.getElem?_eq_some_iff.1 hz).1
   obtain⟨h1,h2⟩:=h i z (by rw[List.getElem?_append_left hi];exact hz)
   exact⟨h1,fun p hp0 hp=>h2 p hp0 (by rw[List.getElem?_append_left (by omega)];exact hp)⟩
  ·exact(h l.length y (by rw[List.getElem?_append_right (Nat.le_refl _)];simp)).1
  ·rw[List.getLast?_eq_getElem?]at hp
   have hi:=(List.getElem?_eq_some_iff.1 hp).1
   exact(h l.length y (by rw[List.getElem?_append_right (Nat.le_refl _)];simp)).2 p (by omega) (by rw[List.getElem?_append_left hi];exact hp)
 ·rintro⟨h1,h2,h3⟩ i z hz
  by_cases hi:i<l.length
  ·rw[List.getElem?_append_left hi]at hz
   obtain⟨g1,g2⟩:=h1 i z hz
   exact⟨g1,fun p hp0 hp=>g2 p hp0 (by rw[List.getElem?_append_left (by omega)]at hp;exact hp)⟩
  ·have hi2:=(List.getElem?_eq_some_iff.1 hz).1
   have hi3:i=l.length:=by rw[List.length_append]at hi2;simp at hi2;omega
   subst hi3
   rw[List.getElem?_append_right (Nat.le_refl _)]at hz
   simp at hz
   subst hz
   refine⟨h2,fun p hp0 hp=>h3 p ?_⟩
   rw[List.getElem?_append_left (by omega)]at hp
   rw[List.getLast?_eq_getElem?];exact hp
/-! ### A mark's line -/
def Kv:List UInt8:=[109,97,114,107]
def Qfi:List UInt8:=[115,121,109]
def Vy:List UInt8:=[104,101,114,101]
def G6:List UInt8:=[99,111,110,115,116]
theorem VP (n a:Int) (b:List UInt8):J5 n a b=W1 [Kv,Z7 n,Yn a,XK b]:=by
 simp[J5,W1,Kv]
theorem Qf3 (y:Sy):Qba y=W1 [Qfi,y.name,Yn y.n,if y.here then Vy else G6]:=by
 cases hh:y.here<;>simp[Qba,W1,Qfi,Vy,G6,hh]
def MC (x:Im) (w1 w2 w3:List UInt8):Prop:=(w3.length≠0∧w3.length % 2=0∧w3=XK (YM w3))∧Yn (Qh w2)=w2∧Z7 (Qh w1)=w1∧QaI x.marks≤Qh w1∧Qh w1≤1048576∧Qh w2=x.org+x.b.length∧x.b.length+w3.length / 2≤1048576∧x.marks.length≠20000
def MX (x:Im) (w1 w2 w3:List UInt8):Im:={x with b:=x.b++YM w3,marks:=x.marks++[⟨Qh w1,Qh w2,((w3.length / 2:Nat):Int)⟩]}
theorem QcT {x:Im} {s w0 w1 w2 w3:List UInt8} (hw:Qc s=[w0,w1,w2,w3]) (hb:x.b.length≤1048576):(w0=Kv∧MC x w1 w2 w3→Kt x s=some (.mark,MX x w1 w2 w3))∧(¬ (w0=Kv∧MC x w1 w2 w3)→Kt x s=none):=by
 have hs:=(ZG s).1
 rw[hw]at hs
 constructor
 ·rintro⟨h0,⟨h1,h2,h3⟩,h4,h5,h6,h7,h8,h9,h10⟩
  unfold Kt
  rw[hw]
  simp only
  rw[if_neg (by omega),if_neg (by omega),if_neg (by omega),if_pos]
  ·rfl
  ·rw[VP,h5,h4,← h3,beq_iff_eq,← hs,h0]
 ·intro hn
  unfold Kt
  rw[hw]
  simp only
  split
  ·rfl
  ·split
   ·rfl
   ·split
    ·rfl
    ·split
     ·rename_i g1 g2 g3 g4
      refine absurd ?_ hn
      have g4:=beq_iff_eq.1 g4
      rw[VP,QcQ (by simp) (by
       intro w hw
       simp only[List.mem_cons,List.not_mem_nil,or_false]at hw
       rcases hw with rfl | rfl | rfl | rfl
       ·exact(show ∀c∈Kv,c≠32 by decide)
       ·exact QfY _
       ·exact KI _
       ·exact QeL _),hw]at g4
      simp only[List.cons.injEq,and_true]at g4
      obtain⟨k0,k1,k2,k3⟩:=g4
      exact⟨k0,⟨by omega,by omega,k3⟩,k2.symm,k1.symm,by omega,by omega,by omega,by omega,by omega⟩
     ·rfl
theorem Qf4 {x y:Im} {w1 w2 w3:List UInt8} (hc:ZF x):(QhK x w1 w2 w3=some y∧ZF y)↔(MC x w1 w2 w3∧y=MX x w1 w2 w3):=by
 obtain⟨⟨c1,c2,c3⟩,c4,c5,c6⟩:=hc
 have hge:=Qf2 _ _ _ _ c6
 rw[← Qcg]at hge
 obtain⟨n1,n2⟩:=Qny w1 (QaI x.marks) hge
 obtain⟨u1,u2⟩:=Qi1 w3
 have hzl:=QaJ w3
 constructor
 ·rintro⟨h,hy⟩
  unfold QhK at h
  cases hu:Qcc w3 with
  | none=>rw[hu]at h;cases h
  | some b=>
   rw[hu]at h
   simp only at h
   have hbz:=u1 b hu
   subst hbz
   have hsm:=u2.1 (by rw[hu];rfl)
   split at h
   ·rename_i hcond
    cases h
    obtain⟨⟨d1,d2,d3⟩,d4,d5,d6⟩:=hy
    simp only[List.length_append,List.length_cons,List.length_nil]at d1 d2 d3 d6
    rw[QaK x.marks x.org (x.org+x.b.length) _ 1 _ c6 (by omega),← Qcg]at d6
    simp only at d6
    obtain⟨k1,k2⟩:=n1 ⟨hcond.2.1,hcond.2.2.1,hcond.2.2.2,d6.2.2.2.1⟩
    refine⟨⟨hsm,beq_iff_eq.1 hcond.1,k2,by omega,by omega,by omega,by omega,by omega⟩,?_⟩
    unfold MX
    rw[k1,hzl]
   ·cases h
 ·rintro⟨⟨h1,h4,h5,h6,h7,h8,h9,h10⟩,rfl⟩
  have hus:=u2.2 h1
  obtain⟨b,hu⟩:=Option.isSome_iff_exists.1 hus
  have hbz:=u1 b hu
  subst hbz
  obtain⟨k1,k2,k3⟩:=n2 ⟨h6,h5⟩
  constructor
  ·unfold QhK
   rw[hu]
   simp only
   rw[if_pos ⟨by rw[h4];simp,k1,k2,by rw[← k3,h5];simp⟩,← k3,hzl]
   rfl
  ·refine⟨?_,c4,c5,?_⟩
   ·simp only[MX,List.length_append,List.length_cons,List.length_nil];omega
   ·simp only[MX,List.length_append]
    rw[QaK x.marks x.org (x.org+x.b.length) _ 1 _ c6 (by omega),← Qcg]
    simp only
    omega
/-! ### A symbol's line -/
def SC (x:Im) (w1 w2 w3:List UInt8):Prop:=Yn (Qh w2)=w2∧(w3=Vy∨w3=G6)∧V4 w1=true∧x.syms.length≠20000∧∀y,x.syms.getLast? = some y→Sy.le w1 y.name=false
def SX (x:Im) (w1 w2 w3:List UInt8):Im:={x with syms:=x.syms++[⟨w1,Qh w2,w3==Vy⟩]}
theorem QhN {x:Im} {s w0 w1 w2 w3:List UInt8} (hw:Qc s=[w0,w1,w2,w3]):(w0=Qfi∧SC x w1 w2 w3→Vx x s w1 w2 w3=some (.sym,SX x w1 w2 w3))∧(¬ (w0=Qfi∧SC x w1 w2 w3)→Vx x s w1 w2 w3=none):=by
 obtain⟨hs,hno⟩:=ZG s
 rw[hw]at hs hno
 have hb:(s==Qba ⟨w1,Qh w2,w3==[104,101,114,101]⟩)=true↔(w0=Qfi∧Yn (Qh w2)=w2∧(w3=Vy∨w3=G6)):=by
  rw[beq_iff_eq,Qf3,QcQ (by simp) (by
   intro w hw
   simp only[List.mem_cons,List.not_mem_nil,or_false]at hw
   rcases hw with rfl | rfl | rfl | rfl
   ·exact(show ∀c∈Qfi,c≠32 by decide)
   ·exact hno _ (by simp)
   ·exact KI _
   ·split
    ·exact(show ∀c∈Vy,c≠32 by decide)
    ·exact(show ∀c∈G6,c≠32 by decide)),hw]
  simp only[List.cons.injEq,and_true,true_and]
  have h3:w3=(if(w3==[104,101,114,101])=true then Vy else G6)↔(w3=Vy∨w3=G6):=by
   by_cases h:w3=Vy
   ·have hq:(w3==[104,101,114,101])=true:=beq_iff_eq.2 h
    rw[if_pos hq]
    exact⟨.inl,fun _=>h⟩
   ·have hq:¬ (w3==[104,101,114,101])=true:=fun h'=>h (beq_iff_eq.1 h')
    rw[if_neg hq]
    exact⟨.inr,fun h'=>h'.resolve_left h⟩
  rw[h3]
  constructor
  ·rintro⟨a,b,c⟩;exact⟨a,b.symm,c⟩
  ·rintro⟨a,b,c⟩;exact⟨a,b.symm,c⟩
 constructor
 ·rintro⟨h0,h1,h2,h3,h4,h5⟩
  unfold Vx
  rw[if_pos ⟨hb.2 ⟨h0,h1,h2⟩,h3,h4,h5⟩]
  rfl
 ·intro hn
  unfold Vx
  rw[if_neg fun h=>hn ?_]
  obtain⟨a,b,c⟩:=hb.1 h.1
  exact⟨a,b,c,h.2.1,h.2.2.1,h.2.2.2⟩
theorem QcU {x y:Im} {w1 w2 w3:List UInt8} (hc:ZF x):(QjD x w1 w2 w3=some y∧ZF y)↔(x.marks=[]∧SC x w1 w2 w3∧y=SX x w1 w2 w3):=by
 obtain⟨⟨c1,c2,c3⟩,c4,c5,c6⟩:=hc
 unfold QjD
 constructor
 ·rintro⟨h,hy⟩
  split at h
  ·rename_i hcond
   cases h
   obtain⟨⟨d1,d2,d3⟩,d4,d5,d6⟩:=hy
   simp only[List.length_append,List.length_cons,List.length_nil]at d2
   obtain⟨e1,e2,e3⟩:=(QaM _ _).1 d5
   exact⟨List.length_eq_zero_iff.1 hcond.2.1,⟨beq_iff_eq.1 hcond.1,hcond.2.2,e2,by omega,fun p hp=>(QaL _ _).1 (e3 p hp)⟩,rfl⟩
  ·cases h
 ·rintro⟨h0,⟨h1,h2,h3,h4,h5⟩,rfl⟩
  rw[if_pos ⟨beq_iff_eq.2 h1,by rw[h0];rfl,h2⟩]
  refine⟨rfl,⟨by simp only[SX,List.length_append,List.length_cons,List.length_nil];omega,c4,?_,c6⟩⟩
  exact(QaM _ _).2 ⟨c5,h3,fun p hp=>(QaL _ _).2 (h5 p hp)⟩
def GM (g:Option Stg) (x:Im):Prop:=match g with
 | none=>x=im0
 | some .sym=>ZF x∧x.marks=[]
 | some .mark=>ZF x∧x.marks≠[]
def QjH (g:Option Stg) (x:Im) (s:List UInt8) (r:Option (Stg×Im)):Prop:=match r with
 | none=>∀y,Qdm x s g.isNone=some y→¬ZF y
 | some (g',x')=>Qdm x s g.isNone=some x'∧ZF x'∧GM (some g') x'
theorem QeN {x:Im} {s:List UInt8} {w0 w1 w2 w3:List UInt8} (hw:Qc s=[w0,w1,w2,w3]):Qdm x s false=if w0=Qfi then QjD x w1 w2 w3 else if w0=Kv then QhK x w1 w2 w3 else none:=by
 unfold Qdm
 rw[if_neg (by simp),hw];rfl
theorem Qf5 {x:Im} {s:List UInt8} (h:(Qc s).length≠4):Qdm x s false=none:=by
 unfold Qdm
 rw[if_neg (by simp)]
 split
 ·rename_i hw;rw[hw]at h;exact absurd rfl h
 ·rfl
theorem QcV {x:Im} {s:List UInt8} (h:(Qc s).length≠4):Kt x s=none:=by
 unfold Kt
 split
 ·rename_i hw;rw[hw]at h;exact absurd rfl h
 ·rfl
theorem QoF {s:List UInt8} (h:(Qc s).length=4):∃w0 w1 w2 w3,Qc s=[w0,w1,w2,w3]:=by
 match hm:Qc s with
 | [a,c,d,f]=>exact⟨a,c,d,f,rfl⟩
 | [] | [_] | [_,_] | [_,_,_] | _::_::_::_::_::_=>rw[hm]at h;simp at h
theorem Qmb {s w0 w1 w2 w3:List UInt8} (hw:Qc s=[w0,w1,w2,w3]):(s.take 5==[109,97,114,107,32])=true↔w0=Kv:=by
 obtain⟨hs,hno⟩:=ZG s
 rw[hw]at hs hno
 rw[beq_iff_eq]
 constructor
 ·intro h
  have h2:s=Kv++32::s.drop 5:=by
   conv=>lhs;rw[← List.take_append_drop 5 s,h]
   rfl
  have h3:=VN Kv (s.drop 5) (show ∀c∈Kv,c≠32 by decide)
  rw[← h2,hw]at h3
  injection h3
 ·intro h
  rw[← hs,h]
  rfl
theorem QeO {x:Im} {s:List UInt8} {g:Option Stg} (hg:g.isNone=false) (hc:ZF x) (hm:Qc s=[]∨(Qc s).length≠4∨x.marks≠[]∨∃w1 w2 w3,Qc s=[Kv,w1,w2,w3]):QjH g x s (Kt x s):=by
 by_cases h4:(Qc s).length=4
 ·obtain⟨w0,w1,w2,w3,hw⟩:=QoF h4
  obtain⟨m1,m2⟩:=QcT (x:=x) hw hc.1.1
  have hl:=QeN (x:=x) hw
  by_cases hk:w0=Kv∧MC x w1 w2 w3
  ·rw[m1 hk]
   have hh:=(Qf4 (y:=MX x w1 w2 w3) hc).2 ⟨hk.2,rfl⟩
   refine⟨?_,hh.2,hh.2,?_⟩
   ·rw[hg,hl,if_neg (by rw[hk.1];decide),if_pos hk.1];exact hh.1
   ·unfold MX;simp
  ·rw[m2 hk]
   intro y hy hcy
   rw[hg,hl]at hy
   split at hy
   ·rename_i hsym
    have:=(QcU (y:=y) hc).1 ⟨hy,hcy⟩
    rcases hm with h | h | h | ⟨v1,v2,v3,h⟩
    ·rw[h]at hw;cases hw
    ·exact h h4
    ·exact h this.1
    ·rw[h]at hw;injection hw with hw _;rw[hsym]at hw;revert hw;decide
   ·split at hy
    ·rename_i h0
     exact hk ⟨h0,((Qf4 (y:=y) hc).1 ⟨hy,hcy⟩).1⟩
    ·cases hy
 ·rw[QcV h4]
  intro y hy
  rw[hg,Qf5 h4]at hy
  cases hy
theorem GS (g:Option Stg) (x:Im) (s:List UInt8) (hG:GM g x):QjH g x s (goS g x s):=by
 match g,hG with
 | none,hG=>
  have hG:x=im0:=hG
  subst hG
  have hl:Qdm im0 s true=(match Qc s with | [w0,w1]=>QjE im0 w0 w1 | _=>none):=by unfold Qdm;rw[if_pos rfl];try rfl
  by_cases h2:(Qc s).length=2
  ·obtain⟨w0,w1,hw⟩:∃w0 w1,Qc s=[w0,w1]:=by
    match hm:Qc s with
    | [a,c]=>exact⟨a,c,rfl⟩
    | [] | [_] | _::_::_::_=>rw[hm]at h2;simp at h2
   rw[hw]at hl
   simp only at hl
   have hiff:(s==VO (Qh w1))=true↔(w0=[111,114,103]∧Yn (Qh w1)=w1):=by
    have hj:VO (Qh w1)=W1 [[111,114,103],Yn (Qh w1)]:=by simp[VO,W1]
    rw[beq_iff_eq,hj,QcQ (by simp) (by
     intro w hw
     simp only[List.mem_cons,List.not_mem_nil,or_false]at hw
     rcases hw with rfl | rfl
     ·exact(show ∀c∈([111,114,103]:List UInt8),c≠32 by decide)
     ·exact KI _),hw]
    simp only[List.cons.injEq,and_true]
    exact⟨fun h=>⟨h.1,h.2.symm⟩,fun h=>⟨h.1,h.2.symm⟩⟩
   have hgo:goS none im0 s=if(s==VO (Qh w1))=true∧0≤Qh w1∧Qh w1≤140737488355328 then some (.sym,{im0 with org:=Qh w1}) else none:=by
    show Qcd im0 s=_
    unfold Qcd;rw[hw]
   have hchk:ZF {im0 with org:=Qh w1}↔(0≤Qh w1∧Qh w1≤140737488355328):=by
    constructor
    ·intro h;exact h.2.1
    ·intro h
     refine⟨⟨by simp[im0],by simp[im0],by simp[im0]⟩,h,fun i y hy=>by simp[im0]at hy,?_⟩
     show Wy [] _ _ 1=true
     rw[Wy,beq_iff_eq]
     simp[im0]
   rw[hgo]
   split
   ·rename_i hc
    have h1:=hiff.1 hc.1
    have hk:=hchk.2 hc.2
    refine⟨?_,hk,hk,rfl⟩
    rw[show(none:Option Stg).isNone=true from rfl,hl]
    unfold QjE
    rw[if_pos ⟨h1.1,beq_iff_eq.2 h1.2⟩]
   ·rename_i hc
    intro y hy hcy
    rw[show(none:Option Stg).isNone=true from rfl,hl]at hy
    unfold QjE at hy
    split at hy
    ·rename_i h1
     cases hy
     exact hc ⟨hiff.2 ⟨h1.1,beq_iff_eq.1 h1.2⟩,hchk.1 hcy⟩
    ·cases hy
  ·have hgo:goS none im0 s=none:=by
    show Qcd im0 s=_
    unfold Qcd
    split
    ·rename_i hw;rw[hw]at h2;exact absurd rfl h2
    ·rfl
   rw[hgo]
   intro y hy
   rw[show(none:Option Stg).isNone=true from rfl,hl]at hy
   split at hy
   ·rename_i hw;rw[hw]at h2;exact absurd rfl h2
   ·cases hy
 | some .mark,hG=>exact QeO rfl hG.1 (.inr (.inr (.inl hG.2)))
 | some .sym,hG=>
  obtain⟨hc,hm0⟩:=hG
  show QjH (some .sym) x s (Qcf x s)
  unfold Qcf
  by_cases h4:(Qc s).length=4
  ·obtain⟨w0,w1,w2,w3,hw⟩:=QoF h4
   have ht:=Qmb hw
   by_cases h0:w0=Kv
   ·rw[if_pos (ht.2 h0)]
    exact QeO rfl hc (.inr (.inr (.inr ⟨w1,w2,w3,by rw[hw,h0]⟩)))
   ·rw[if_neg (fun h=>h0 (ht.1 h)),hw]
    obtain⟨t1,t2⟩:=QhN (x:=x) hw
    have hl:=QeN (x:=x) hw
    simp only
    by_cases hk:w0=Qfi∧SC x w1 w2 w3
    ·rw[t1 hk]
     have hh:=(QcU (y:=SX x w1 w2 w3) hc).2 ⟨hm0,hk.2,rfl⟩
     refine⟨?_,hh.2,hh.2,hm0⟩
     rw[show(some Stg.sym).isNone=false from rfl,hl,if_pos hk.1];exact hh.1
    ·rw[t2 hk]
     intro y hy hcy
     rw[show(some Stg.sym).isNone=false from rfl,hl]at hy
     split at hy
     ·rename_i hsym
      exact hk ⟨hsym,((QcU (y:=y) hc).1 ⟨hy,hcy⟩).2.1⟩
     ·first | (rw[if_neg h0]at hy;cases hy) | cases hy
  ·have hn:QjH (some .sym) x s none:=fun y hy=>by
    rw[show(some Stg.sym).isNone=false from rfl,Qf5 h4]at hy;cases hy
   split
   ·rw[QcV h4];exact hn
   ·split
    ·rename_i hw;rw[hw]at h4;exact absurd rfl h4
    ·exact hn
end Go.Proofs.YthoanamkoigjeaaDoor.code
