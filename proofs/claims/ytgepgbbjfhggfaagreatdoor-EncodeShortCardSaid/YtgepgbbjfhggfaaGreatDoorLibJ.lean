/- The document's encodings by a form. -/
import Derived.Test.YtgepgbbjfhggfaaGreatDoorLibH
import Derived.Test.YtgepgbbjfhggfaaGreatDoorLibC
import Derived.Test.YtgepgbbjfhggfaaGreatDoorC9Ref
import Derived.Test.YtgepgbbjfhggfaaGreatDoorLibG
set_option linter.unusedVariables false
set_option linter.unusedSimpArgs false
set_option maxRecDepth 100000
set_option maxHeartbeats 4000000
namespace Go.Proofs.YtgepgbbjfhggfaaGreatDoor.code
open Go.Ab
theorem Zq.keepT {e:TypeId}{H0 H H':Qa}{v:Value}{ws:List (List Int)}(h:Zq e H0 H v ws)(hk:∀id cs t,H.get id=some (.cells cs t false)->(t=e∨t=5)->H'.get id=H.get id):Zq e H0 H' v ws:=by
 obtain⟨ss,h1,h2,h3⟩:=h.it;have key:∀ {t:TypeId} {v:Value} {n:Nat} {cs:List Value},(t=e∨t=5)->Gx 1 t H0 H v n cs->Gx 1 t H0 H' v n cs:=λht hq=>by
  rcases hq with h2 | ⟨b,c,rfl,q2,q3,q4⟩
  ·exact .inl h2
  ·exact .inr ⟨b,c,rfl,q2,by rw[hk b _ _ q3 ht];exact q3,q4⟩
 exact⟨h.ne,ss,h1,key (.inl rfl) h2,λj s w a b=>key (.inr rfl) (h3 j s w a b)⟩
theorem QDG {size:Nat}{e:TypeId}{H0 Hb H H':Qa}{v v':Value}{n:Nat}{cs:List Value}(hg:Gx size e Hb H v n cs)(hk:GK v v' H0 H H')(hw:H.Wf){id:Nat}{c:List Value}{t:TypeId}(h:H.get id=some (.cells c t false))(ht:t≠e):H'.get id=H.get id:=by
 refine hk.keep id (hw.lt h) fun⟨o,n',c',hv⟩=>?_;subst hv;rcases hg with⟨h,_,_⟩ | ⟨b,c2,h2,_,q3,_⟩
 ·cases h
 ·cases h2;rw[q3]at h;exact ht (Blk.cells.inj (Ly h)).2.1.symm
def QxS (bs:List Int):Int:=if bs.length=0 then -1 else if bs.getD 0 0 / 64=3 then -1 else if bs.getD 0 0 % 8=4 then(bs.length:Int) - 2 else(bs.length:Int) - 1
def mkR (cd:Int)(tl:List Int)(w:Ld)(hd:List Int):Ld:=⟨hd++[cd]++w.b++tl,0,QxS w.b⟩
theorem QFF {H1:Qa}(hw1:H1.Wf){s:Value}{n:Nat}{bs:List Value}{k:Value->Qa->Prop}(hsrc:J4 1 s (H1.push (.cells [] 5 false))=some (n,bs))(hone:bs.all (·.oneCell')=true)(hl:bs.length=n)(hn:n<=1000)
  (h:∀v' H',Gx 1 5 H1 H' v' n bs->Ext (H1.push (.cells [] 5 false)) H'->H'.Wf->k v' H'):Qdr 5 1 1 (.slice (some ⟨H1.next,0,none⟩) 0 0) s (H1.push (.cells [] 5 false)) k:=by
 have g0:Gx 1 5 H1 (H1.push (.cells [] 5 false)) (.slice (some ⟨H1.next,0,none⟩) 0 0) 0 []:=.inr ⟨_,_,rfl,Lb _,by rw[Qd,Lc rfl],rfl,.inl rfl⟩
 by_cases hm:n=0
 ·subst hm;have:bs=[]:=N2.1 hl;subst this;have hr:ZF 5 1 1 (.slice (some ⟨H1.next,0,none⟩) 0 0) s (H1.push (.cells [] 5 false))=some (.slice (some ⟨H1.next,0,none⟩) 0 0,H1.push (.cells [] 5 false)):=by
   unfold ZF;rw[hsrc];simp
  unfold Qdr;rw[hr,QM];exact h _ _ g0 (.refl _) (hw1.push _)
 ·refine Qvu g0 ⟨_,rfl⟩ (hw1.push _) hsrc hone hm (by omega) (by omega) (by omega) (by decide) λv' H' hg hx hw _=>h v' H' ?_ hx hw;rw[LP,LH]at hg;exact hg.down (by rw[Qc];omega)
section
variable {x:Lf} {H Hc:Qa}
theorem QI7 (hlc:H.next+2<=Hc.next){c:Rg}{cb:Nat}(hcb:cb<Hc.next)(gF:Hc.get H.next=some (.cells x.cells 45 false))(gC:Hc.get cb=some (.cells c.cells 54 false)){rv pv hv out:Value}{tl:List Int}(hrv:Gx 1 5 H Hc rv tl.length (bys tl))(htl:tl.length<=1000){P:List Ld}(hP:Q7 120 H Hc pv P){k j:Nat}{w:Ld}(hk:P[k]? = some w)(hwl:w.b.length<=100)(hwb:∀c∈w.b,0<=c∧c<256){hs:List (List Int)}{hd:List Int}(hsl:hs.length<=1000)(hj:hs[j]? = some hd)(hdl:hd.length<=100)(hI:I64 (x.f.code+8)∧I64 (x.f.code - 8))
  {H1:Qa} (hx1:Ext Hc H1) (hw1:H1.Wf) (hhs:Zq 27 Hc H1 hv hs) {ws:List Ld} (ho:Q7 41 Hc H1 out ws) (hws:ws.length<=1000) (hwc:Hc.Wf)
  {A:Env} (r2:A 2=.pointer (some ⟨H.next,0,none⟩)) (r8:A 8=.pointer (some ⟨cb,0,none⟩)) (r9:A 9=rv) (r10:A 10=pv) (r11:A 11=.int .i64 k) (r12:A 12=hv) (r13:A 13=.int .i64 j) (r6:A 6=out)
  {ks:Kp} {K:Env->Qa->Prop}
  (h:∀ (A3:Env) (H3:Qa),Q7 41 Hc H3 (A3 6) (ws++[mkR (IntKind.u8.wrap (x.f.code+Wg c)) tl w hd])->Ext Hc H3->H3.Wf->Zq 27 Hc H3 hv hs->A3 2=A 2->A3 3=A 3->A3 7=A 7->A3 8=A 8->A3 9=A 9->A3 10=A 10->A3 11=A 11->A3 12=A 12->A3 13=.int .i64 ((j+1:Nat):Int)->K A3 H3):
  Qm prog JW ks K A H1:=by
 have e5:x.cells[5]? = some (.int .i64 x.f.code):=rfl;have hjl:j<hs.length:=(Lk.1 hj).1;have hkl:k<P.length:=(Lk.1 hk).1
 -- the list of prefixes
 obtain⟨ss,ls1,ls2,ls3⟩:=hhs.it;obtain⟨sj,hsj⟩:∃s,ss[j]? = some s:=⟨_,La (by omega)⟩;have gsj:=ls3 j sj hd hsj hj;obtain⟨pb,pc',epv,gpb⟩:∃b' c',hv=.slice (some ⟨b',0,none⟩) hs.length c'∧H1.get b'=some (.cells ss 27 false):=by
  rcases ls2 with⟨_,h,_⟩ | ⟨b',c',e,q1,q2,_,_⟩
  ·omega
  ·exact⟨b',c',e,q2⟩
 subst epv
 -- the list of ways
 obtain⟨ts,lt1,lt2,lt3⟩:=hP.it;obtain⟨tk,htk⟩:∃s,ts[k]? = some s:=⟨_,La (by omega)⟩;have gtk:=lt3 k tk w htk hk;obtain⟨lb,lc',elv,glb⟩:∃b' c',pv=.slice (some ⟨b',0,none⟩) P.length c'∧Hc.get b'=some (.cells (ldC ts P) 120 false):=by
  rcases lt2 with⟨_,h,_⟩ | ⟨b',c',e,q1,q2,_,_⟩
  ·omega
  ·exact⟨b',c',e,q2⟩
 subst elv;have d1:(0:Int)<=j∧(j:Int)<hs.length:=by omega
 have d3:(j:Int).toNat=j:=by omega
 have d1k:(0:Int)<=k∧(k:Int)<P.length:=by omega
 have d3k:(k:Int).toNat=k:=by omega
 have ej:IntKind.i64.wrap ((j:Int)+1)=((j+1:Nat):Int):=by rw[w64 (by unfold I64;omega)];omega
 obtain⟨sa,sc,rfl⟩:=gsj.slc;have xl:=(Ext.refl H1).push (.cells [] 5 false);have hnl:¬pb=H1.next:=by have:=hw1.lt gpb;omega
 simp only[JW,Qb,simprocAttr,QE8,r2,r8,r12,r13,d1,d3,hnl,LN,gpb,hsj];have hle:=hx1.next;refine⟨⟨by omega,by omega⟩,?_⟩;refine QFF hw1 (gsj.go hw1 xl).src (ZJ _) (Xd _) (by omega) λv2 H2 g2 xx2 w2=>?_;obtain⟨a2,c2,rfl⟩:=g2.slc;have x2:=xl.trans xx2;have hx2:=hx1.trans x2;have kF:=(hx2.get H.next (by omega)).trans gF;have kC:=(hx2.get cb hcb).trans gC;have q:=Qef c;have hlo:=Jp c;generalize Wg c=lo at *;have ew:IntKind.i64.wrap (x.f.code+lo)=x.f.code+lo:=w64 (by have:=hI;unfold I64 at *;omega);obtain⟨cc,cn⟩:=c;simp only[Rg.cells]at kC q;have bl:∀ (m:Nat) (n:Int),Qh m 6 (.int .i64 n)=true:=λm n=>by simp[Qh,Ab.plain]
 simp only[Qb,simprocAttr,r2,r8,kF,kC,e5,Lw,List.take];refine⟨xx2.eqB,bl _ _,by simp[Qh,Ab.plain],(q H2).thenW ?_⟩;rintro _ _ hn3 hw3 ⟨rfl,k3,rfl⟩;simp only[Ql]at hn3;have x3:=x2.up (m:=k3) hn3;have g3:=g2.go w2 ((Ext.refl H2).up (m:=k3) hn3);have xe3:=((Ext.refl H2).up (m:=k3) hn3).eqB;generalize Qa.up H2 k3=H3 at *;simp only[Qb,simprocAttr,ew];refine⟨xe3,?_⟩;generalize IntKind.u8.wrap (x.f.code+lo)=cd at *;have y4:=(Ext.refl H3).push (.cells (bys [cd]) 5 false);have hwk:w.b.length<=100:=hwl;refine Zp (H0:=H1) (g3.go hw3 y4) (x3.trans y4) (hw3.push _) (Qk2 H3 [cd]).src (ZJ _) (by rw[Xd,NH]) (by simp only[Bb];omega) (by simp only[Bb];omega) λv4 H4 g4 k4=>?_;obtain⟨a4,c4,rfl⟩:=g4.slc;have hx4:=hx1.trans k4.x;have hlb:=hwc.lt glb;have gl4:=(hx4.get lb hlb).trans glb;have ek0:(ldC ts P)[k * 3]? = some tk:=by
  have:=congrArg (λz=>z[0]?) (Qgf ts P k tk w htk hk);simpa[Nl,Nk] using this
 obtain⟨ta,tc,rfl⟩:=gtk.slc;simp only[Qb,simprocAttr,r10,r11,d1k,d3k,gl4,ek0];refine Zp (H0:=H1) g4 k4.x k4.w (gtk.go hwc hx4).src (ZJ _) (by rw[Xd,NH]) (by simp only[Bb];omega) (by simp only[Bb];omega) λv5 H5 g5 k5=>?_;obtain⟨a5,c5,rfl⟩:=g5.slc;have hx5:=hx1.trans k5.x;obtain⟨ra,rc,rfl⟩:=hrv.slc;simp only[Qb,simprocAttr,r9];refine Zp (H0:=H1) g5 k5.x k5.w (hrv.go hwc hx5).src (ZJ _) (by rw[Xd,NH]) (by simp only[Bb];omega) (by simp only[Bb];omega) λv6 H6 g6 k6=>?_;have hx6:=hx1.trans k6.x;have g6':Gx 1 5 H1 H6 v6 (hd++[cd]++w.b++tl).length (bys (hd++[cd]++w.b++tl)):=by
  simp only[Lh,Je];exact g6
 clear g6;obtain⟨a6,c6,rfl⟩:=g6'.slc;have gl6:=(hx6.get lb hlb).trans glb;simp only[Qb,simprocAttr,r6,r10,r11,d1k,d3k,gl6,ek0];refine(QvQ H6 (gtk.go hwc hx6) (by omega) hwb).thenW ?_;rintro _ H6 _ _ ⟨rfl,rfl⟩;simp only[Qb,simprocAttr,r6];have ebh:QxS w.b=if w.b.length=0 then -1 else if w.b.getD 0 0 / 64=3 then -1 else if w.b.getD 0 0 % 8=4 then(w.b.length:Int) - 2 else(w.b.length:Int) - 1:=rfl
 rw[<- ebh];have y7:=(Ext.refl H6).push (.cells [.slice a6 (hd++[cd]++w.b++tl).length c6,.int .i64 0,.int .i64 (QxS w.b)] 41 false);have x7:=hx6.trans y7;have w7:=k6.w.push (.cells [.slice a6 (hd++[cd]++w.b++tl).length c6,.int .i64 0,.int .i64 (QxS w.b)] 41 false);have ho7:=ho.go hw1 (k6.x.trans y7);have hh7:=hhs.go hw1 (k6.x.trans y7);obtain⟨us,lu1,lu2,lu3⟩:=ho7.it;refine QvM (w:=mkR cd tl w hd) (s:=.slice a6 (hd++[cd]++w.b++tl).length c6) (by decide) ho7 x7 w7 ((g6'.go k6.w y7).down hle) ?_ (by omega) (by omega) λv8 H8 l8 k8=>?_
 ·rw[JI (b:=H6.next) (by rw[Qd,Lc rfl]) (by decide) (by simp)];rfl
 ·simp only[Qb,simprocAttr,r13,ej];refine h _ H8 ?_ k8.x k8.w (hh7.keepT λid cs t q1 q2=>QDG lu2 k8 w7 q1 (by rcases q2 with rfl | rfl<;>decide)) ?_ ?_ ?_ ?_ ?_ ?_ ?_ ?_ ?_
  all_goals simp only[Qg,simprocAttr]
  exact l8
def Qo0 (f:Fm)(l:List Ar)(r:Int)(c:Rg)(tl:List Int)(w:Ld):List Ld:=(QcI f l r w.x (w.h+We c)).map (mkR (IntKind.u8.wrap (f.code+Wg c)) tl w)
theorem QsX (f:Fm)(l:List Ar)(r x b:Int):(QcI f l r x b).length<=3∧∀hd∈QcI f l r x b,hd.length<=100:=by
 unfold QcI;split
 ·unfold Qq8;constructor
  ·cases(f.w==-1)<;>(split<;>simp)
  ·intro hd h;simp only[LI,Sa]at h;rcases h with h | h | h
   ·split at h
    ·rw[Sa]at h;subst h;simp
    ·cases h
   ·subst h;show 3<=100;omega
   ·cases hb:(f.w==-1) with
    | true=>
     rw[hb,Lq,Sa]at h;subst h;show 3<=100;omega
    | false=>rw[hb,Ls]at h;cases h
 ·constructor
  ·rw[Nn];unfold chF
   repeat' split
   all_goals simp
  ·intro hd h;obtain⟨n,_,rfl⟩:=N4.1 h;have h1:=QxP f.pre n;have h2:=QxQ f.map;rw[Lh];omega
theorem QI8 {op:Int}{va:Value}{l:List Ar}(hf:FOk x.f)(hfr:x.Fr 0)(hw:H.Wf)(hx:x.At H)(ha:Qv H va l)(hva:∀n,H.next<=n->Qh n 6 (.agg #[.int .i64 op,va])=true)(hl:l.length<=1000)(hn:x.f.slots.length=l.length)(hxc:Ext H Hc)(hwc:Hc.Wf)(hlc:H.next+2<=Hc.next){c:Rg}{cb:Nat}(hcb:cb<Hc.next)(gF:Hc.get H.next=some (.cells x.cells 45 false))(gI:Hc.get (H.next+1)=some (.cells [.int .i64 op,va] 24 false))(gC:Hc.get cb=some (.cells c.cells 54 false)){rv pv:Value}{tl:List Int}(hrv:Gx 1 5 H Hc rv tl.length (bys tl))(htl:tl.length<=1000){P:List Ld}(hP:Q7 120 H Hc pv P)(hPl:P.length<=8){r:Int}(hr:0<=r∧r<2)
  (hPw:∀w∈P,(0<=w.x∧w.x<2)∧(0<=w.h+We c∧w.h+We c<2)∧(x.f.vex=true->(vxR x.f l r w.x (w.h+We c)).Ok)∧w.b.length<=100∧∀z∈w.b,0<=z∧z<256) (hI:I64 (x.f.code+8)∧I64 (x.f.code - 8))
  {W:List Ld} (eW:W=P.flatMap (Qo0 x.f l r c tl))
  {A:Env} (r2:A 2=.pointer (some ⟨H.next,0,none⟩)) (r3:A 3=.pointer (some ⟨H.next+1,0,none⟩)) (r7:A 7=.int .i64 r) (r8:A 8=.pointer (some ⟨cb,0,none⟩)) (r9:A 9=rv) (r10:A 10=pv) (r11:A 11=.int .i64 (0:Nat)) (r6:A 6=.slice none 0 0)
  {ks:Kp} (hks:∀ (A3:Env) (H3:Qa),Q7 41 Hc H3 (A3 6) W->Ext Hc H3->H3.Wf->ks.ext 0 A3 H3) {K:Env->Qa->Prop}:
  Qm prog (.loop JX) ks K A Hc:=by
 have e10:x.cells.take 10=x.cells:=rfl;have l10:10<=x.cells.length:=Lb _;refine Qo (λm A' H'=>∃k:Nat,k<=P.length∧m=P.length - k∧Ext Hc H'∧H'.Wf∧Q7 41 Hc H' (A' 6) ((P.take k).flatMap (Qo0 x.f l r c tl))∧A' 2=.pointer (some ⟨H.next,0,none⟩)∧A' 3=.pointer (some ⟨H.next+1,0,none⟩)∧A' 7=.int .i64 r∧A' 8=.pointer (some ⟨cb,0,none⟩)∧A' 9=rv∧A' 10=pv∧A' 11=.int .i64 k) P.length ?_ ?_
 ·refine⟨0,L7 _,rfl,.refl _,hwc,?_,r2,r3,r7,r8,r9,r10,r11⟩;rw[r6];exact Q7.nil _ _ _
 ·rintro m A' H' ⟨k,hk,rfl,hx',hw',ho,p2,p3,p7,p8,p9,p10,p11⟩;obtain⟨pa,pc',rfl⟩:=hP.slc;simp only[JX,Qb,simprocAttr,p10,p11];refine Qf (λh2=>?_) (λh2=>?_)
  ·have h2:k<P.length:=by have:=Lg h2;omega
   obtain⟨w,hkw⟩:∃w,P[k]? = some w:=⟨_,La h2⟩;obtain⟨hwx,hwh,hwv,hwl,hwb⟩:=hPw w (Ln hkw);obtain⟨ts,lt1,lt2,lt3⟩:=hP.it;obtain⟨tk,htk⟩:∃s,ts[k]? = some s:=⟨_,La (by omega)⟩;obtain⟨lb,lc',elv,glb⟩:∃b' c',Value.slice pa P.length pc'=.slice (some ⟨b',0,none⟩) P.length c'∧Hc.get b'=some (.cells (ldC ts P) 120 false):=by
    rcases lt2 with⟨_,h,_⟩ | ⟨b',c',e,q1,q2,_,_⟩
    ·omega
    ·exact⟨b',c',e,q2⟩
   cases elv;have d1k:(0:Int)<=k∧(k:Int)<P.length:=by omega
   have d3k:(k:Int).toNat=k:=by omega
   have ek:IntKind.i64.wrap ((k:Int)+1)=((k+1:Nat):Int):=by rw[w64 (by unfold I64;omega)];omega
   have gl:=(hx'.get lb (hwc.lt glb)).trans glb;have hat:=Qgf ts P k tk w htk hkw;have ek1:(ldC ts P)[k * 3+1]? = some (.int .i64 w.x):=by
    have:=congrArg (λz=>z[1]?) hat;simpa[Nl,Nk] using this
   have ek2:(ldC ts P)[k * 3+2]? = some (.int .i64 w.h):=by
    have:=congrArg (λz=>z[2]?) hat;simpa[Nl,Nk] using this
   have kF:=(hx'.get H.next (by omega)).trans gF;have kI:=(hx'.get (H.next+1) (by omega)).trans gI;have kC:H'.get cb=some (.cells [.int .i64 c.c,.int .i64 c.n] 54 false):=(hx'.get cb hcb).trans gC;have q:∀H,Qe prog 84 [.agg #[.int .i64 c.c,.int .i64 c.n]] H λu H'=>u=.int .i64 (We c)∧∃k,H'=H.up k:=λH=>QcC c H;have hch:=Qia c;have eE:Qo0 x.f l r c tl w=(QcI x.f l r w.x (w.h+We c)).map (mkR (IntKind.u8.wrap (x.f.code+Wg c)) tl w):=rfl;have etk:(P.take (k+1)).flatMap (Qo0 x.f l r c tl)=(P.take k).flatMap (Qo0 x.f l r c tl)++Qo0 x.f l r c tl w:=by
    rw[Nv,hkw,RB,Bm];simp
   have eh:IntKind.i64.wrap (w.h+We c)=w.h+We c:=w64 (by unfold I64;omega);have bl:∀ (m:Nat) (n:Int),Qh m 6 (.int .i64 n)=true:=λm n=>by simp[Qh,Ab.plain]
   have hq:=λH2 (hx2:Ext H H2)=>QxJ (op:=op) (va:=va) hf hwv hr hwx hwh H2 (hx.ext hw hx2) (ha.ext hw hx2) hl hn;have hhl:=QsX x.f l r w.x (w.h+We c);have hle:=hx'.next;simp only[Qbd,Qb,simprocAttr,p2,p3,p7,p8,p10,p11,kF,kI,d1k,d3k,gl,ek1,ek2,kC,Lw,e10,List.take];refine⟨l10,QsT hw hx hfr _ (by have:=hxc.next;omega),hva _ (by have:=hxc.next;omega),bl _ _,bl _ _,(q H').thenW ?_⟩;rintro _ _ hn3 hw3 ⟨rfl,k3,rfl⟩;simp only[Ql]at hn3;have hx3:=hx'.up (m:=k3) hn3;have ho3:=ho.go hw' ((Ext.refl H').up (m:=k3) hn3);have xe3:=((Ext.refl H').up (m:=k3) hn3).eqB;generalize Qa.up H' k3=H3 at *;simp only[Qb,simprocAttr,eh];refine⟨xe3,(hq H3 (hxc.trans hx3)).thenW ?_⟩;rintro hv H4 hn4 hw4 ⟨hl4,hx4⟩;have ho4:=ho3.go hw3 hx4;have hx5:=hx3.trans hx4;have hl5:=hl4.down (H0:=Hc) hx3.next;generalize hhs:QcI x.f l r w.x (w.h+We c)=hs at *;obtain⟨hva',hvc',rfl⟩:=hl5.slc;have hwsl:((P.take k).flatMap (Qo0 x.f l r c tl)).length<=24:=by
    have:∀ (n:Nat) (Q:List Ld),Q.length<=n->(Q.flatMap (Qo0 x.f l r c tl)).length<=3 * n:=by
     intro n
     induction n with
     | zero=>intro Q hQ;rw[N2.1 (Nat.le_zero.1 hQ)];simp
     | succ n ih=>
      intro Q hQ;cases Q with
      | nil=>simp
      | cons q Q=>
       have:=ih Q (by simp at hQ;omega);have h9:=(QsX x.f l r q.x (q.h+We c)).1;rw[Ba,Lh];have:(Qo0 x.f l r c tl q).length<=3:=by unfold Qo0;rw[Nn];exact h9
       omega
    have:=this 8 (P.take k) (by rw[Sb];omega);omega
   simp only[Qb,simprocAttr];refine Qo (λm A' H'=>∃j:Nat,j<=hs.length∧m=hs.length - j∧Ext Hc H'∧H'.Wf∧Q7 41 Hc H' (A' 6) ((P.take k).flatMap (Qo0 x.f l r c tl)++(hs.take j).map (mkR (IntKind.u8.wrap (x.f.code+Wg c)) tl w))∧Zq 27 Hc H' (.slice hva' hs.length hvc') hs∧A' 2=.pointer (some ⟨H.next,0,none⟩)∧A' 3=.pointer (some ⟨H.next+1,0,none⟩)∧A' 7=.int .i64 r∧A' 8=.pointer (some ⟨cb,0,none⟩)∧A' 9=rv∧A' 10=.slice (some ⟨lb,0,none⟩) P.length pc'∧A' 11=.int .i64 k∧A' 12=.slice hva' hs.length hvc'∧A' 13=.int .i64 j) hs.length ?_ ?_
   ·refine⟨0,L7 _,rfl,hx5,hw4,?_,hl5,?_,?_,?_,?_,?_,?_,?_,?_,?_⟩
    all_goals simp only[uxA,uxB,Nat.reduceBEq,p2,p3,p7,p8,p9,p10,p11]
    ·rw[Rb,Bq,Na];exact ho4
    ·rfl
   ·rintro m A1 H1 ⟨j,hj,rfl,hx1,hw1,ho1,hl1,s2,s3,s7,s8,s9,s10,s11,s12,s13⟩;simp only[Qbc,Qb,simprocAttr,s12,s13];refine Qf (λh3=>?_) (λh3=>?_)
    ·have h3:j<hs.length:=by have:=Lg h3;omega
     obtain⟨hd,hjd⟩:∃hd,hs[j]? = some hd:=⟨_,La h3⟩;simp only[Qb,simprocAttr];refine QI7 (k:=k) (out:=A1 6) hlc hcb gF gC hrv htl hP hkw hwl hwb (by omega) hjd (hhl.2 hd (Ln hjd)) hI hx1 hw1 hl1 ho1 (by rw[Lh,Nn,Sb];have:=hhl.1;omega) hwc ?_ ?_ ?_ ?_ ?_ ?_ ?_ ?_ λA3 H3' q1 q2 q3 q4 t2 t3 t7 t8 t9 t10 t11 t12 t13=>?_
     all_goals first
      | (simp only[Qg,simprocAttr,s2,s3,s7,s8,s9,s10,s11,s12,s13];done)
      | skip
     refine⟨hs.length - (j+1),by omega,j+1,by omega,rfl,q2,q3,?_,q4,?_,?_,?_,?_,?_,?_,?_,?_,t13⟩
     ·rw[Nv,hjd,RB,N6,<- LQ];exact q1
     ·rw[t2];simp only[Qg,simprocAttr,s2]
     ·rw[t3];simp only[Qg,simprocAttr,s3]
     ·rw[t7];simp only[Qg,simprocAttr,s7]
     ·rw[t8];simp only[Qg,simprocAttr,s8]
     ·rw[t9];simp only[Qg,simprocAttr,s9]
     ·rw[t10];simp only[Qg,simprocAttr,s10]
     ·rw[t11];simp only[Qg,simprocAttr,s11]
     ·rw[t12];simp only[Qg,simprocAttr,s12]
    ·have h3:j=hs.length:=by have:=Ll h3;omega
     rw[h3,Nr,<- eE,<- etk]at ho1;simp only[Qb,simprocAttr,s11,ek];refine⟨P.length - (k+1),by omega,k+1,by omega,rfl,hx1,hw1,?_,?_,?_,?_,?_,?_,?_,?_⟩
     all_goals simp only[Qg,simprocAttr,s2,s3,s7,s8,s9,s10]
     exact ho1
  ·have h2:k=P.length:=by have:=Ll h2;omega
   rw[h2,Nr,<- eW]at ho;simp only[Qb,simprocAttr];refine hks _ H' ?_ hx' hw';simp only[Qg,simprocAttr];exact ho
end
def QCd (f:Fm)(op:Int)(l:List Ar):List Ld:=if QcG f op l=true then(QoY f l).flatMap (Qo0 f l (We (arS f l 1).r) (arS f l 4).r (QoX f op l)) else[]
structure QI9 (f:Fm) (op:Int) (l:List Ar):Prop where
 n:f.slots.length=l.length
 p:∀w∈QoY f l,(0<=w.x∧w.x<2)∧(0<=w.h+We (arS f l 4).r∧w.h+We (arS f l 4).r<2)∧(f.vex=true->(vxR f l (We (arS f l 1).r) w.x (w.h+We (arS f l 4).r)).Ok)∧w.b.length<=100∧∀z∈w.b,0<=z∧z<256
 c:I64 (f.code+8)∧I64 (f.code - 8)
 t:(QoX f op l).length<=1000
theorem QCe {x:Lf}{op:Int}{va:Value}{l:List Ar}(hc:Chk x.f)(hs:QeY x.f=0)(hf:FOk x.f)(hfr:x.Fr 0)(hok:QcG x.f op l=true->QI9 x.f op l)(H:Qa)(hx:x.At H)(ha:Qv H va l)(hva:∀n,H.next<=n->Qh n 6 (.agg #[.int .i64 op,va])=true)(hl:l.length<=1000)(hI:∀a∈l,I64 a.n):
  Qe prog 58 [.agg x.cells.toArray,.agg #[.int .i64 op,va]] H λu H'=>∃v,u=.tuple #[v,.bool (decide (0<(QCd x.f op l).length))]∧Q7 41 H H' v (QCd x.f op l)∧Ext H H':=by
 refine QkF λhw=>?_;have ec:(Value.agg x.cells.toArray).cells.toList=x.cells:=rfl;have e10:x.cells.take 10=x.cells:=rfl;have l10:10<=x.cells.length:=Lb _;obtain⟨W,eW⟩:∃W,W=QCd x.f op l:=⟨_,rfl⟩;rw[<- eW];unfold QCd at eW;have ha0:=ha;obtain⟨a0,cap,rfl⟩:=Qu ha;obtain⟨Hb,eb,g2,g3,hxb,hwb,hxB,hnb⟩:=QFy (op:=op) (va:=.slice a0 l.length cap) hw hx;simp only[Qc5,ec,Qb,simprocAttr,eb,g2,g3,Lw,e10,List.take];refine⟨l10,?_⟩;refine(QzG hc hs Hb hxB hfr (ha.ext hw hxb) hl hI).thenW ?_;rintro _ H2 hn2 hw2 ⟨rfl,hx2⟩;have k2:=(hx2.get H.next (by omega)).trans g2;have k3:=(hx2.get (H.next+1) (by omega)).trans g3;simp only[Qb,simprocAttr];cases hft:QcG x.f op l with
 | false=>
  rw[Le (by rw[hft];decide)]at eW;simp only[Qb,simprocAttr,hft,QbY];have hx5:=hxb.trans hx2;exact .mk hx5.next ⟨_,by rw[eW];rfl,by rw[eW];exact Q7.nil _ _ _,hx5⟩
 | true=>
  rw[Lc hft]at eW;obtain⟨hn,hPw,hcI,htl⟩:=hok hft;simp only[Qbe,Qb,simprocAttr,hft,k2,k3,Lw,e10,List.take];refine⟨l10,(Qk6 1 H2 (hxB.ext hwb hx2) (ha.ext hw (hxb.trans hx2)) hl hn).thenW ?_⟩;rintro _ H3 hn3 hw3 ⟨rfl,hx3⟩;have q:=QcC (arS x.f l 1).r;have hr:=Qia (arS x.f l 1).r;have er:∃r,We (arS x.f l 1).r=r:=⟨_,rfl⟩;obtain⟨r,er⟩:=er;rw[er]at q hr hPw eW;generalize arS x.f l 1=a1 at *;obtain⟨ak,⟨ac,an⟩,⟨⟨bc,bn⟩,⟨ic,nn⟩,sc,d,sz⟩,n⟩:=a1;simp only[Rg.cells]at q;simp only[Qb,simprocAttr,Ar.cells,Rg.cells,Mm.cells];refine(q H3).thenW ?_;rintro _ _ hn4 hw4 ⟨rfl,m4,rfl⟩;simp only[Ql]at hn4;have hx4:=(hx2.trans hx3).up (m:=m4) hn4;generalize Qa.up H3 m4=H4 at *;have k42:=(hx4.get H.next (by omega)).trans g2;have k43:=(hx4.get (H.next+1) (by omega)).trans g3;simp only[Qb,simprocAttr,k42,k43,Lw,e10,List.take];refine⟨l10,(Qk6 4 H4 (hxB.ext hwb hx4) (ha.ext hw (hxb.trans hx4)) hl hn).thenW ?_⟩;rintro _ H5 hn5 hw5 ⟨rfl,hx5⟩;generalize arS x.f l 4=a4 at *;obtain⟨ck,⟨cc,cn⟩,⟨⟨cbc,cbn⟩,⟨cic,cnn⟩,csc,cd,csz⟩,cn'⟩:=a4;simp only at hPw eW;have hx45:=hx4.trans hx5;have k52:=(hx45.get H.next (by omega)).trans g2;have k53:=(hx45.get (H.next+1) (by omega)).trans g3;have nz1:¬H.next=H5.next:=by have:=hx45.next;omega
  have nz2:¬H.next+1=H5.next:=by have:=hx45.next;omega
  simp only[Qb,simprocAttr,Ar.cells,Rg.cells,Mm.cells,nz1,nz2,LN,k52,k53,Lw,e10,List.take];refine⟨l10,?_⟩;generalize hH6:(Qa.push H5 _).set _ _=H6;have hx6:Ext H5 H6:=by rw[<- hH6];exact((Ext.refl H5).push _).set (Lb _) _
  have hw6:H6.Wf:=by rw[<- hH6];exact(hw5.push _).set (b0:=.cells [.int .i64 0,.int .i64 0] 54 false) (by rw[Qd,Lc rfl]) _
  have gc6:H6.get H5.next=some (.cells (Rg.cells ⟨cc,cn⟩) 54 false):=by rw[<- hH6,Qq,Lc rfl];rfl
  have hn6:H6.next=H5.next+1:=by rw[<- hH6];rfl
  clear hH6;have hx46:=hx45.trans hx6;have hxH6:=hxb.trans hx46;refine(QzB H6 (hx.ext hw hxH6) (ha.ext hw hxH6) hl hI hn).thenW ?_;rintro rv H7 hn7 hw7 ⟨g7,hx7⟩;have hx47:=hx46.trans hx7;have k72:=(hx47.get H.next (by omega)).trans g2;have k73:=(hx47.get (H.next+1) (by omega)).trans g3;simp only[Qb,simprocAttr,k72,k73,Lw,e10,List.take];have hxH7:=hxH6.trans hx7;refine⟨l10,(QzC H7 (hx.ext hw hxH7) (ha.ext hw hxH7) hl hn).thenW ?_⟩;rintro pv H8 hn8 hw8 ⟨g8,hx8⟩;have hxH8:=hxH7.trans hx8;have hx48:=hx47.trans hx8;have hPl:(QoY x.f l).length<=8:=by
   unfold QoY;split
   ·exact QDz _ _
   ·simp
  have hnn6:=hxH6.next;have hnn7:=hxH7.next;simp only[Qb,simprocAttr];refine QI8 (H:=H) (Hc:=H8) (W:=W) (c:=⟨cc,cn⟩) (cb:=H5.next) (r:=r) hf hfr hw hx ha hva hl hn hxH8 hw8 (by have:=hx48.next;omega) (by have:=hx8.next;have:=hx7.next;omega) ((hx48.get H.next (by omega)).trans g2) ((hx48.get (H.next+1) (by omega)).trans g3) (((hx7.trans hx8).get H5.next (by omega)).trans gc6) ((g7.down hnn6).go hw7 hx8) htl (g8.down hnn7) hPl hr hPw hcI eW ?_ ?_ ?_ ?_ ?_ ?_ ?_ ?_ ?_
  all_goals first
   | (simp only[Qg,simprocAttr];done)
   | (simp only[Qg,simprocAttr];rfl)
   | skip
  intro A3 H9 q1 q2 q3;obtain⟨v6,e6⟩:∃v,A3 6=v:=⟨_,rfl⟩;rw[e6]at q1;obtain⟨va6,vc6,rfl⟩:=q1.slc;have hx9:=hxH8.trans q2;have ed:decide ((W.length:Int)>0)=decide (0<W.length):=by
   rw[Ni,Lv,Lv];omega
  simp only[Qb,simprocAttr,e6,ed,QbY];refine .mk hx9.next ⟨_,?_,q1.down hxH8.next,hx9⟩
  first
   | rfl
   | (congr 3;simp)
def By (l:List Int)(n:Nat):Prop:=l.length<=n∧∀z∈l,0<=z∧z<256
theorem By.nil (n:Nat):By [] n:=⟨L7 _,λz h=>by cases h⟩
theorem By.app {l m:List Int}{a b:Nat}(h:By l a)(k:By m b):By (l++m) (a+b):=⟨by rw[Lh];have:=h.1;have:=k.1;omega,λz hz=>(LI.1 hz).elim (h.2 z) (k.2 z)⟩
theorem By.mono {l:List Int}{a b:Nat}(h:By l a)(hab:a<=b):By l b:=⟨N8 h.1 hab,h.2⟩
theorem By.one {z:Int}(h:0<=z∧z<256):By [z] 1:=⟨Lb _,λy hy=>by cases Sa.1 hy;exact h⟩
theorem QJZ (z:Int):0<=IntKind.u8.wrap z∧IntKind.u8.wrap z<256:=by
 unfold IntKind.wrap;simp[IntKind.bits,IntKind.signed];omega
theorem Qk9 {h m l:Int}(hh:0<=h∧h<4)(hm:0<=m∧m<8)(hl:0<=l∧l<8):0<=Qz h m l∧Qz h m l<256:=by unfold Qz;omega
theorem Qrx (n sz:Int):By (Kq n sz).1 sz.toNat:=by
 unfold Kq;split
 ·exact By.nil _
 ·split
  ·exact By.nil _
  ·refine⟨by simp[Qe5],λz hz=>?_⟩;obtain⟨i,_,rfl⟩:=N4.1 hz;unfold QoK;exact QJZ _
theorem QxW {mid:Int}(hm:0<=mid∧mid<8)(ix:Rg)(f d:Int):By (Qa4 mid ix f d).b 6:=by
 unfold Qa4;refine By.app (a:=2) ?_ (Qrx d 4);refine By.app (l:=[_]) (m:=[_]) (a:=1) (b:=1) (By.one (Qk9 (by decide) hm (by decide))) (By.one ?_);cases isR ix 0 0 with
 | true=>exact Qk9 (by decide) (by decide) (by decide)
 | false=>exact Qk9 (Qc3 f) (Jp ix) (by decide)
theorem QpY {mid rm:Int}(hm:0<=mid∧mid<8)(hr:0<=rm∧rm<8){sib:List Int}(hs:By sib 1)(m:Mm):∀w∈YV mid rm sib m,By w.b 6:=by
 intro w hw;unfold YV at hw;obtain⟨md,hmd,h⟩:=NF.1 hw;have hmd:=LU.1 hmd;unfold Zw at h;split at h
 ·rw[Sa]at h;subst h;refine By.app (By.app (By.one (Qk9 (by omega) hm hr)) hs) (b:=4) ?_;unfold QkY;split
  ·exact By.nil _
  ·split
   ·exact(Qrx _ _).mono (by decide)
   ·exact Qrx _ _
 ·cases h
theorem QFJ {mid:Int}(hm:0<=mid∧mid<8)(m:Mm):∀w∈QdV mid m,By w.b 6:=by
 intro w hw;unfold QdV at hw;split at hw
 ·rw[Sa]at hw;subst hw;exact(By.app (By.one (Qk9 (by decide) hm (by decide))) (Qrx m.d 4)).mono (by decide)
 ·split at hw
  ·rw[Sa]at hw;subst hw;exact QxW hm _ _ _
  ·split at hw
   ·exact QpY hm (by decide) (By.one (Qk9 (Qc3 _) (Jp _) (Jp _))) m w hw
   ·rcases LI.1 hw with hw | hw
    ·split at hw
     ·cases hw
     ·exact QpY hm (Jp _) ((By.nil 0).mono (by decide)) m w hw
    ·rcases LI.1 hw with hw | hw
     ·exact QpY hm (by decide) (By.one (Qk9 (by decide) (by decide) (Jp _))) m w hw
     ·split at hw
      ·cases hw
      ·rw[Sa]at hw;subst hw;exact QxW hm _ _ _
theorem QFK (mid:Int)(a:Ar):∀w∈(QcE mid a).1,By w.b 6:=by
 intro w hw;unfold QcE at hw;split at hw
 ·cases hw
 ·rename_i h;have hm:0<=mid∧mid<8:=by simp at h;omega
  split at hw
  ·cases hw
  ·split at hw
   ·rw[Sa]at hw;subst hw;exact(By.one (Qk9 (by decide) hm (Jp _))).mono (by decide)
   ·split at hw
    ·exact QFJ hm _ w hw
    ·cases hw
theorem QCf (f:Fm)(l:List Ar):∀w∈W0 f l,By w.b (if Qn f.slots 2<0 then 0 else 6):=by
 intro w hw;unfold W0 at hw
 by_cases h:Qn f.slots 2<0
 ·rw[Lc h]at hw ⊢;rw[Sa]at hw;subst hw;exact By.nil _
 ·rw[Le h]at hw ⊢;split at hw
  ·exact QFK _ _ w hw
  ·cases hw
theorem QCg (n:Int)(i:Nat)(hi:i<8):QoK n i=IntKind.u8.wrap (n.fdiv (2 ^ (min (8 * i) 64))):=by
 unfold QoK;have hp:∀j:Nat,(0:Int)<=2 ^ j:=λj=>Int.pow_nonneg (by decide);rw[Np _ (hp _),Np _ (hp _),Qk4,QDx,QDx];rcases(show i=0∨i=1∨i=2∨i=3∨i=4∨i=5∨i=6∨i=7 by omega) with rfl | rfl | rfl | rfl | rfl | rfl | rfl | rfl
 ·rw[show(2:Int) ^ (min (8 * 0) 64)=1 from rfl];omega
 ·rw[show(2:Int) ^ (min (8 * 1) 64)=256 from rfl];omega
 ·rw[show(2:Int) ^ (min (8 * 2) 64)=65536 from rfl];omega
 ·rw[show(2:Int) ^ (min (8 * 3) 64)=16777216 from rfl];omega
 ·rw[show(2:Int) ^ (min (8 * 4) 64)=4294967296 from rfl];omega
 ·rw[show(2:Int) ^ (min (8 * 5) 64)=1099511627776 from rfl];omega
 ·rw[show(2:Int) ^ (min (8 * 6) 64)=281474976710656 from rfl];omega
 ·rw[show(2:Int) ^ (min (8 * 7) 64)=72057594037927936 from rfl];omega
theorem Qo1 (n:Int)(k:Nat)(hk:k<=8):Qe5 n k=QsU n k:=by
 unfold Qe5 QsU;refine DC λi hi=>QCg n i ?_;have:=LU.1 hi;omega
theorem QzI {n:Int}(h:-128<=n∧n<=255):QbX n 8=true:=by
 have e:(2:Int) ^ (min (64 - (8:Int)).toNat 64)=72057594037927936:=by decide
 unfold QbX QfU Qzo;rw[Le (by decide),Le (by decide),e,Np _ (by decide),Np _ (by decide),show Yf 8=true by decide,LJ,Nw,L0,L0];simp only[QuE,Qk4]
 by_cases h1:n<=127
 ·left;split<;>omega
 ·right;split<;>omega
theorem QFL {n:Int}(h:-32768<=n∧n<=65535):QbX n 16=true:=by
 have e:(2:Int) ^ (min (64 - (16:Int)).toNat 64)=281474976710656:=by decide
 unfold QbX QfU Qzo;rw[Le (by decide),Le (by decide),e,Np _ (by decide),Np _ (by decide),show Yf 16=true by decide,LJ,Nw,L0,L0];simp only[QuE,Qk4]
 by_cases h1:n<=32767
 ·left;split<;>omega
 ·right;split<;>omega
theorem QvX {n:Int}(h:-2147483648<=n∧n<=4294967295):QbX n 32=true:=by
 have e:(2:Int) ^ (min (64 - (32:Int)).toNat 64)=4294967296:=by decide
 unfold QbX QfU Qzo;rw[Le (by decide),Le (by decide),e,Np _ (by decide),Np _ (by decide),show Yf 32=true by decide,LJ,Nw,L0,L0];simp only[QuE,Qk4]
 by_cases h1:n<=2147483647
 ·left;split<;>omega
 ·right;split<;>omega
theorem QFM {n:Int}(h:I64 n):QbX n 64=true:=by
 have e:(2:Int) ^ (min (64 - (64:Int)).toNat 64)=1:=by decide
 unfold QbX QfU;rw[Le (by decide),e,Np _ (by decide),show Yf 64=true by decide,LJ,Nw,L0];simp only[QuE,Qk4];unfold I64 at h;left;split<;>omega
theorem QHG {n:Int}{sg:Bool}(hn:I64 n):((WZ n 8 sg).2=0->-128<=(WZ n 8 sg).1∧(WZ n 8 sg).1<=255)∧((WZ n 16 sg).2=0->-32768<=(WZ n 16 sg).1∧(WZ n 16 sg).1<=65535)∧((WZ n 32 sg).2=0->-2147483648<=(WZ n 32 sg).1∧(WZ n 32 sg).1<=4294967295):=by
 refine⟨λ_=>?_,λ_=>?_,λ_=>?_⟩
 all_goals
  unfold WZ;split
  ·omega
  ·split
   ·simp only;omega
   ·cases sg
    ·simp[Qgc];omega
    ·simp[Qgd];omega
theorem QDM {f:Fm}{op:Int}{l:List Ar}(h:QcG f op l=true)(h5:0<=Qn f.slots 5)(hI:∀a∈l,I64 a.n):(tl1 f=0)∨(tl1 f=1∧QbX (QoU f op l) 8=true)∨(tl1 f=2∧QbX (QoU f op l) 16=true)∨(tl1 f=4∧QbX (QoU f op l) 32=true)∨(tl1 f=8∧QbX (QoU f op l) 64=true):=by
 obtain⟨_,h2,h3,h4,hfit⟩:=Qay h;have hsl:=Qiq h3;have hlt:=QpL f.slots 5;obtain⟨i,hi⟩:∃i:Nat,Qn f.slots 5=i:=⟨(Qn f.slots 5).toNat,by omega⟩;have e1:(i:Int).toNat=i:=by omega
 have hil:i<l.length:=by omega
 obtain⟨a,hai⟩:∃a,l[i]? = some a:=⟨_,La hil⟩;have hft:=hfit i hil;have hga:l.getD i Wc=a:=by rw[LX,hai];rfl
 have hck:Wn a=0:=QsY (QqO h4).1 a (Ln hai);have hIa:=hI a (Ln hai);have eN:QoU f op l=if a.k=3 then(WZ a.n (QU op l).1 (QU op l).2).1 else a.n:=by
  unfold QoU;rw[hi,e1,hai,NB]
 have et:tl1 f=tl0 (f.shapes.getD i 0):=by
  unfold tl1;rw[hi,e1,Lc (by rw[Lm,Lv,Lv];omega)]
 rw[hga]at hft;rw[eN,et];have hs:=Qlt h3 i (by omega);generalize f.shapes.getD i 0=s at *;unfold Qdl QtW at hft;rw[Lm]at hft;obtain⟨hf1,hf2⟩:=hft;have r:=QHG (sg:=(QU op l).2) hIa;have hi64:=QsQ a.n (QU op l).1 (QU op l).2 hIa;generalize (QU op l).2=sg at *;generalize (QU op l).1=bt at *
 by_cases hk:a.k=3
 ·rw[Lc hk]at hf2;rw[Lc hk];have he:(WZ a.n bt sg).2=0:=by simpa[hk] using hf1
  rcases(show s=20∨s=21∨s=22∨s=23∨s=24∨s=25∨s=26∨s=27∨(s<20∨27<s) by omega) with rfl | rfl | rfl | rfl | rfl | rfl | rfl | rfl | hs2
  ·simp only[ZQ]at hf2;have:bt=8:=by simpa using hf2
   subst this;exact .inr (.inl ⟨rfl,QzI (r.1 he)⟩)
  ·simp[ZQ]at hf2;exact .inr (.inl ⟨rfl,QzI (by omega)⟩)
  ·simp only[ZQ]at hf2;have:bt=16:=by simpa using hf2
   subst this;exact .inr (.inr (.inl ⟨rfl,QFL (r.2.1 he)⟩))
  ·simp only[ZQ]at hf2;have:bt=32:=by simpa using hf2
   subst this;exact .inr (.inr (.inr (.inl ⟨rfl,QvX (r.2.2 he)⟩)))
  ·simp[ZQ]at hf2;exact .inr (.inr (.inr (.inl ⟨rfl,QvX (by omega)⟩)))
  ·exact .inr (.inr (.inr (.inr ⟨rfl,QFM hi64⟩)))
  ·simp[ZQ,hk]at hf2
  ·simp[ZQ,hk]at hf2
  ·left;unfold tl0;simp;omega
 ·rw[Le hk]at hf2;rw[Le hk];rcases(show s=20∨s=21∨s=22∨s=23∨s=24∨s=25∨s=26∨s=27∨(s<20∨27<s) by omega) with rfl | rfl | rfl | rfl | rfl | rfl | rfl | rfl | hs2
  all_goals first
   | (simp[ZQ]at hf2;done)
   | skip
  ·simp[ZQ]at hf2;exact .inr (.inl ⟨rfl,QzI (by omega)⟩)
  ·simp[ZQ]at hf2;have:-2147483648<=a.n∧a.n<=2147483647:=by
    unfold Wn at hck;simp[hf2]at hck;omega
   exact .inr (.inr (.inr (.inl ⟨rfl,QvX (by omega)⟩)))
  ·left;unfold tl0;simp;omega
theorem QGC (f:Fm):tlN f=tl1 f:=by
 unfold tlN tlF
 by_cases h:0<=Qn f.slots 7
 ·rw[Lc h,Lp h,Lq];omega
 ·rw[Le h,Lj h,Ls]
theorem QCh {f:Fm}{op:Int}{l:List Ar}(h:QcG f op l=true)(hI:∀a∈l,I64 a.n):QoX f op l=Qax f op l:=by
 unfold QoX Qax;congr 1
 by_cases h5:0<=Qn f.slots 5
 ·rw[Lc h5,Lc h5,QGC];have:=QDM h h5 hI;generalize QoU f op l=N at *;rcases this with e | ⟨e,hw⟩ | ⟨e,hw⟩ | ⟨e,hw⟩ | ⟨e,hw⟩
  ·rw[e];rfl
  ·rw[e];unfold Kq;rw[Le (by decide),Le (by rw[show(8:Int) * 1=8 from rfl,hw];decide)];exact(Qo1 N 1 (by decide)).symm
  ·rw[e];unfold Kq;rw[Le (by decide),Le (by rw[show(8:Int) * 2=16 from rfl,hw];decide)];exact(Qo1 N 2 (by decide)).symm
  ·rw[e];unfold Kq;rw[Le (by decide),Le (by rw[show(8:Int) * 4=32 from rfl,hw];decide)];exact(Qo1 N 4 (by decide)).symm
  ·rw[e];unfold Kq;rw[Le (by decide),Le (by rw[show(8:Int) * 8=64 from rfl,hw];decide)];exact(Qo1 N 8 (by decide)).symm
 ·rw[Le h5,Le h5]
theorem QDN (mid:Int)(a:Ar):(if((QcE mid a).2==0)=true then(QcE mid a).1 else[])=(QcE mid a).1:=by
 split
 ·rfl
 ·rename_i h;unfold QcE at h ⊢;split
  ·rfl
  ·rename_i h1;rw[Le h1]at h;split
   ·rfl
   ·rename_i h2;rw[Le h2]at h;split
    ·rename_i h3;rw[Lc h3]at h;simp at h
    ·rename_i h3;rw[Le h3]at h;split
     ·rename_i h4;rw[Lc h4]at h;simp at h
     ·rfl
theorem laid_same {f:Fm}(hc:Chk f)(l:List Ar):QoY f l=W0 f l:=by
 unfold QoY W0
 by_cases h2:0<=Qn f.slots 2
 ·rw[Lc h2,Le (by omega),QDN];have e2:arS f l 2=l[(Qn f.slots 2).toNat]?.getD Wc:=by unfold arS;rw[Lc h2]
  have em:QFz f l=QCc f l:=by
   have:=hc.fl;unfold QFz QCc arS
   by_cases h4:0<=Qn f.slots 4
   ·rw[Lc h4]at this;omega
   ·rw[Le h4,Lc h2]at this
    by_cases h1:0<=Qn f.slots 1
    ·rw[Lc (this.1 h1),Lc h1,Lc h1]
    ·rw[Le (λh=>h1 (this.2 h)),Le h1]
  rw[e2,em]
 ·rw[Le h2,Lc (by omega)]
theorem QpZ (f:Fm)(l:List Ar)(s:Int):We (arS f l s).r=Qi2 f l s:=by
 unfold arS Qi2;split<;>rfl
theorem QAT {f:Fm}(hc:Chk f)(l:List Ar){w:Ld}(hw:w∈W0 f l):w.h+We (arS f l 4).r=hB f l w.h:=by
 rw[QpZ];unfold hB
 by_cases h4:0<=Qn f.slots 4
 ·rw[Lc h4];have:=hc.fl;rw[Lc h4]at this;unfold W0 at hw;rw[Lc this.2.1,Sa]at hw;subst hw;exact Int.zero_add _
 ·rw[Le h4];unfold Qi2;rw[Le h4];omega
theorem QzJ {f:Fm}(hc:Chk f)(l:List Ar){w:Ld}(hw:w∈W0 f l):QcI f l (We (arS f l 1).r) w.x (w.h+We (arS f l 4).r)=QeZ f l w.x w.h:=by
 unfold QcI QeZ vxR vxF;rw[QAT hc l hw,QpZ]
theorem QCi {f:Fm}(hc:Chk f)(l:List Ar):IntKind.u8.wrap (f.code+Wg (arS f l 4).r)=QdW f l:=by
 unfold QdW arS
 by_cases h4:0<=Qn f.slots 4
 ·rw[Lc h4,Lc h4];simp only[QDx];omega
 ·rw[Le h4,Le h4,show Wg Wc.r=0 from rfl,Int.add_zero]
def Fst (mid:Int)(w:Ld):Prop:=∃ (md rm:Int) (t:List Int),w.b=Qz md mid rm::t∧(0<=md∧md<3)∧(0<=rm∧rm<8)
theorem Qnj {mid rm:Int}(hr:0<=rm∧rm<8)(sib:List Int)(m:Mm):∀w∈YV mid rm sib m,Fst mid w:=by
 intro w hw;unfold YV at hw;obtain⟨md,hmd,hw⟩:=NF.1 hw;have hmd:=LU.1 hmd;unfold Zw at hw;split at hw
 ·rw[Sa]at hw;subst hw;exact⟨md,rm,_,rfl,by omega,hr⟩
 ·cases hw
theorem QuL (mid:Int)(ix:Rg)(f d:Int):Fst mid (Qa4 mid ix f d):=⟨0,4,_,rfl,by decide,by decide⟩
theorem QDO (mid:Int)(m:Mm):∀w∈QdV mid m,Fst mid w:=by
 intro w hw;have hl:=Jp m.b;unfold QdV at hw;split at hw
 ·rw[Sa]at hw;subst hw;exact⟨0,5,_,rfl,by decide,by decide⟩
 split at hw
 ·rw[Sa]at hw;subst hw;exact QuL _ _ _ _
 split at hw
 ·exact Qnj (by decide) _ _ w hw
 rcases LI.1 hw with hw | hw
 ·split at hw
  ·cases hw
  ·exact Qnj hl _ _ w hw
 rcases LI.1 hw with hw | hw
 ·exact Qnj (by decide) _ _ w hw
 ·split at hw
  ·cases hw
  ·rw[Sa]at hw;subst hw;exact QuL _ _ _ _
theorem QDP:∀c:Fin 256,QxO ((c:Nat):Int)=((c:Nat):Int) % 8:=by decide
theorem QDQ {f:Fm}{op:Int}{l:List Ar}(hc:Chk f)(h:QcG f op l=true){i:Nat}{a:Ar}(hi:l[i]? = some a)(hk:a.k=2):Qn f.slots 2=i:=by
 obtain⟨_,h2,h3,h4,hfit⟩:=Qay h;have hsl:=Qiq h3;have hil:i<l.length:=(Lk.1 hi).1;have hft:=hfit i hil;have hga:l.getD i Wc=a:=by rw[LX,hi];rfl
 rw[hga]at hft;obtain⟨hg,hs⟩:=hc.sl i (by omega);have hsh:=Qlt h3 i (by omega);generalize f.shapes.getD i 0=s at *;have hmem:(7<=s∧s<=19)∨s=34:=by
  unfold Qdl QtW at hft;rw[Le (by omega),Lm]at hft;have hft:=hft.2;rcases(show s=1∨s=2∨s=3∨s=4∨s=5∨s=6∨s=20∨s=21∨s=22∨s=23∨s=24∨s=25∨s=26∨s=27∨s=28∨s=29∨s=30∨s=31∨s=32∨s=33∨((7<=s∧s<=19)∨s=34) by omega) with rfl | rfl | rfl | rfl | rfl | rfl | rfl | rfl | rfl | rfl | rfl | rfl | rfl | rfl | rfl | rfl | rfl | rfl | rfl | rfl | hh
  all_goals first
   | exact hh
   | (simp[ZQ,W3,hk]at hft;done)
 have e2:f.slots.getD i 0=2:=by
  generalize f.slots.getD i 0=sl at *;unfold QfZ at hg;split at hg
  ·simp at hg;omega
  split at hg
  ·simp at hg;omega
  split at hg
  ·simp at hg;omega
  split at hg
  ·assumption
  ·simp at hg
 rw[e2]at hs;rcases hs with hs | hs
 ·omega
 ·exact hs
theorem QuM (z:Int)(t:List Int):QxS (z::t)=if z / 64=3 then -1 else if z % 8=4 then((z::t).length:Int) - 2 else((z::t).length:Int) - 1:=by
 unfold QxS;rw[Le (by simp)];rfl
theorem QzK {l:List Ar}{w:Ld}{z:Int}{t:List Int}(h:w.b=z::t)(hany:(l.any λa=>a.k==2)=true):Qjb l w=if(QxO z==4)=true then((z::t).length:Int) - 2 else((z::t).length:Int) - 1:=by
 unfold Qjb;rw[h,hany,Le (by simp)];rfl
theorem QDR {f:Fm}{op:Int}{l:List Ar}(hc:Chk f)(h:QcG f op l=true){w:Ld}(hw:w∈W0 f l):QxS w.b=Qjb l w:=by
 unfold W0 at hw;split at hw
 ·rw[Sa]at hw;subst hw;have e1:QxS (⟨[],0,0⟩:Ld).b=-1:=rfl;rw[e1];unfold Qjb;rw[Lc (by simp)]
 ·rename_i h2;rw[QDN]at hw;obtain⟨_,q2,q3,q4,hfit⟩:=Qay h;have hsl:=Qiq q3;have hlt:=QpL f.slots 2;obtain⟨i,hi⟩:∃i:Nat,Qn f.slots 2=i:=⟨(Qn f.slots 2).toNat,by omega⟩;have e1:(i:Int).toNat=i:=by omega
  obtain⟨a,hai⟩:∃a,l[i]? = some a:=⟨_,La (by omega)⟩;rw[hi,e1,hai,NB]at hw;generalize QCc f l=mid at hw;unfold QcE at hw;split at hw
  ·cases hw
  rename_i hmid;have hmid:0<=mid∧mid<8:=by simp at hmid;omega
  split at hw
  ·cases hw
  split at hw
  ·rename_i hk1;have hk1:a.k=1:=by simpa using hk1
   have hlo:=Jp a.r;have hany:(l.any λa=>a.k==2)=false:=by
    rw[Bool.eq_false_iff];intro hh;obtain⟨b,hb,hbk⟩:=Bh.1 hh;obtain⟨j,hj⟩:=Bx.1 hb;have:=QDQ hc h hj (by simpa using hbk);rw[hi]at this;have:i=j:=by omega
    subst this;rw[hai]at hj;cases hj;simp[hk1]at hbk
   rw[Sa]at hw;subst hw;rw[show(⟨[Qz 3 mid (Wg a.r)],0,We a.r⟩:Ld).b=Qz 3 mid (Wg a.r)::[] from rfl,QuM,Lc (by unfold Qz;omega)];unfold Qjb;rw[hany];rfl
  ·split at hw
   ·rename_i hk2;have hany:(l.any λa=>a.k==2)=true:=Bh.2 ⟨a,Ln hai,hk2⟩;obtain⟨md,rm,t,eb,hmd,hrm⟩:=QDO mid _ w hw;have hj:0<=Qz md mid rm∧Qz md mid rm<256:=by unfold Qz;omega
    have ea:=QDP ⟨(Qz md mid rm).toNat,by omega⟩;simp only[Bi hj.1]at ea;rw[QzK eb hany,eb,QuM,Le (by unfold Qz;omega),ea]
    by_cases h4:Qz md mid rm % 8=4
    ·rw[Lc h4,Lc (by rw[L0];exact h4)]
    ·rw[Le h4,Le (by rw[L0];exact h4)]
   ·cases hw
theorem QDS {f:Fm}{op:Int}{l:List Ar}(hc:Chk f)(hI:∀a∈l,I64 a.n):QCd f op l=Qk8 f op l:=by
 unfold QCd Qk8
 by_cases h:QcG f op l=true
 ·rw[Lc h,Lc h,laid_same hc,QCh h hI];have:∀P:List Ld,(∀w∈P,w∈W0 f l)->P.flatMap (Qo0 f l (We (arS f l 1).r) (arS f l 4).r (Qax f op l))=P.flatMap (Qge f l (Qax f op l)):=by
   intro P hP
   induction P with
   | nil=>rfl
   | cons w P ih=>
    rw[Ba,Ba,ih λw hw=>hP w (NA _ hw)];congr 1;have hw:=hP w (Ny ..);unfold Qo0 Qge mkR;rw[QzJ hc l hw,QCi hc,QDR hc h hw]
  exact this _ λw hw=>hw
 ·rw[Le h,Le h]
theorem QJc {f:Fm}{op:Int}{l:List Ar}(hc:Chk f)(h:QcG f op l=true)(hI:∀a∈l,I64 a.n):QI9 f op l:=by
 obtain⟨_,q2,q3,q4,hfit⟩:=Qay h;have hsl:=Qiq q3;have hr:=hc.rng.2.2.1;refine⟨by omega,λw hw=>?_,by unfold I64;omega,?_⟩
 ·rw[laid_same hc]at hw;obtain⟨h1,h2,h3⟩:=(Qlw f l).2 w hw;have hb:=QCf f l w hw;rw[QAT hc l hw];have hh:0<=hB f l w.h∧hB f l w.h<2:=by
   unfold hB;split
   ·exact QoR _ _ _
   ·exact h2
  refine⟨h1,hh,λhv=>?_,h3,hb.2⟩;have e:vxR f l (We (arS f l 1).r) w.x (hB f l w.h)=vxF f l w.x w.h:=by
   unfold vxR vxF;rw[QpZ]
  rw[e];exact QGB h hv h1 h2
 ·unfold QoX;rw[Lh];have h9:=QsD f;have:(tlN f).toNat<=8:=by rw[QGC];omega
  split<;>split<;>simp[QoW]<;>omega
abbrev KSp (op:Int)(W:List (List Ar))(H:Qa):Env->Qa->Prop:=Rt prog Tryz.f57 H λu H'=>Qv1 H' u op W∧Ext H H'
theorem QJf {op:Int}{m:List Ar}{W:List (List Ar)}{H H3:Qa}{B:Nat}{a2:Option Addr}{c2:Nat}(hml:m.length<=1000)(eW:W=[m]++if GO op m=true then[m.reverse] else[])(hx3:Ext H H3)(hw3:H3.Wf)(g3:H3.get B=some (.cells [.int .i64 op,.slice a2 m.length c2] 24 false))(ha:Qv H3 (.slice a2 m.length c2) m)(hbl:∀n,H3.next<=n->Qh n 6 (.agg #[.int .i64 op,.slice a2 m.length c2])=true){A:Env}(r3:A 3=.pointer (some ⟨B,0,none⟩)):
  Qm prog YZ ⟨KSp op W H,WJ⟩ (KSp op W H) A H3:=by
 have lB:=hw3.lt g3;have nB:¬B=H3.next:=by omega
 have hx4:=(Ext.refl H3).push (.cells [.int .i64 op,.slice a2 m.length c2] 24 false);have hw4:=hw3.push (.cells [.int .i64 op,.slice a2 m.length c2] 24 false);have g4:(H3.push (.cells [.int .i64 op,.slice a2 m.length c2] 24 false)).get H3.next=some (.cells [.int .i64 op,.slice a2 m.length c2] 24 false):=by rw[Qd,Lc rfl]
 have g4B:(H3.push (.cells [.int .i64 op,.slice a2 m.length c2] 24 false)).get B=some (.cells [.int .i64 op,.slice a2 m.length c2] 24 false):=by rw[Qd,Le nB];exact g3
 have hn4:(H3.push (.cells [.int .i64 op,.slice a2 m.length c2] 24 false)).next=H3.next+1:=rfl
 -- one spelling
 have hend1:GO op m=false->∀H6,Ext (H3.push (.cells [.int .i64 op,.slice a2 m.length c2] 24 false)) H6->Qv1 H6 (.slice (some ⟨H3.next,0,none⟩) 1 1) op W:=λh H6 hx46=>by
  rw[eW,Le (by rw[h];decide),Na];have hx36:=hx4.trans hx46;refine⟨[.slice a2 m.length c2],rfl,⟨_,1,rfl,λ_=>⟨H3.next,_,_,rfl,(hx46.get H3.next (by omega)).trans g4⟩⟩,λj s w h1 h2=>?_⟩;rcases j with _ | j
  ·cases h1;cases h2;exact⟨ha.ext hw3 hx36,λn hn=>hbl n (by have:=hx36.next;omega)⟩
  ·simp at h1
 simp only[YZ,Qb,simprocAttr,r3,g3,nB,LN,Lw,List.take];generalize Qa.push H3 _=H4 at *;cases h11:op==11 with
 | false=>
  simp only[Qb,simprocAttr,h11,Wi];exact .mk (hx3.trans hx4).next ⟨hend1 (by unfold GO;split<;>simp[h11]) _ (.refl _),hx3.trans hx4⟩
 | true=>
  simp only[Qb,simprocAttr,h11,r3,g4B,Lw,List.take];refine(Qs1 op _ m 1 1 H4 (ha.ext hw3 hx4) hml).thenW ?_;rintro _ _ hn5 hw5 ⟨rfl,k5,rfl⟩;simp only[Ql]at hn5;have hx5:=(Ext.refl H4).up (m:=k5) hn5;generalize Qa.up H4 k5=H5 at *;have g5B:=(hx5.get B (by omega)).trans g4B;have hx05:=hx3.trans (hx4.trans hx5);cases hal:QbJ 1 1 m with
  | false=>
   simp only[Qb,simprocAttr,Wi];refine .mk hx05.next ⟨hend1 ?_ _ hx5,hx05⟩;unfold GO;split
   ·simp[QbJ]at hal;simp;intro _ h1 h2;exact absurd h2 (hal h1)
   ·rfl
  | true=>
   obtain⟨x,y,rfl⟩:∃x y,m=[x,y]:=by
    unfold QbJ at hal;split at hal
    ·exact⟨_,_,rfl⟩
    ·cases hal
   obtain⟨_,_,hae,h1⟩:=id ha;cases hae;obtain⟨cb,ce,cro,rfl,hgcb0⟩:=h1 (FH _);have hgcb:H5.get cb=some (.cells (Qi [x,y]) ce cro):=((hx4.trans hx5).get cb (hw3.lt hgcb0)).trans hgcb0;have e1:(Qi [x,y])[1]? = some (.int .i64 x.r.c):=rfl;have e12:(Qi [x,y])[12]? = some (.int .i64 y.r.c):=rfl;have e2:(Qi [x,y])[2]? = some (.int .i64 x.r.n):=rfl;have e13:(Qi [x,y])[13]? = some (.int .i64 y.r.n):=rfl;have d0:(0:Int)<=0∧(0:Int)<(([x,y]:List Ar).length:Int):=by simp
   have d1:(0:Int)<=1∧(1:Int)<(([x,y]:List Ar).length:Int):=by simp
   have t0:(0:Int).toNat=0:=rfl;have t1:(1:Int).toNat=1:=rfl;simp only[sxA,sxB,Nat.reduceBEq,Nat.reduceEqDiff,reduceCtorEq,mxA,mxB,Nat.reduceAdd,reduceIte,Nat.reduceLeDiff,splice,r3,g5B,d0,d1,t0,t1,hgcb,e1,e12];refine⟨by decide,by decide,?_⟩;have hkk:((x.k==1)&&(y.k==1))=true:=hal;cases hcc:x.r.c==y.r.c with
   | false=>
    simp only[Qb,simprocAttr,Wi];exact .mk hx05.next ⟨hend1 (by simp[GO,hcc]) _ hx5,hx05⟩
   | true=>
    simp only[sxA,sxB,Nat.reduceBEq,Nat.reduceEqDiff,reduceCtorEq,mxA,mxB,Nat.reduceAdd,reduceIte,Nat.reduceLeDiff,splice,r3,g5B,d0,d1,t0,t1,hgcb,e2,e13];refine⟨by decide,by decide,?_⟩;cases hnn:x.r.n==y.r.n with
    | true=>
     simp only[Qb,simprocAttr,L8,Wi];exact .mk hx05.next ⟨hend1 (by simp[GO,hnn]) _ hx5,hx05⟩
    | false=>
     have htr:GO op [x,y]=true:=by simp only[GO,h11,hkk,hcc,hnn];rfl
     simp only[Qb,simprocAttr,LM,r3,g5B,Lw,List.take];have hx35:=hx4.trans hx5;refine(Qiv op _ x y H5 (ha.ext hw3 hx35)).thenW ?_;rintro _ H6 hn6 hw6 ⟨v6,rfl,ha6,hx6,hfr⟩;simp only[Qb,simprocAttr];have hx7:=(Ext.refl H6).push (.cells [.int .i64 op,v6] 24 false);have hw7:=hw6.push (.cells [.int .i64 op,v6] 24 false);have g7:(H6.push (.cells [.int .i64 op,v6] 24 false)).get H6.next=some (.cells [.int .i64 op,v6] 24 false):=by rw[Qd,Lc rfl]
     generalize Qa.push H6 _=H7 at *;have hx47:=(hx5.trans hx6).trans hx7;have g7r:=(hx47.get H3.next (by omega)).trans g4;have hs7:Gx 2 24 H3 H7 (.slice (some ⟨H3.next,0,none⟩) 1 1) 1 [.int .i64 op,.slice (some ⟨cb,0,none⟩) ([x,y]:List Ar).length c2]:=.inr ⟨_,_,rfl,Lb _,g7r,rfl,.inl rfl⟩;obtain⟨a6,c6,rfl⟩:=Qu ha6;have hsrc:J4 2 (.slice (some ⟨H6.next,0,none⟩) 1 1) H7=some (1,[.int .i64 op,.slice a6 2 c6]):=by
      rw[JI g7 (by decide) (by simp)];rfl
     refine Qvu hs7 ⟨_,rfl⟩ hw7 hsrc rfl (by decide) rfl (by decide) (by decide) (by decide) ?_;rintro v9 H9 hg9 hx9 hw9 ⟨b9,rfl⟩;have hx39:=(hx4.trans hx47).trans hx9;have hx09:=hx3.trans hx39;simp only[Qb,simprocAttr,Wi];refine .mk hx09.next ⟨?_,hx09⟩;rw[eW,Lc htr];refine⟨[.slice (some ⟨cb,0,none⟩) 2 c2,.slice a6 2 c6],rfl,hg9.sl,λj s w h1 h2=>?_⟩;rcases j with _ | _ | j
     ·cases h1;cases h2;exact⟨ha.ext hw3 hx39,λn hn=>hbl n (by have:=hx39.next;omega)⟩
     ·cases h1;cases h2;refine⟨ha6.ext hw6 (hx7.trans hx9),λn hn=>?_⟩;obtain⟨_,_,hq,hq1⟩:=id ha6;cases hq;obtain⟨qb,qe,qro,rfl,hqb⟩:=hq1 (FH _);have:=hw6.lt hqb;have:=(hx7.trans hx9).next;simp[Qh,Ab.plain];omega
     ·simp at h1
theorem Qo3 {op:Int}{v:Value}{l:List Ar}(H:Qa)(hv:Qv H v l)(hl:l.length<=1000)(hI:∀a∈l,I64 a.n):
  Qe prog 57 [.agg #[.int .i64 op,v]] H λu H'=>Qv1 H' u op (Z9 op l)∧Ext H H':=by
 refine QeV λhw=>?_;obtain⟨a0,cap,rfl⟩:=Qu hv;simp only[K3,KG,simprocAttr];generalize hH1:Qa.push H _=H1;have g1:H1.get H.next=some (.cells [.int .i64 op,.slice a0 l.length cap] 24 false):=by rw[<- hH1,Qd,Lc rfl];rfl
 have hx1:Ext H H1:=by rw[<- hH1];exact(Ext.refl H).push _
 have hw1:H1.Wf:=by rw[<- hH1];exact hw.push _
 clear hH1;simp only[Qb,simprocAttr,g1];refine(Qt3 op _ l H1 (hv.ext hw hx1) hl hI).thenW ?_;rintro _ H2 hn2 hw2 ⟨hx2,v',rfl,hv2,hfr⟩;have hx02:=hx1.trans hx2;have hbl:=λn hn=>QqP (op:=(Wa op l).1) hv2 hfr n hn;obtain⟨W,eW⟩:∃W,W=Z9 op l:=⟨_,rfl⟩;rw[<- eW];unfold Z9 at eW;obtain⟨a2,c2,rfl⟩:=Qu hv2;cases he:(Wa op l).2.2==0 with
 | false=>
  rw[he,Le (by decide)]at eW;simp only[Qb,simprocAttr,he,Wi];have hx3:=(hx02.push (.cells [.int .i64 0,.slice none 0 0] 24 false)).set hx02.next (.cells [.int .i64 (Wa op l).1,.slice a2 (Wa op l).2.1.length c2] 24 false);exact .mk hx3.next ⟨by rw[eW];exact⟨[],rfl,⟨none,0,rfl,λh=>absurd h (NX 0)⟩,λj s w h=>by simp at h⟩,hx3⟩
 | true=>
  rw[he,Lc rfl]at eW;have ei:=QuO (L0.1 he);have e1:(Wa op l).1=op:=by rw[ei]
  rw[e1]at hbl;simp only[Qb,simprocAttr,he,e1];generalize hm:(Wa op l).2.1=m at *;generalize hH3:(H2.push _).set H2.next _=H3;have hx3:Ext H2 H3:=by rw[<- hH3];exact((Ext.refl H2).push _).set (Lb _) _
  have hw3:H3.Wf:=by rw[<- hH3];exact(hw2.push _).set (b0:=.cells [.int .i64 0,.slice none 0 0] 24 false) (by rw[Qd,Lc rfl]) _
  have g3:H3.get H2.next=some (.cells [.int .i64 op,.slice a2 m.length c2] 24 false):=by rw[<- hH3,Qq,Lc rfl]
  clear hH3;refine QJf (by rw[<- hm];have:=Qs0 op l;omega) eW (hx02.trans hx3) hw3 g3 (hv2.ext hw2 hx3) (λn hn=>hbl n (by have:=hx3.next;omega)) ?_;simp only[Qg,simprocAttr]
theorem Qo5 (s:Value)(w:Ld)(ss:List Value)(ws:List Ld):ldC (s::ss) (w::ws)=s::.int .i64 w.x::.int .i64 w.h::ldC ss ws:=rfl
theorem QAW:∀ (j:Nat) (ss:List Value) (ws:List Ld) (s:Value) (w:Ld) (k:Int),ss[j]? = some s->ws[j]? = some w->List.take (j * 3+1) (ldC ss ws)++Value.int .i64 k::List.drop (j * 3+1+1) (ldC ss ws)=ldC ss (ws.set j (VU k w))
 | 0,s'::ss,w'::ws,s,w,k,h1,h2=>by
  cases h1;cases h2;rw[Qo5,List.set_cons_zero,Qo5];rfl
 | j+1,s'::ss,w'::ws,s,w,k,h1,h2=>by
  have ih:=QAW j ss ws s w k (by simpa using h1) (by simpa using h2);rw[Qo5,List.set_cons_succ,Qo5,<- ih];rw[show(j+1) * 3+1=(j * 3+1)+3 by omega,show(j * 3+1)+3+1=(j * 3+1+1)+3 by omega];rfl
 | 0,[],_,_,_,_,h,_=>by cases h
 | _+1,[],_,_,_,_,h,_=>by cases h
 | 0,_::_,[],_,_,_,_,h=>by cases h
 | _+1,_::_,[],_,_,_,_,h=>by cases h
def Qlb (cs:List Ld)(k:Int)(j:Nat):List Ld:=(cs.take j).map (VU k)++cs.drop j
theorem Qlc (cs:List Ld)(k:Int)(j:Nat):(Qlb cs k j).length=cs.length:=by
 unfold Qlb;rw[Lh,Nn,Sb,NT];omega
theorem QFS {cs:List Ld}{k:Int}{j:Nat}{w:Ld}(h:cs[j]? = some w):(Qlb cs k j)[j]? = some w:=by
 have hj:j<cs.length:=(Lk.1 h).1;unfold Qlb;rw[LR (by rw[Nn,Sb];omega),Nn,Sb,BC (by omega),BJ,Nk,N9];exact h
theorem QuR {cs:List Ld}{k:Int}{j:Nat}{w:Ld}(h:cs[j]? = some w):(Qlb cs k j).set j (VU k w)=Qlb cs k (j+1):=by
 have hj:j<cs.length:=(Lk.1 h).1;have hd:cs.drop j=w::cs.drop (j+1):=by
  rw[Nh hj];congr 1;rw[La hj]at h;exact Ly h
 unfold Qlb;rw[hd,Nv,h,RB,N6,LQ];rw[List.set_append_right _ _ (by rw[Nn,Sb];omega)];rw[Nn,Sb,BC (by omega),BJ];rfl
theorem QJg {Hs Hc H5:Qa}(hsc:Ext Hs Hc)(hc5:Ext Hc H5)(hwc:Hc.Wf)(hw5:H5.Wf){acc cs:List Ld}{out lv:Value}{k:Nat}(hcl:acc.length+cs.length<=1000000)(ho:Q7 41 Hs Hc out acc)(hl:Q7 41 Hc H5 lv cs){A:Env}(r5:A 5=out)(r9:A 9=.int .i64 k)(r10:A 10=lv)(r12:A 12=.int .i64 (0:Nat)){ks:Kp}{K:Env->Qa->Prop}
  (hk:∀ (A':Env) (H':Qa),Q7 41 Hs H' (A' 5) (acc++cs.map (VU k))->Ext Hs H'->H'.Wf->A' 1=A 1->A' 6=A 6->A' 7=A 7->A' 8=A 8->A' 9=A 9->ks.ext 4 A' H'):
  Qm prog (.loop JU) ks K A H5:=by
 obtain⟨ss,hsl,hg,hit⟩:=hl.it;have hb:∃ (la:Option Addr) (lc b:Nat),lv=.slice la cs.length lc∧(0<cs.length->la=some ⟨b,0,none⟩∧Hc.next<=b∧b<H5.next∧H5.get b=some (.cells (ldC ss cs) 41 false)):=by
  rcases hg with⟨rfl,h,_⟩ | ⟨b,c,rfl,q1,q2,_,_⟩
  ·exact⟨none,0,0,by rw[h],λh'=>by omega⟩
  ·exact⟨_,c,b,rfl,λ_=>⟨rfl,q1,hw5.lt q2,q2⟩⟩
 obtain⟨la,lc,b,rfl,hb⟩:=hb;have hob:∀id,inB out id->id<Hc.next:=λid hi=>by
  obtain⟨_,_,hgo,_⟩:=ho.it;exact(hgo.low hwc hi).2
 refine Qo (λm A' H'=>∃j:Nat,j<=cs.length∧m=cs.length - j∧Ext Hs H'∧H5.next<=H'.next∧H'.Wf∧Q7 41 Hs H' (A' 5) (acc++(cs.take j).map (VU k))∧(∀id,inB (A' 5) id->id<Hc.next∨H5.next<=id)∧(0<cs.length->H'.get b=some (.cells (ldC ss (Qlb cs k j)) 41 false))∧(∀ (i:Nat) s w,ss[i]? = some s->cs[i]? = some w->Gx 1 5 Hc H' s w.b.length (bys w.b))∧A' 1=A 1∧A' 6=A 6∧A' 7=A 7∧A' 8=A 8∧A' 9=.int .i64 k∧A' 10=.slice la cs.length lc∧A' 12=.int .i64 j) cs.length ?_ ?_
 ·refine⟨0,L7 _,rfl,hsc.trans hc5,Lb _,hw5,?_,?_,λh=>(hb h).2.2.2,hit,rfl,rfl,rfl,rfl,r9,r10,r12⟩
  ·rw[r5,Rb,Bq,Na];exact ho.go hwc hc5
  ·rw[r5];exact λid hi=>.inl (hob id hi)
 ·rintro m A' H' ⟨j,hj,rfl,hx,hn,hw,hol,hoi,hbl,hgi,p1,p6,p7,p8,p9,p10,p12⟩;simp only[JU,Qb,simprocAttr,p10,p12];refine Qf (λh2=>?_) (λh2=>?_)
  ·have h2:j<cs.length:=by have:=Lg h2;omega
   obtain⟨rfl,hb1,hb2,_⟩:=hb (by omega);have hbg:=hbl (by omega);obtain⟨w,hjw⟩:∃w,cs[j]? = some w:=⟨_,La h2⟩;obtain⟨s,hjs⟩:∃s,ss[j]? = some s:=⟨_,La (by omega)⟩;have hgs:=hgi j s w hjs hjw;have hset:=QAW j ss (Qlb cs k j) s w k hjs (QFS hjw);rw[QuR hjw]at hset;have hat:=Qgf ss (Qlb cs k (j+1)) j s (VU k w) hjs (by
    rw[<- QuR hjw,List.getElem?_set_self (by rw[Qlc];exact h2)])
   have d1:(0:Int)<=j∧(j:Int)<cs.length:=by omega
   have d3:(j:Int).toNat=j:=by omega
   have ej:IntKind.i64.wrap ((j:Int)+1)=((j+1:Nat):Int):=by rw[w64 (by unfold I64;omega)];omega
   have hlc:j * 3+1<(ldC ss (Qlb cs k j)).length:=by rw[Qf0 _ _ (by rw[Qlc];exact hsl),Qlc];omega
   simp only[Qa7,Qb,simprocAttr,p9,p10,p12,d1,d3,hbg,hset,hat];refine⟨by omega,by rw[Qf0 _ _ (by rw[Qlc];exact hsl),Qlc];omega,?_⟩;have hne5:∀c:List Value,H'.get b≠some (.cells c 5 false):=λc h=>by
    rw[hbg]at h;exact absurd (Blk.cells.inj (Ly h)).2.1 (by decide)
   have g8:∀id,id≠b->(H'.set b (.cells (ldC ss (Qlb cs k (j+1))) 41 false)).get id=H'.get id:=λid h=>by rw[Qq,Le h]
   have g8b:(H'.set b (.cells (ldC ss (Qlb cs k (j+1))) 41 false)).get b=some (.cells (ldC ss (Qlb cs k (j+1))) 41 false):=by rw[Qq,Lc rfl]
   have hw8:(H'.set b (.cells (ldC ss (Qlb cs k (j+1))) 41 false)).Wf:=hw.set hbg _;have hx8:Ext Hs (H'.set b (.cells (ldC ss (Qlb cs k (j+1))) 41 false)):=hx.set (by have:=hsc.next;omega) _;have hn8:(H'.set b (.cells (ldC ss (Qlb cs k (j+1))) 41 false)).next=H'.next:=rfl;generalize Qa.set H' b _=H8 at *;have hgi8:∀ (i:Nat) s w,ss[i]? = some s->cs[i]? = some w->Gx 1 5 Hc H8 s w.b.length (bys w.b):=λi s w q1 q2=>by
    rcases hgi i s w q1 q2 with h | ⟨b',c',h,e1,e2,e3⟩
    ·exact .inl h
    ·exact .inr ⟨b',c',h,e1,by rw[g8 b' (λh=>hne5 _ (by rw[<- h];exact e2))];exact e2,e3⟩
   have hol8:Q7 41 Hs H8 (A' 5) (acc++(cs.take j).map (VU k)):=hol.keep λid _ hid=>g8 id λh=>by
    subst h;rcases hid with h | ⟨c,h⟩
    ·rcases hoi _ h with h | h<;>omega
    ·exact hne5 _ h
   have y9:=(Ext.refl H8).push (.cells [s,.int .i64 (VU k w).x,.int .i64 (VU k w).h] 41 false);have w9:=hw8.push (.cells [s,.int .i64 (VU k w).x,.int .i64 (VU k w).h] 41 false);refine QvM (w:=VU k w) (s:=s) (by decide) (hol8.go hw8 y9) (hx8.trans y9) w9 (((hgi8 j s w hjs hjw).go hw8 y9).down hsc.next) ?_ (by rw[Lh,Nn,Sb];omega) (by rw[Lh,Nn,Sb];omega) λv' H9 l9 k9=>?_
   ·rw[JI (b:=H'.next) (by rw[Qd,Lc hn8.symm]) (by decide) (by simp)];rfl
   ·simp only[Qb,simprocAttr,p12,ej];have hnx9:=k9.next;rw[Qc]at hnx9;have hkeep:∀id,id<H8.next->¬inB (A' 5) id->H9.get id=H8.get id:=λid h1 h2=>by
     rw[k9.keep id (by rw[Qc];omega) h2,Qd,Le (by omega)]
    have hnb:¬inB (A' 5) b:=λh=>by rcases hoi _ h with h | h<;>omega
    obtain⟨_,_,hgo8,_⟩:=hol8;refine⟨cs.length - (j+1),by omega,j+1,by omega,rfl,k9.x,by omega,k9.w,?_,?_,?_,?_,?_,?_,?_,?_,?_,?_,?_⟩
    all_goals (try simp only[Qg,simprocAttr,p1,p6,p7,p8,p9,p10])
    ·rw[Nv,hjw,RB,N6,<- LQ];exact l9
    ·intro id hi;rcases k9.new id hi with h | h
     ·exact hoi id h
     ·rw[Qc]at h;right;omega
    ·intro _;rw[hkeep b (by omega) hnb];exact g8b
    ·intro i s2 w2 q1 q2;rcases hgi8 i s2 w2 q1 q2 with h | ⟨b',c',h,e1,e2,e3⟩
     ·exact .inl h
     ·refine .inr ⟨b',c',h,e1,?_,e3⟩;rw[hkeep b' (hw8.lt e2) (λhi=>?_)]
      ·exact e2
      ·obtain⟨o,n',c2,hv⟩:=hi;rw[hv]at hgo8;rcases hgo8 with⟨h,_,_⟩ | ⟨b3,c3,h3,_,q3,_⟩
       ·cases h
       ·cases h3;rw[q3]at e2;exact absurd (Blk.cells.inj (Ly e2)).2.1 (by decide)
  ·have h2:j=cs.length:=by have:=Ll h2;omega
   rw[h2,Nr]at hol;simp only[Qb,simprocAttr];refine hk _ H' ?_ hx hw ?_ ?_ ?_ ?_ ?_
   all_goals simp only[Qg,simprocAttr,p1,p6,p7,p8,p9,r9]
   exact hol
theorem QJh {Hs:Qa}(hws:Hs.Wf){op:Int}{sv fv:Value}{sp:List (List Ar)}{xs:List Lf}(hxl:xs.length<=6000)(hf:QiJ Hs fv xs)(hc:∀x∈xs,Chk x.f∧QeY x.f=0∧x.Fr 0)(hsp:Qv1 Hs sv op sp){n:Nat}{m:List Ar}(hm:sp[n]? = some m)(hml:m.length<=1000)(hI:∀a∈m,I64 a.n){acc:List Ld}(hacc:acc.length<=400000){H1:Qa}(hx1:Ext Hs H1)(hw1:H1.Wf){A:Env}(ho:Q7 41 Hs H1 (A 5) acc)(r6:A 6=sv)(r7:A 7=fv)(r8:A 8=.int .i64 n)(r9:A 9=.int .i64 (0:Nat)){ks:Kp}{K:Env->Qa->Prop}
  (hk:∀ (A':Env) (H':Qa),Q7 41 Hs H' (A' 5) (acc++(List.range xs.length).flatMap (frm (xs.map (·.f)) op m))->Ext Hs H'->H'.Wf->A' 1=A 1->A' 6=A 6->A' 7=A 7->A' 8=A 8->ks.ext 2 A' H'):
  Qm prog (.loop JV) ks K A H1:=by
 have e10:∀x:Lf,x.cells.take 10=x.cells:=λx=>rfl;obtain⟨fa,fc,rfl⟩:=Qu hf.1;obtain⟨vs,hvl,hvi,hvm⟩:=hsp;obtain⟨sa,sc,rfl⟩:=Qu hvi;have hnl:n<sp.length:=(Lk.1 hm).1;obtain⟨vn,hvn⟩:∃v,vs[n]? = some v:=⟨_,La (by omega)⟩;obtain⟨han,hbn⟩:=hvm n vn m hvn hm;have hfr:∀i,(frm (xs.map (·.f)) op m i).length<=24:=λi=>by
  unfold frm;split
  ·rw[Nn];exact Qis _ _ _
  ·simp
 have hfl:∀k,((List.range k).flatMap (frm (xs.map (·.f)) op m)).length<=k * 24:=λk=>by
  have:=Kb (f:=frm (xs.map (·.f)) op m) (n:=24) (List.range k) (λa _=>hfr a);rw[BO]at this;exact this
 refine Qo (λq A' H'=>∃k:Nat,k<=xs.length∧q=xs.length - k∧Ext Hs H'∧H'.Wf∧Q7 41 Hs H' (A' 5) (acc++(List.range k).flatMap (frm (xs.map (·.f)) op m))∧A' 1=A 1∧A' 6=.slice sa sp.length sc∧A' 7=.slice fa xs.length fc∧A' 8=.int .i64 n∧A' 9=.int .i64 k) xs.length ?_ ?_
 ·refine⟨0,L7 _,rfl,hx1,hw1,?_,rfl,r6,r7,r8,r9⟩;rw[List.range_zero,DG,Na];exact ho
 ·rintro q A' H' ⟨k,hkl,rfl,hx,hw,hol,p1,p6,p7,p8,p9⟩;simp only[JV,Qb,simprocAttr,p7,p9];refine Qf (λh2=>?_) (λh2=>?_)
  ·have h2:k<xs.length:=by have:=Lg h2;omega
   obtain⟨x,hxk⟩:∃x,xs[k]? = some x:=⟨_,La h2⟩;have hxm:=Ln hxk;obtain⟨c1,c2,c3⟩:=hc x hxm;obtain⟨_,_,hfa,hf1⟩:=hf.1;cases hfa;obtain⟨fb,fe,fro,rfl,hfb⟩:=hf1 (by omega);obtain⟨_,_,hsa,hs1⟩:=hvi;cases hsa;obtain⟨sb,se,sro,rfl,hsb⟩:=hs1 (by omega);have gf:=(hx.get fb (hws.lt hfb)).trans hfb;have gs:=(hx.get sb (hws.lt hsb)).trans hsb;have d1:(0:Int)<=k∧(k:Int)<xs.length:=by omega
   have d3:(k:Int).toNat=k:=by omega
   have d1n:(0:Int)<=n∧(n:Int)<sp.length:=by omega
   have d3n:(n:Int).toNat=n:=by omega
   have ek:IntKind.i64.wrap ((k:Int)+1)=((k+1:Nat):Int):=by rw[w64 (by unfold I64;omega)];omega
   simp only[Qa8,Qb,simprocAttr,p6,p7,p8,p9,d1,d3,d1n,d3n,gf,gs];have hac:=Qaa xs k x hxk;have hai:=Qv3 op vs n vn hvn;rw[hac,hai];refine⟨by rw[Xc];omega,by rw[Qs2];omega,?_⟩;refine(QCe c1 c2 (QvL c2) c3 (λh=>QJc c1 h hI) H' ((hf.2 x hxm).ext hws hx) (han.ext hws hx) (λq hq=>hbn q (by have:=hx.next;omega)) hml hI).thenW ?_;rintro _ H2 hn2 hw2 ⟨v,rfl,hv,hx2⟩;rw[QDS c1 hI]at hv;simp only[Qb,simprocAttr];have hfk:frm (xs.map (·.f)) op m k=(Qk8 x.f op m).map (VU k):=by
    unfold frm;rw[LD,hxk];rfl
   have h24:=Qis x.f op m;have hflk:=hfl k;refine QJg (Hs:=Hs) (Hc:=H') (acc:=acc++(List.range k).flatMap (frm (xs.map (·.f)) op m)) (cs:=Qk8 x.f op m) (out:=A' 5) (lv:=v) (k:=k) hx hx2 hw hw2 (by rw[Lh];omega) hol hv ?_ ?_ ?_ ?_ λA3 H3 q1 q2 q3 t1 t6 t7 t8 t9=>?_
   ·simp only[Qg,simprocAttr]
   ·simp only[Qg,simprocAttr,p9]
   ·simp only[Qg,simprocAttr]
   ·simp only[uxA,uxB,Nat.reduceBEq];rfl
   ·simp only[Qg,simprocAttr,p1,p6,p7,p8,p9]at t1 t6 t7 t8 t9;simp only[Qb,simprocAttr,t9,ek];refine⟨xs.length - (k+1),by omega,k+1,by omega,rfl,q2,q3,?_,?_,?_,?_,?_,?_⟩
    all_goals simp only[Qg,simprocAttr,t1,t6,t7,t8]
    rw[R0,Bm,List.flatMap_singleton,hfk,<- LQ];exact q1
  ·have h2:k=xs.length:=by have:=Ll h2;omega
   rw[h2]at hol;simp only[Qb,simprocAttr];refine hk _ H' ?_ hx hw ?_ ?_ ?_ ?_
   all_goals simp only[Qg,simprocAttr,p1,p6,p7,p8,r6,r7,r8]
   exact hol
section
variable {T:Qa->Prop} {L:Int->List Fm} (hT:∀H H',H.Wf->T H->Ext H H'->T H') (hR:∀op H,T H->Qe prog 33 [.int .i64 op] H λu H'=>Qnf H H' u (L op)) (hC:∀op,∀f∈L op,Chk f∧QeY f=0)
include hT hR hC
theorem QCr {op:Int}{va:Value}{l:List Ar}(H:Qa)(hTH:T H)(ha:Qv H va l)(hl:l.length<=1000)(hI:∀a∈l,I64 a.n):
  Qe prog 32 [.agg #[.int .i64 op,va]] H λu H'=>∃v,u=.tuple #[v,.int .i64 (Qnl (L op) op l).2]∧Q7 41 H H' v (Qnl (L op) op l).1∧Ext H H':=by
 refine QkD λhw=>?_;obtain⟨a0,cap,rfl⟩:=Qu ha;obtain⟨W,eW⟩:∃W,W=Qnl (L op) op l:=⟨_,rfl⟩;rw[<- eW];unfold Qnl at eW;simp only[Qc4,KG,simprocAttr];generalize hH1:Qa.push H _=H1;have g1:H1.get H.next=some (.cells [.int .i64 op,.slice a0 l.length cap] 24 false):=by rw[<- hH1,Qd,Lc rfl];rfl
 have hx1:Ext H H1:=by rw[<- hH1];exact(Ext.refl H).push _
 have hw1:H1.Wf:=by rw[<- hH1];exact hw.push _
 have hn1:H1.next=H.next+1:=by rw[<- hH1];rfl
 clear hH1;simp only[Qb,simprocAttr,g1,Lw,List.take];refine(QcQ op _ l H1 (ha.ext hw hx1) hl hI).thenW ?_;rintro _ _ hn2 hw2 ⟨rfl,kk,rfl⟩;have hx12:Ext H1 (H1.up kk):=(Ext.refl H1).up hn2;generalize H1.up kk=H2 at *;have hx2:=hx1.trans hx12;have g2:H2.get H.next=some (.cells [.int .i64 op,.slice a0 l.length cap] 24 false):=by rw[hx12.get _ (hw1.lt g1)];exact g1
 simp only[Qb,simprocAttr];cases he:Q8 op l==0 with
 | false=>
  rw[he,Lc rfl]at eW;simp only[Qb,simprocAttr,LM,Kt];exact .mk hx2.next ⟨_,by rw[eW],by rw[eW];exact Q7.nil _ _ _,hx2⟩
 | true=>
  rw[he,Le (by simp)]at eW;simp only[Qbb,Qb,simprocAttr,L8,g2,Lw,List.take];refine(Qo3 H2 (ha.ext hw hx2) hl hI).thenW ?_;rintro sv H3 hn3 hw3 ⟨hsp,hx23⟩;have hx3:=hx2.trans hx23;have g3:H3.get H.next=some (.cells [.int .i64 op,.slice a0 l.length cap] 24 false):=by rw[hx23.get _ (hw2.lt g2)];exact g2
  simp only[Qb,simprocAttr,g3];refine(hR op H3 (hT _ _ hw hTH hx3)).thenW ?_;rintro fv Hs hn4 hws ⟨hx34,ys,ey,hya,hyl,hyf⟩;have hxs:=hx3.trans hx34;obtain⟨hspl,hspm⟩:=QuQ (op:=op) hI;have eall:QcK (L op) op l=(Z9 op l).flatMap λm=>(List.range ys.length).flatMap (frm (L op) op m):=by unfold QcK;rw[<- ey,Nn]
  have hsp4:Qv1 Hs sv op (Z9 op l):=by
   obtain⟨vs,q1,q2,q3⟩:=hsp;exact⟨vs,q1,q2.ext hw3 hx34,λj s w e1 e2=>⟨((q3 j s w e1 e2).1).ext hw3 hx34,λn hn=>(q3 j s w e1 e2).2 n (by have:=hx34.next;omega)⟩⟩
  generalize Z9 op l=sp at *;obtain⟨sa,sc,rfl⟩:∃a c,sv=.slice a sp.length c:=by
   obtain⟨vs,q1,q2,q3⟩:=hsp4;exact Qu q2
  have hcs:∀x∈ys,Chk x.f∧QeY x.f=0∧x.Fr 0:=λx hx=>by
   have:=hC op x.f (by rw[<- ey];exact Rw hx);exact⟨this.1,this.2,(hyf x hx).mono (L7 _)⟩
  have hfr:∀m i,(frm (L op) op m i).length<=24:=λm i=>by
   unfold frm;split
   ·rw[Nn];exact Qis _ _ _
   ·simp
  have hfl:∀n,((sp.take n).flatMap λm=>(List.range ys.length).flatMap (frm (L op) op m)).length<=2 * (ys.length * 24):=λn=>by
   have:=Kb (f:=λm=>(List.range ys.length).flatMap (frm (L op) op m)) (n:=ys.length * 24) (sp.take n) (λm _=>by
    have:=Kb (f:=frm (L op) op m) (n:=24) (List.range ys.length) (λa _=>hfr m a);rw[BO]at this;exact this)
   have h2:(sp.take n).length<=2:=by rw[Sb];omega
   exact N8 this (Bs _ h2)
  simp only[Qb,simprocAttr];refine Qo (λq A' H'=>∃n:Nat,n<=sp.length∧q=sp.length - n∧Ext Hs H'∧H'.Wf∧Q7 41 Hs H' (A' 5) ((sp.take n).flatMap λm=>(List.range ys.length).flatMap (frm (L op) op m))∧A' 6=.slice sa sp.length sc∧A' 7=fv∧A' 8=.int .i64 n) sp.length ?_ ?_
  ·refine⟨0,L7 _,rfl,.refl _,hws,?_,?_,?_,?_⟩
   all_goals simp only[Qg,simprocAttr]
   ·rw[Rb,DG];exact Q7.nil _ _ _
   all_goals rfl
  ·rintro q A' H' ⟨n,hnl,rfl,hx,hw',hol,p6,p7,p8⟩;simp only[Qba,Qb,simprocAttr,p6,p8];refine Qf (λh2=>?_) (λh2=>?_)
   ·have h2:n<sp.length:=by have:=Lg h2;omega
    obtain⟨m,hm⟩:∃m,sp[n]? = some m:=⟨_,La h2⟩;obtain⟨hm5,hmI⟩:=hspm m (Ln hm);have en:IntKind.i64.wrap ((n:Int)+1)=((n+1:Nat):Int):=by rw[w64 (by unfold I64;omega)];omega
    have hfn:=hfl n;simp only[Qa9,Qb,simprocAttr,p6,p8];refine QJh (Hs:=Hs) (sv:=.slice sa sp.length sc) (fv:=fv) (sp:=sp) (xs:=ys) (n:=n) (m:=m) (acc:=(sp.take n).flatMap λm=>(List.range ys.length).flatMap (frm (L op) op m)) hws hyl hya.fms hcs hsp4 hm (by omega) hmI (by omega) hx hw' ?_ ?_ ?_ ?_ ?_ λA3 H3' q1 q2 q3 t1 t6 t7 t8=>?_
    ·simp only[Qg,simprocAttr];exact hol
    ·simp only[Qg,simprocAttr,p6]
    ·simp only[Qg,simprocAttr,p7]
    ·simp only[Qg,simprocAttr,p8]
    ·simp only[uxA,uxB,Nat.reduceBEq];rfl
    ·simp only[Qg,simprocAttr,p6,p7,p8]at t1 t6 t7 t8;rw[ey]at q1;simp only[Qb,simprocAttr,t8,en];refine⟨sp.length - (n+1),by omega,n+1,by omega,rfl,q2,q3,?_,?_,?_,?_⟩
     all_goals simp only[Qg,simprocAttr,t6,t7]
     rw[Nv,hm,RB,Bm,List.flatMap_singleton];exact q1
   ·have h2:n=sp.length:=by have:=Ll h2;omega
    rw[h2,Nr,<- eall]at hol;generalize QcK (L op) op l=Q at *;obtain⟨v5,e5⟩:∃v,A' 5=v:=⟨_,rfl⟩;rw[e5]at hol;obtain⟨a5,c5,rfl⟩:=hol.slc;have hx9:=hxs.trans hx;simp only[Qa6,Qb,simprocAttr,e5];refine Qf (λh=>?_) (λh=>?_)
    ·have h0:Q=[]:=N2.1 (by simpa using h);rw[h0,Lc (show([]:List Ld).isEmpty=true from rfl)]at eW;simp only[Qb,simprocAttr,Kt];exact .mk hx9.next ⟨_,by rw[eW],by rw[eW];exact Q7.nil _ _ _,hx9⟩
    ·have h0:Q≠[]:=λh0=>by rw[h0]at h;simp at h
     rw[Le (by simpa using h0)]at eW;simp only[Qb,simprocAttr,e5,Kt];exact .mk hx9.next ⟨_,by rw[eW],by rw[eW];exact hol.down hxs.next,hx9⟩
end
theorem Qlz (x:Lf)(k:Int)(H:Qa)(hx:x.At H):Qe prog 60 [.agg x.cells.toArray,.int .i64 k] H λu H'=>u=.bool (QpV x.f k)∧∃m,H'=H.up m:=by
 refine QkG λhw=>?_;have ec:(Value.agg x.cells.toArray).cells.toList=x.cells:=rfl;simp only[Qc6,ec,Qb,simprocAttr];have hx0:Ext H (H.push (.cells x.cells 45 false)):=(Ext.refl H).push _;have hg0:(H.push (.cells x.cells 45 false)).get H.next=some (.cells x.cells 45 false):=by rw[Qd,Lc rfl]
 have hw0:=hw.push (.cells x.cells 45 false);generalize H.push (.cells x.cells 45 false)=H1 at hx0 hg0 hw0;obtain⟨l1,l2,h1,h2⟩:=hx.ext hw hx0;obtain⟨a2,c2,e2,hs2⟩:=h1;have g2:x.cells[1]? = some (.slice a2 x.f.shapes.length c2):=by rw[<- e2];rfl
 refine Qo (λm A' H'=>∃i:Nat,i<=x.f.shapes.length∧m=x.f.shapes.length - i∧H'=H1∧(∀j,j<i->¬k=x.f.shapes.getD j 0)∧A' 1=.int .i64 k∧A' 2=.pointer (some ⟨H.next,0,none⟩)∧A' 5=.int .i64 i) x.f.shapes.length ?_ ?_
 ·refine⟨0,L7 _,by omega,rfl,λj h=>by omega,?_,?_,?_⟩
  all_goals simp only[Qg,simprocAttr]
  try rfl
 ·rintro m A' H' ⟨i,hi,rfl,rfl,hall,r1,r2,r5⟩;simp only[Qbg,Qb,simprocAttr,r1,r2,r5,hg0,g2];refine Qf (λh2=>?_) (λh2=>?_)
  ·have h2:i<x.f.shapes.length:=by have:=Lg h2;omega
   obtain⟨b1,e1,ro1,rfl,hb1⟩:=hs2 (by omega);have c1:(0:Int)<=i∧(i:Int)<x.f.shapes.length:=by omega
   have c3:(i:Int).toNat=i:=by omega
   have ei:IntKind.i64.wrap ((i:Int)+1)=((i+1:Nat):Int):=by rw[w64 (by unfold I64;omega)];omega
   have g1:=Zh (l:=x.f.shapes) (i:=i) (by omega);simp only[Qbf,Qb,simprocAttr,r1,r2,r5,hg0,g2,c1,c3,hb1,g1];refine Qf (λh3=>?_) (λh3=>?_)
   ·have h3:k=x.f.shapes.getD i 0:=(show x.f.shapes.getD i 0=k by simpa using h3).symm;simp only[Qb,simprocAttr,r5,Qb0];exact .ext hw hx0 ⟨by rw[QpV,Qn,Qkc k _ 0 i hall h2 h3,LP,Lp (by omega)],_,rfl⟩
   ·have h3:¬k=x.f.shapes.getD i 0:=λh=>by
     have:¬x.f.shapes.getD i 0=k:=by simpa using h3
     exact this h.symm
    simp only[Qb,simprocAttr,r5,ei];refine⟨x.f.shapes.length - (i+1),by omega,i+1,by omega,rfl,rfl,λj hj=>?_,?_,?_,?_⟩
    ·rcases Nq j i with h | h
     ·exact hall j h
     ·rw[show j=i by omega];exact h3
    all_goals simp only[Qg,simprocAttr,r1,r2]
  ·have h2:i=x.f.shapes.length:=by have:=Ll h2;omega
   subst h2;simp only[Qb,simprocAttr,Qb0];exact .ext hw hx0 ⟨by rw[QpV,Qn,Qkd k _ 0 hall];rfl,_,rfl⟩
theorem Qv5 {x:Lf}{sv:Value}(hs:∃a n c,sv=.slice a n c)(cx ch w:Int)(H:Qa)(hx:x.At H):Qe prog 34 [.agg x.cells.toArray,.agg #[sv,.int .i64 cx,.int .i64 ch],.int .i64 w] H λu H'=>u=.bool (Qja w x.f ch)∧Ext H H':=by
 refine Qhe λhw=>?_;obtain⟨sa,sn,sc,rfl⟩:=hs;have ec:(Value.agg x.cells.toArray).cells.toList=x.cells:=rfl;have e10:x.cells.take 10=x.cells:=rfl;have l10:10<=x.cells.length:=Lb _;obtain⟨W,eW⟩:∃W,W=Qja w x.f ch:=⟨_,rfl⟩;rw[<- eW];unfold Qja at eW;simp only[Qae,ec,Qb,simprocAttr];generalize hH1:Qa.push (Qa.push H _) _=H1;have hx1:Ext H H1:=by rw[<- hH1];exact((Ext.refl H).push _).push _
 have hw1:H1.Wf:=by rw[<- hH1];exact(hw.push _).push _
 have hn1:H1.next=H.next+2:=by rw[<- hH1];rfl
 have g0:H1.get H.next=some (.cells x.cells 45 false):=by rw[<- hH1,Qd,Le (by rw[Qc];omega),Qd,Lc rfl]
 have g1:H1.get (H.next+1)=some (.cells [.slice sa sn sc,.int .i64 cx,.int .i64 ch] 41 false):=by rw[<- hH1,Qd,Lc (by rw[Qc])]
 clear hH1;have hx':=hx.ext hw hx1;cases h1:w==1 with
 | true=>
  rw[h1,Lc rfl]at eW;simp only[Qb,simprocAttr,h1,g0,Lw,e10];refine⟨l10,(Qlz x 26 H1 hx').thenW ?_⟩;rintro _ _ hn2 hw2 ⟨rfl,k,rfl⟩;simp only[Qb,simprocAttr,Wh];have:=hx1.up (m:=k) hn2;exact .mk this.next ⟨by rw[eW],this⟩
 | false=>
  rw[h1,Le (by decide)]at eW;simp only[GC,Qb,simprocAttr,h1];cases h2:w==2 with
  | true=>
   rw[h2,Lc rfl]at eW;simp only[Qb,simprocAttr,h2,g0,Lw,e10];refine⟨l10,(Qlz x 27 H1 hx').thenW ?_⟩;rintro _ _ hn2 hw2 ⟨rfl,k,rfl⟩;simp only[Qb,simprocAttr,Wh];have:=hx1.up (m:=k) hn2;exact .mk this.next ⟨by rw[eW],this⟩
  | false=>
   rw[h2,Le (by decide)]at eW;simp only[GB,Qb,simprocAttr,h2];cases h3:w==3 with
   | false=>
    rw[h3,Le (by decide)]at eW;simp only[Qb,simprocAttr,h3,Wh];exact .mk hx1.next ⟨by rw[eW],hx1⟩
   | true=>
    rw[h3,Lc rfl]at eW;simp only[GA,Qb,simprocAttr,h3,g0,Lw,e10];refine⟨l10,(Qlz x 21 H1 hx').thenW ?_⟩;rintro _ _ hn2 hw2 ⟨rfl,k,rfl⟩;simp only[Ql]at hn2;have hx2:=hx1.up (m:=k) hn2;have g02:(H1.up k).get H.next=_:=(Y0 ..).trans g0;have g12:(H1.up k).get (H.next+1)=_:=(Y0 ..).trans g1;have hxx:=hx.ext hw hx2;generalize Qa.up H1 k=H2 at *;cases q21:QpV x.f 21 with
    | true=>
     rw[q21,N1,L8,NG]at eW;simp only[Qb,simprocAttr,Wh];exact .mk hx2.next ⟨by rw[eW],hx2⟩
    | false=>
     rw[q21,Nt]at eW;simp only[Qb,simprocAttr,g02,Lw,e10];refine⟨l10,(Qlz x 26 H2 hxx).thenW ?_⟩;rintro _ _ hn3 hw3 ⟨rfl,k3,rfl⟩;simp only[Ql]at hn3;have hx3:=hx2.up (m:=k3) hn3;have g13:(H2.up k3).get (H.next+1)=_:=(Y0 ..).trans g12;generalize Qa.up H2 k3=H3 at *;cases q26:QpV x.f 26 with
     | true=>
      rw[q26,L8,NG]at eW;simp only[Qb,simprocAttr,Wh];exact .mk hx3.next ⟨by rw[eW],hx3⟩
     | false=>
      rw[q26,LM,LJ]at eW;simp only[Qb,simprocAttr,g13];cases h4:ch==4 with
      | true=>
       rw[h4,N1]at eW;simp only[Qb,simprocAttr,h4,Wh];exact .mk hx3.next ⟨by rw[eW],hx3⟩
      | false=>
       rw[h4,Nt]at eW;simp only[Qb,simprocAttr,h4,g13,Wh];exact .mk hx3.next ⟨by rw[eW],hx3⟩
def QFT (W:List Ld)(bi:Int):Option (List Int)->Prop
 | none=>bi=-1
 | some b=>∃i:Nat,bi=i∧∃c,W[i]? = some c∧c.b=b
theorem QJi {Hb H:Qa}(hwh:H.Wf){W:List Ld}{lv fv:Value}(hWl:W.length<=1000000)(hl:Q7 41 Hb H lv W){xs:List Lf}(hf:QiJ H fv xs)(hxl:xs.length<=6000)(hWx:∀c∈W,0<=c.x∧c.x<xs.length){w:Int}{A:Env}(r1:A 1=.int .i64 w)(r7:A 7=lv)(r9:A 9=fv)(r10:A 10=.int .i64 (-1))(r11:A 11=.int .i64 (0:Nat)){ks:Kp}{K:Env->Qa->Prop}
  (hk:∀ (A':Env) (H':Qa) (bi:Int),Ext H H'->H'.Wf->QFT W bi (W.foldl (VD w (xs.map (·.f))) none)->A' 7=lv->A' 10=.int .i64 bi->ks.ext 0 A' H'):
  Qm prog (.loop Zs) ks K A H:=by
 obtain⟨ss,hsl,hg,hit⟩:=hl.it;obtain⟨la,lc,rfl⟩:=hl.slc;obtain⟨fa,fc,rfl⟩:=Qu hf.1;refine Qo (λm A' H'=>∃ (i:Nat) (bi:Int),i<=W.length∧m=W.length - i∧Ext H H'∧H'.Wf∧QFT W bi ((W.take i).foldl (VD w (xs.map (·.f))) none)∧A' 1=.int .i64 w∧A' 7=.slice la W.length lc∧A' 9=.slice fa xs.length fc∧A' 10=.int .i64 bi∧A' 11=.int .i64 i) W.length ?_ ?_
 ·exact⟨0,-1,L7 _,rfl,.refl _,hwh,rfl,r1,r7,r9,r10,r11⟩
 ·rintro m A' H' ⟨i,bi,hi,rfl,hx,hw,hb,p1,p7,p9,p10,p11⟩;simp only[Zs,Qb,simprocAttr,p7,p11];refine Qf (λh2=>?_) (λh2=>?_)
  ·have h2:i<W.length:=by have:=Lg h2;omega
   obtain⟨c,hci⟩:∃c,W[i]? = some c:=⟨_,La h2⟩;obtain⟨s,hsi⟩:∃s,ss[i]? = some s:=⟨_,La (by omega)⟩;obtain⟨hx0,hx1⟩:=hWx c (Ln hci);obtain⟨sa,sc,hss⟩:=(hit i s c hsi hci).slc;obtain⟨lb,lcc,elv,glb⟩:∃b' c',Value.slice la W.length lc=.slice (some ⟨b',0,none⟩) W.length c'∧H.get b'=some (.cells (ldC ss W) 41 false):=by
    rcases hg with⟨_,h,_⟩ | ⟨b',c',e,q1,q2,_,_⟩
    ·omega
    ·exact⟨b',c',e,q2⟩
   cases elv;obtain⟨x,hxk⟩:∃x,xs[c.x.toNat]? = some x:=⟨_,La (by omega)⟩;obtain⟨_,_,hfa,hf1⟩:=id hf.1;cases hfa;obtain⟨fb,fe,fro,rfl,hfb⟩:=hf1 (by omega);have gl:=(hx.get lb (hwh.lt glb)).trans glb;have gf:=(hx.get fb (hwh.lt hfb)).trans hfb;have d1:(0:Int)<=i∧(i:Int)<W.length:=by omega
   have d3:(i:Int).toNat=i:=by omega
   have d1x:(0:Int)<=c.x∧c.x<xs.length:=⟨hx0,hx1⟩;have ei:IntKind.i64.wrap ((i:Int)+1)=((i+1:Nat):Int):=by rw[w64 (by unfold I64;omega)];omega
   have hat:=Qgf ss W i s c hsi hci;have ek0:(ldC ss W)[i * 3]? = some s:=by
    have:=congrArg (λz=>z[0]?) hat;simpa[Nl,Nk] using this
   have ek1:(ldC ss W)[i * 3+1]? = some (.int .i64 c.x):=by
    have:=congrArg (λz=>z[1]?) hat;simpa[Nl,Nk] using this
   have hac:=Qaa xs c.x.toNat x hxk;simp only[Gy,Qb,simprocAttr,p1,p7,p9,p11,d1,d3,d1x,gl,gf,ek1,hat,hac];refine⟨by rw[Xc];omega,by rw[Qf0 _ _ hsl];omega,?_⟩;refine(Qv5 ⟨_,_,_,hss⟩ c.x c.h w H' ((hf.2 x (Ln hxk)).ext hwh hx)).thenW ?_;rintro _ H2 hn2 hw2 ⟨rfl,hx2⟩;have hx3:=hx.trans hx2;have gl2:=(hx3.get lb (hwh.lt glb)).trans glb;have hst:(W.take (i+1)).foldl (VD w (xs.map (·.f))) none=VD w (xs.map (·.f)) ((W.take i).foldl (VD w (xs.map (·.f))) none) c:=by
    rw[Nv,hci,RB,List.foldl_append];rfl
   generalize (W.take i).foldl (VD w (xs.map (·.f))) none=o at *;have hbf:VD w (xs.map (·.f)) o c=if(Qja w x.f c.h&&QqR c.b.length o)=true then some c.b else o:=by
    unfold VD;rw[LD,hxk];rfl
   rw[hbf]at hst;have hend:∀ (A2:Env) (bi':Int),QFT W bi' (if(Qja w x.f c.h&&QqR c.b.length o)=true then some c.b else o)->A2 1=.int .i64 w->A2 7=.slice (some ⟨lb,0,none⟩) W.length lc->A2 9=.slice (some ⟨fb,0,none⟩) xs.length fc->A2 10=.int .i64 bi'->A2 11=.int .i64 ((i+1:Nat):Int)->Qqt (λm A' H'=>∃ (i:Nat) (bi:Int),i<=W.length∧m=W.length - i∧Ext H H'∧H'.Wf∧QFT W bi ((W.take i).foldl (VD w (xs.map (·.f))) none)∧A' 1=.int .i64 w∧A' 7=.slice (some ⟨lb,0,none⟩) W.length lc∧A' 9=.slice (some ⟨fb,0,none⟩) xs.length fc∧A' 10=.int .i64 bi∧A' 11=.int .i64 i) (W.length - i) A2 H2:=
    λA2 bi' e1 e2 e3 e4 e5 e6=>⟨W.length - (i+1),by omega,i+1,bi',by omega,rfl,hx3,hw2,by rw[hst];exact e1,e2,e3,e4,e5,e6⟩
   cases hp:Qja w x.f c.h with
   | false=>
    rw[hp,NG,Le (by decide)]at hend;simp only[Qb,simprocAttr,p11,ei];refine hend _ bi hb ?_ ?_ ?_ ?_ ?_
    all_goals simp only[Qg,simprocAttr,p1,p7,p9,p10]
   | true=>
    rw[hp,LJ]at hend;cases o with
    | none=>
     have hb:bi=-1:=hb;subst hb;rw[show QqR c.b.length none=true from rfl,Lc rfl]at hend;have em:decide ((-1:Int)<0)=true:=rfl;simp only[sxA,sxB,Nat.reduceBEq,Nat.reduceEqDiff,reduceCtorEq,mxA,mxB,Nat.reduceAdd,reduceIte,Nat.reduceLeDiff,splice,p10,p11,em,ei];refine hend _ i ⟨i,rfl,c,hci,rfl⟩ ?_ ?_ ?_ ?_ ?_
     all_goals simp only[Qg,simprocAttr,p1,p7,p9]
    | some b0=>
     obtain⟨k0,rfl,c0,hc0,rfl⟩:=hb;have hk0:k0<W.length:=(Lk.1 hc0).1;obtain⟨s0,hs0⟩:∃s,ss[k0]? = some s:=⟨_,La (by omega)⟩;obtain⟨ta,tc,htt⟩:=(hit k0 s0 c0 hs0 hc0).slc;have eq0:(ldC ss W)[k0 * 3]? = some s0:=by
      have:=congrArg (λz=>z[0]?) (Qgf ss W k0 s0 c0 hs0 hc0);simpa[Nl,Nk] using this
     have em:decide ((k0:Int)<0)=false:=Lj (by omega);have d4:(0:Int)<=k0∧(k0:Int)<W.length:=by omega
     have d5:(k0:Int).toNat=k0:=by omega
     have el:decide ((c.b.length:Int)<c0.b.length)=decide (c.b.length<c0.b.length):=by
      rw[Ni,Lv,Lv];omega
     rw[show QqR c.b.length (some c0.b)=decide (c.b.length<c0.b.length) from rfl]at hend;subst hss;subst htt;simp only[Qb,simprocAttr,p7,p10,p11,em,d1,d3,d4,d5,gl2,ek0,eq0,el];cases hq:decide (c.b.length<c0.b.length) with
     | true=>
      rw[hq,Lc rfl]at hend;simp only[Qb,simprocAttr,p11,ei];refine hend _ i ⟨i,rfl,c,hci,rfl⟩ ?_ ?_ ?_ ?_ ?_
      all_goals simp only[Qg,simprocAttr,p1,p7,p9]
     | false=>
      rw[hq,Le (by decide)]at hend;simp only[Qb,simprocAttr,p11,ei];refine hend _ k0 ⟨k0,rfl,c0,hc0,rfl⟩ ?_ ?_ ?_ ?_ ?_
      all_goals simp only[Qg,simprocAttr,p1,p7,p9,p10]
  ·have h2:i=W.length:=by have:=Ll h2;omega
   rw[h2,Nr]at hb;simp only[Qb,simprocAttr];refine hk _ H' bi hx hw hb ?_ ?_
   all_goals simp only[Qg,simprocAttr,p7,p10]
theorem QHO {L:List Fm}{op:Int}{l:List Ar}:∀c∈QcK L op l,0<=c.x∧c.x<L.length:=by
 intro c hc;unfold QcK at hc;obtain⟨m,_,hc⟩:=NF.1 hc;obtain⟨k,hk,hc⟩:=NF.1 hc;have hk:=LU.1 hk;unfold frm at hc;split at hc
 ·obtain⟨w,_,rfl⟩:=N4.1 hc;show 0<=(k:Int)∧(k:Int)<L.length;omega
 ·cases hc
theorem QD2 (L:List Fm)(op:Int)(l:List Ar)(hL:L.length<=6000):(QcK L op l).length<=1000000:=by
 unfold QcK;have h1:=Qs3 op l;have h2:=Kb (f:=λm=>(List.range L.length).flatMap (frm L op m)) (n:=L.length * 24) (Z9 op l) (λm _=>by
  have:=Kb (f:=frm L op m) (n:=24) (List.range L.length) (λi _=>by
   unfold frm;split
   ·rw[Nn];exact Qis _ _ _
   ·simp)
  rw[BO]at this;exact this)
 have h3:(Z9 op l).length * (L.length * 24)<=2 * (L.length * 24):=Bs _ h1;omega
section
variable {T:Qa->Prop} {L:Int->List Fm} (hT:∀H H',H.Wf->T H->Ext H H'->T H') (hR:∀op H,T H->Qe prog 33 [.int .i64 op] H λu H'=>Qnf H H' u (L op)) (hC:∀op,∀f∈L op,Chk f∧QeY f=0)
include hT hR hC
theorem Qv6 {op w:Int}{va:Value}{l:List Ar}(H:Qa)(hTH:T H)(ha:Qv H va l)(hl:l.length<=1000)(hI:∀a∈l,I64 a.n):
  Qe prog 10 [.agg #[.int .i64 op,va],.int .i64 w] H λu H'=>∃v,u=.tuple #[v,.int .i64 (QjO (L op) op l w).2]∧Gx 1 5 H H' v (QjO (L op) op l w).1.length (bys (QjO (L op) op l w).1)∧Ext H H':=by
 refine Qhd λhw=>?_;obtain⟨a0,cap,rfl⟩:=Qu ha;obtain⟨W,eW⟩:∃W,W=QjO (L op) op l w:=⟨_,rfl⟩;rw[<- eW];unfold QjO at eW;simp only[Qad,KG,simprocAttr];generalize hH1:Qa.push H _=H1;have g1:H1.get H.next=some (.cells [.int .i64 op,.slice a0 l.length cap] 24 false):=by rw[<- hH1,Qd,Lc rfl];rfl
 have hx1:Ext H H1:=by rw[<- hH1];exact(Ext.refl H).push _
 have hw1:H1.Wf:=by rw[<- hH1];exact hw.push _
 clear hH1;simp only[Qb,simprocAttr,g1,Lw,List.take];refine(QcQ op _ l H1 (ha.ext hw hx1) hl hI).thenW ?_;rintro _ _ hn2 hw2 ⟨rfl,kk,rfl⟩;have hx12:Ext H1 (H1.up kk):=(Ext.refl H1).up hn2;generalize H1.up kk=H2 at *;have hx2:=hx1.trans hx12;have g2:H2.get H.next=some (.cells [.int .i64 op,.slice a0 l.length cap] 24 false):=by rw[hx12.get _ (hw1.lt g1)];exact g1
 have hbad:∀ (e:Int) (A:Env),W=([],e)->A 4=.slice none 0 0->A 5=.int .i64 e->∀H3,Ext H H3->Rt prog Tryz.f10 H (λu H'=>∃v,u=.tuple #[v,.int .i64 W.2]∧Gx 1 5 H H' v W.1.length (bys W.1)∧Ext H H') A H3:=by
  intro e A hW r4 r5 H3 hx3;simp only[Vl,r4,r5];exact .mk hx3.next ⟨_,by rw[hW],by rw[hW];exact .inl ⟨rfl,rfl,rfl⟩,hx3⟩
 simp only[Qb,simprocAttr];cases he:Q8 op l==0 with
 | false=>
  rw[he,Lc rfl]at eW;simp only[Qb,simprocAttr,LM];refine hbad _ _ eW ?_ ?_ H2 hx2
  all_goals simp only[Qg,simprocAttr]
 | true=>
  rw[he,Le (by simp)]at eW;simp only[Gz,Qb,simprocAttr,L8];have main:(decide (w<0)||decide (3<w))=false->∀A:Env,A 1=.int .i64 w->A 2=.pointer (some ⟨H.next,0,none⟩)->Qm prog Zt ⟨(Rt prog Tryz.f10 H (λu H'=>∃v,u=.tuple #[v,.int .i64 W.2]∧Gx 1 5 H H' v W.1.length (bys W.1)∧Ext H H')),WJ⟩ (Rt prog Tryz.f10 H (λu H'=>∃v,u=.tuple #[v,.int .i64 W.2]∧Gx 1 5 H H' v W.1.length (bys W.1)∧Ext H H')) A H2:=by
   intro hwr A r1 r2;rw[hwr,Le (by decide)]at eW;simp only[Zt,Qb,simprocAttr,r2,g2,Lw,List.take];refine(QCr hT hR hC H2 (hT _ _ hw hTH hx2) (ha.ext hw hx2) hl hI).thenW ?_;rintro _ H3 hn3 hw3 ⟨lv,rfl,hlv,hx23⟩;have hx3:=hx2.trans hx23;have g3:H3.get H.next=some (.cells [.int .i64 op,.slice a0 l.length cap] 24 false):=by rw[hx23.get _ (hw2.lt g2)];exact g2
   have eA:(Qnl (L op) op l).1=QcK (L op) op l:=by
    unfold Qnl;rw[he,Le (by decide)];split
    ·rename_i h;rw[DF.1 h]
    ·rfl
   rw[eA]at hlv;simp only[Qb,simprocAttr,r2,g3];refine(hR op H3 (hT _ _ hw hTH hx3)).thenW ?_;rintro fv Hs hn4 hws ⟨hx34,ys,ey,hya,hyl,hyf⟩;have hlv4:=hlv.go hw3 hx34;have hxs:=hx3.trans hx34;have hLl:(L op).length=ys.length:=by rw[<- ey,Nn]
   simp only[Qb,simprocAttr];refine QJi hws (QD2 (L op) op l (by omega)) hlv4 hya.fms hyl (λc hc=>by have:=QHO c hc;rw[hLl]at this;exact this) (w:=w) ?_ ?_ ?_ ?_ ?_ ?_
   all_goals first
    | (simp only[Qg,simprocAttr,r1];done)
    | (simp only[Qg,simprocAttr,r1];rfl)
    | skip
   intro A3 H5 bi q1 q2 q3 q7 q10;rw[ey]at q3;generalize (QcK (L op) op l).foldl (VD w (L op)) none=o at *;have hx5:=hxs.trans q1;cases o with
   | none=>
    have hb:bi=-1:=q3;subst hb;have em:decide ((-1:Int)<0)=true:=rfl;simp only[Zr,sxA,sxB,Nat.reduceBEq,Nat.reduceEqDiff,reduceCtorEq,mxA,mxB,Nat.reduceAdd,reduceIte,Nat.reduceLeDiff,splice,q10,em];refine hbad _ _ eW ?_ ?_ H5 hx5
    all_goals simp only[Qg,simprocAttr]
   | some b0=>
    obtain⟨k0,rfl,c0,hc0,rfl⟩:=q3;have em:decide ((k0:Int)<0)=false:=Lj (by omega);obtain⟨ss,hsl,hg,hit⟩:=hlv4.it;have hk0:=(Lk.1 hc0).1;obtain⟨s0,hs0⟩:∃s,ss[k0]? = some s:=⟨_,La (by omega)⟩;have gs0:=hit k0 s0 c0 hs0 hc0;obtain⟨lb,lcc,rfl,glb⟩:∃b' c',lv=.slice (some ⟨b',0,none⟩) (QcK (L op) op l).length c'∧Hs.get b'=some (.cells (ldC ss (QcK (L op) op l)) 41 false):=by
     rcases hg with⟨_,h,_⟩ | ⟨b',c',e,q1,q2,_,_⟩
     ·omega
     ·exact⟨b',c',e,q2⟩
    have gl:=(q1.get lb (hws.lt glb)).trans glb;have eq0:(ldC ss (QcK (L op) op l))[k0 * 3]? = some s0:=by
     have:=congrArg (λz=>z[0]?) (Qgf ss _ k0 s0 c0 hs0 hc0);simpa[Nl,Nk] using this
    have d4:(0:Int)<=k0∧(k0:Int)<(QcK (L op) op l).length:=by omega
    have d5:(k0:Int).toNat=k0:=by omega
    simp only[Zr,Qb,simprocAttr,q7,q10,em,d4,d5,gl,eq0,Vl];refine .mk hx5.next ⟨s0,by rw[eW];rfl,?_,hx5⟩;rw[eW];exact(gs0.go hws q1).down hx2.next
  cases h1:decide (w<0) with
  | true=>
   rw[h1,N1,Lc rfl]at eW;simp only[Qb,simprocAttr];refine hbad _ _ eW ?_ ?_ H2 hx2
   all_goals simp only[Qg,simprocAttr]
  | false=>
   cases h2:decide (3<w) with
   | true=>
    rw[h1,h2,Bd,Lc rfl]at eW;simp only[Qb,simprocAttr,h2,B4];refine hbad _ _ eW ?_ ?_ H2 hx2
    all_goals simp only[Qg,simprocAttr]
   | false=>
    simp only[Qb,simprocAttr,h2,B4];refine main (by rw[h1,h2];rfl) _ ?_ ?_
    all_goals simp only[Qg,simprocAttr]
end
end Go.Proofs.YtgepgbbjfhggfaaGreatDoor.code
