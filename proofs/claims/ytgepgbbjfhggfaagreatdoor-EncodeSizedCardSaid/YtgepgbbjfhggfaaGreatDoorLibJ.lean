/- The document's encodings by a form. -/
import Derived.Test.YtgepgbbjfhggfaaGreatDoorLibH
import Derived.Test.YtgepgbbjfhggfaaGreatDoorLibC
import Derived.Test.YtgepgbbjfhggfaaGreatDoorC9Ref
import Derived.Test.YtgepgbbjfhggfaaGreatDoorLibG
set_option linter.unusedVariables false
set_option linter.unusedSimpArgs false
set_option maxRecDepth 100000
set_option maxHeartbeats 4000000
namespace Go.Proofs.YtgepgbbjfhggfaaGreatDoor.code
open Go.Ab
theorem Zu.keepT {e:TypeId}{H0 H H':Qa}{v:Value}{ws:List (List Int)}(h:Zu e H0 H v ws)(ad:∀id cs t,H.get id=some (.cells cs t false)->(t=e∨t=5)->H'.get id=H.get id):Zu e H0 H' v ws:=by
 obtain⟨ss,ab,q,ac⟩:=h.it;have key:∀ {t:TypeId} {v:Value} {n:Nat} {cs:List Value},(t=e∨t=5)->Gx 1 t H0 H v n cs->Gx 1 t H0 H' v n cs:=λag ae=>by
  rcases ae with q | ⟨b,c,rfl,ah,aa,ai⟩
  ·exact .inl q
  ·exact .inr ⟨b,c,rfl,ah,by rw[ad b _ _ aa ag];exact aa,ai⟩
 exact⟨h.ne,ss,ab,key (.inl rfl) q,λj s w a b=>key (.inr rfl) (ac j s w a b)⟩
theorem QD0 {size:Nat}{e:TypeId}{H0 Hb H H':Qa}{v ag:Value}{n:Nat}{cs:List Value}(aa:Gx size e Hb H v n cs)(ab:GK v ag H0 H H')(ad:H.Wf){id:Nat}{c:List Value}{t:TypeId}(h:H.get id=some (.cells c t false))(ac:t≠e):H'.get id=H.get id:=by
 refine ab.keep id (ad.lt h) fun⟨o,n',c',hv⟩=>?_;subst hv;rcases aa with⟨h,_,_⟩ | ⟨b,ah,q,_,ae,_⟩
 ·cases h
 ·cases q;rw[ae]at h;exact ac (Blk.cells.inj (Ly h)).2.1.symm
def Qx9 (bs:List Int):Int:=if bs.length=0 then -1 else if bs.getD 0 0 / 64=3 then -1 else if bs.getD 0 0 % 8=4 then(bs.length:Int) - 2 else(bs.length:Int) - 1
def mkR (cd:Int)(aa:List Int)(w:Ld)(q:List Int):Ld:=⟨q++[cd]++w.b++aa,0,Qx9 w.b⟩
theorem QF0 {H1:Qa}(ad:H1.Wf){s:Value}{n:Nat}{bs:List Value}{k:Value->Qa->Prop}(ac:Zt 1 s (H1.push (.cells [] 5 false))=some (n,bs))(ag:bs.all (·.oneCell')=true)(ae:bs.length=n)(ak:n<=1000)
  (h:∀q H',Gx 1 5 H1 H' q n bs->Ext (H1.push (.cells [] 5 false)) H'->H'.Wf->k q H'):QbP 5 1 1 (.slice (some ⟨H1.next,0,none⟩) 0 0) s (H1.push (.cells [] 5 false)) k:=by
 have g0:Gx 1 5 H1 (H1.push (.cells [] 5 false)) (.slice (some ⟨H1.next,0,none⟩) 0 0) 0 []:=.inr ⟨_,_,rfl,Lb _,by rw[Qc,Lc rfl],rfl,.inl rfl⟩
 by_cases ab:n=0
 ·subst ab;have:bs=[]:=N2.1 ae;subst this;have ah:Y4 5 1 1 (.slice (some ⟨H1.next,0,none⟩) 0 0) s (H1.push (.cells [] 5 false))=some (.slice (some ⟨H1.next,0,none⟩) 0 0,H1.push (.cells [] 5 false)):=by
   unfold Y4;rw[ac];simp
  unfold QbP;rw[ah,QJ];exact h _ _ g0 (.refl _) (ad.push _)
 ·refine Qsz g0 ⟨_,rfl⟩ (ad.push _) ac ag ab (by omega) (by omega) (by omega) (by decide) λq H' aa aj ai _=>h q H' ?_ aj ai;rw[LP,LH]at aa;exact aa.down (by rw[Qd];omega)
section
variable {x:Lf} {H Hc:Qa}
theorem QJw (bQ:H.next+2<=Hc.next){c:Rg}{cb:Nat}(bq:cb<Hc.next)(bk:Hc.get H.next=some (.cells x.cells 45 false))(bj:Hc.get cb=some (.cells c.cells 54 false)){aV au ai out:Value}{ab:List Int}(aI:Gx 1 5 H Hc aV ab.length (bys ab))(bT:ab.length<=1000){P:List Ld}(bp:Wa 120 H Hc au P){k j:Nat}{w:Ld}(aq:P[k]? = some w)(bz:w.b.length<=100)(bx:∀c∈w.b,0<=c∧c<256){ac:List (List Int)}{aa:List Int}(bS:ac.length<=1000)(aF:ac[j]? = some aa)(bN:aa.length<=100)(bo:I64 (x.f.code+8)∧I64 (x.f.code - 8))
  {H1:Qa} (ae:Ext Hc H1) (ad:H1.Wf) (aE:Zu 27 Hc H1 ai ac) {ws:List Ld} (bw:Wa 41 Hc H1 out ws) (bV:ws.length<=1000) (aj:Hc.Wf)
  {A:Env} (r2:A 2=.pointer (some ⟨H.next,0,none⟩)) (aU:A 8=.pointer (some ⟨cb,0,none⟩)) (bB:A 9=aV) (aQ:A 10=au) (aR:A 11=.int .i64 k) (bA:A 12=ai) (aS:A 13=.int .i64 j) (aT:A 6=out)
  {ks:Kp} {K:Env->Qa->Prop}
  (h:∀ (A3:Env) (H3:Qa),Wa 41 Hc H3 (A3 6) (ws++[mkR (IntKind.u8.wrap (x.f.code+Wj c)) ab w aa])->Ext Hc H3->H3.Wf->Zu 27 Hc H3 ai ac->A3 2=A 2->A3 3=A 3->A3 7=A 7->A3 8=A 8->A3 9=A 9->A3 10=A 10->A3 11=A 11->A3 12=A 12->A3 13=.int .i64 ((j+1:Nat):Int)->K A3 H3):
  Qm prog J1 ks K A H1:=by
 have bb:x.cells[5]? = some (.int .i64 x.f.code):=rfl;have bO:j<ac.length:=(Lk.1 aF).1;have bP:k<P.length:=(Lk.1 aq).1
 -- the list of prefixes
 obtain⟨ss,bX,b4,b5⟩:=aE.it;obtain⟨bC,aJ⟩:∃s,ss[j]? = some s:=⟨_,La (by omega)⟩;have aD:=b5 j bC aa aJ aF;obtain⟨b9,cc,bh,aC⟩:∃b' c',ai=.slice (some ⟨b',0,none⟩) ac.length c'∧H1.get b'=some (.cells ss 27 false):=by
  rcases b4 with⟨_,h,_⟩ | ⟨b',c',e,av,ag,_,_⟩
  ·omega
  ·exact⟨b',c',e,ag⟩
 subst bh
 -- the list of ways
 obtain⟨ak,bY,b6,b7⟩:=bp.it;obtain⟨tk,aK⟩:∃s,ak[k]? = some s:=⟨_,La (by omega)⟩;have ao:=b7 k tk w aK aq;obtain⟨aP,bW,bg,an⟩:∃b' c',au=.slice (some ⟨b',0,none⟩) P.length c'∧Hc.get b'=some (.cells (ldC ak P) 120 false):=by
  rcases b6 with⟨_,h,_⟩ | ⟨b',c',e,av,ag,_,_⟩
  ·omega
  ·exact⟨b',c',e,ag⟩
 subst bg;have d1:(0:Int)<=j∧(j:Int)<ac.length:=by omega
 have d3:(j:Int).toNat=j:=by omega
 have aw:(0:Int)<=k∧(k:Int)<P.length:=by omega
 have ax:(k:Int).toNat=k:=by omega
 have bd:IntKind.i64.wrap ((j:Int)+1)=((j+1:Nat):Int):=by rw[w64 (by unfold I64;omega)];omega
 obtain⟨cg,sc,rfl⟩:=aD.slc;have aY:=(Ext.refl H1).push (.cells [] 5 false);have bv:¬b9=H1.next:=by have:=ad.lt aC;omega
 simp only[J1,Qb,simprocAttr,QAX,r2,aU,bA,aS,d1,d3,bv,LN,aC,aJ];have bu:=ae.next;refine⟨⟨by omega,by omega⟩,?_⟩;refine QF0 ad (aD.go ad aY).src (ZK _) (Xe _) (by omega) λcl H2 g2 aZ bE=>?_;obtain⟨a2,bI,rfl⟩:=g2.slc;have aX:=aY.trans aZ;have aM:=ae.trans aX;have b2:=(aM.get H.next (by omega)).trans bk;have aO:=(aM.get cb bq).trans bj;have q:=Qej c;have bR:=Jr c;generalize Wj c=lo at *;have bi:IntKind.i64.wrap (x.f.code+lo)=x.f.code+lo:=w64 (by have:=bo;unfold I64 at *;omega);obtain⟨bL,bM⟩:=c;simp only[Rg.cells]at aO q;have bl:∀ (m:Nat) (n:Int),Qi m 6 (.int .i64 n)=true:=λm n=>by simp[Qi,Ab.plain]
 simp only[Qb,simprocAttr,r2,aU,b2,aO,bb,Lw,List.take];refine⟨aZ.eqB,bl _ _,by simp[Qi,Ab.plain],(q H2).thenW ?_⟩;rintro _ _ ah aL ⟨rfl,k3,rfl⟩;simp only[Ql]at ah;have bF:=aX.up (m:=k3) ah;have g3:=g2.go bE ((Ext.refl H2).up (m:=k3) ah);have bH:=((Ext.refl H2).up (m:=k3) ah).eqB;generalize Qa.up H2 k3=H3 at *;simp only[Qb,simprocAttr,bi];refine⟨bH,?_⟩;generalize IntKind.u8.wrap (x.f.code+lo)=cd at *;have ba:=(Ext.refl H3).push (.cells (bys [cd]) 5 false);have bU:w.b.length<=100:=bz;refine Y8 (H0:=H1) (g3.go aL ba) (bF.trans ba) (aL.push _) (Qk8 H3 [cd]).src (ZK _) (by rw[Xe,NH]) (by simp only[Bb];omega) (by simp only[Bb];omega) λcm H4 g4 k4=>?_;obtain⟨a4,bJ,rfl⟩:=g4.slc;have aN:=ae.trans k4.x;have aG:=aj.lt an;have bm:=(aN.get aP aG).trans an;have ay:(ldC ak P)[k * 3]? = some tk:=by
  have:=congrArg (λz=>z[0]?) (Qnq ak P k tk w aK aq);simpa[Nl,Nk] using this
 obtain⟨ch,ci,rfl⟩:=ao.slc;simp only[Qb,simprocAttr,aQ,aR,aw,ax,bm,ay];refine Y8 (H0:=H1) g4 k4.x k4.w (ao.go aj aN).src (ZK _) (by rw[Xe,NH]) (by simp only[Bb];omega) (by simp only[Bb];omega) λcn H5 az k5=>?_;obtain⟨a5,bK,rfl⟩:=az.slc;have b1:=ae.trans k5.x;obtain⟨ce,cf,rfl⟩:=aI.slc;simp only[Qb,simprocAttr,bB];refine Y8 (H0:=H1) az k5.x k5.w (aI.go aj b1).src (ZK _) (by rw[Xe,NH]) (by simp only[Bb];omega) (by simp only[Bb];omega) λbD H6 aA k6=>?_;have ar:=ae.trans k6.x;have aB:Gx 1 5 H1 H6 bD (aa++[cd]++w.b++ab).length (bys (aa++[cd]++w.b++ab)):=by
  simp only[Lh,Jg];exact aA
 clear aA;obtain⟨a6,am,rfl⟩:=aB.slc;have bn:=(ar.get aP aG).trans an;simp only[Qb,simprocAttr,aT,aQ,aR,aw,ax,bn,ay];refine(Qv9 H6 (ao.go aj ar) (by omega) bx).thenW ?_;rintro _ H6 _ _ ⟨rfl,rfl⟩;simp only[Qb,simprocAttr,aT];have bc:Qx9 w.b=if w.b.length=0 then -1 else if w.b.getD 0 0 / 64=3 then -1 else if w.b.getD 0 0 % 8=4 then(w.b.length:Int) - 2 else(w.b.length:Int) - 1:=rfl
 rw[<- bc];have al:=(Ext.refl H6).push (.cells [.slice a6 (aa++[cd]++w.b++ab).length am,.int .i64 0,.int .i64 (Qx9 w.b)] 41 false);have bG:=ar.trans al;have aW:=k6.w.push (.cells [.slice a6 (aa++[cd]++w.b++ab).length am,.int .i64 0,.int .i64 (Qx9 w.b)] 41 false);have aH:=bw.go ad (k6.x.trans al);have br:=aE.go ad (k6.x.trans al);obtain⟨cj,bZ,b8,ca⟩:=aH.it;refine Qv5 (w:=mkR cd ab w aa) (s:=.slice a6 (aa++[cd]++w.b++ab).length am) (by decide) aH bG aW ((aB.go k6.w al).down bu) ?_ (by omega) (by omega) λco H8 b3 k8=>?_
 ·rw[Y5 (b:=H6.next) (by rw[Qc,Lc rfl]) (by decide) (by simp)];rfl
 ·simp only[Qb,simprocAttr,aS,bd];refine h _ H8 ?_ k8.x k8.w (br.keepT λid cs t av ag=>QD0 b8 k8 aW av (by rcases ag with rfl | rfl<;>decide)) ?_ ?_ ?_ ?_ ?_ ?_ ?_ ?_ ?_
  all_goals simp only[Qg,simprocAttr]
  exact b3
def Qpa (f:Fm)(l:List Ar)(r:Int)(c:Rg)(q:List Int)(w:Ld):List Ld:=(QcQ f l r w.x (w.h+Wi c)).map (mkR (IntKind.u8.wrap (f.code+Wj c)) q w)
theorem Qtc (f:Fm)(l:List Ar)(r x b:Int):(QcQ f l r x b).length<=3∧∀q∈QcQ f l r x b,q.length<=100:=by
 unfold QcQ;split
 ·unfold Qrk;constructor
  ·cases(f.w==-1)<;>(split<;>simp)
  ·intro q h;simp only[LI,Sa]at h;rcases h with h | h | h
   ·split at h
    ·rw[Sa]at h;subst h;simp
    ·cases h
   ·subst h;show 3<=100;omega
   ·cases hb:(f.w==-1) with
    | true=>
     rw[hb,Lq,Sa]at h;subst h;show 3<=100;omega
    | false=>rw[hb,Ls]at h;cases h
 ·constructor
  ·rw[Nn];unfold chF
   repeat' split
   all_goals simp
  ·intro q h;obtain⟨n,_,rfl⟩:=N4.1 h;have aa:=Qx6 f.pre n;have ab:=Qx7 f.map;rw[Lh];omega
theorem QJx {op:Int}{va:Value}{l:List Ar}(b3:FOk x.f)(b4:x.Fr 0)(aq:H.Wf)(aT:x.At H)(b2:Qt H va l)(bI:∀n,H.next<=n->Qi n 6 (.agg #[.int .i64 op,va])=true)(b6:l.length<=1000)(bA:x.f.slots.length=l.length)(av:Ext H Hc)(ar:Hc.Wf)(b9:H.next+2<=Hc.next){c:Rg}{cb:Nat}(aM:cb<Hc.next)(aJ:Hc.get H.next=some (.cells x.cells 45 false))(bv:Hc.get (H.next+1)=some (.cells [.int .i64 op,va] 24 false))(aI:Hc.get cb=some (.cells c.cells 54 false)){ai ay:Value}{aa:List Int}(bF:Gx 1 5 H Hc ai aa.length (bys aa))(bH:aa.length<=1000){P:List Ld}(aj:Wa 120 H Hc ay P)(cr:P.length<=8){r:Int}(bE:0<=r∧r<2)
  (b1:∀w∈P,(0<=w.x∧w.x<2)∧(0<=w.h+Wi c∧w.h+Wi c<2)∧(x.f.vex=true->(vxR x.f l r w.x (w.h+Wi c)).Ok)∧w.b.length<=100∧∀z∈w.b,0<=z∧z<256) (bz:I64 (x.f.code+8)∧I64 (x.f.code - 8))
  {W:List Ld} (bm:W=P.flatMap (Qpa x.f l r c aa))
  {A:Env} (r2:A 2=.pointer (some ⟨H.next,0,none⟩)) (r3:A 3=.pointer (some ⟨H.next+1,0,none⟩)) (cg:A 7=.int .i64 r) (ch:A 8=.pointer (some ⟨cb,0,none⟩)) (ci:A 9=ai) (cc:A 10=ay) (ce:A 11=.int .i64 (0:Nat)) (cf:A 6=.slice none 0 0)
  {ks:Kp} (b5:∀ (A3:Env) (H3:Qa),Wa 41 Hc H3 (A3 6) W->Ext Hc H3->H3.Wf->ks.ext 0 A3 H3) {K:Env->Qa->Prop}:
  Qm prog (.loop J2) ks K A Hc:=by
 have bj:x.cells.take 10=x.cells:=rfl;have bV:10<=x.cells.length:=Lb _;refine Qo (λm A' H'=>∃k:Nat,k<=P.length∧m=P.length - k∧Ext Hc H'∧H'.Wf∧Wa 41 Hc H' (A' 6) ((P.take k).flatMap (Qpa x.f l r c aa))∧A' 2=.pointer (some ⟨H.next,0,none⟩)∧A' 3=.pointer (some ⟨H.next+1,0,none⟩)∧A' 7=.int .i64 r∧A' 8=.pointer (some ⟨cb,0,none⟩)∧A' 9=ai∧A' 10=ay∧A' 11=.int .i64 k) P.length ?_ ?_
 ·refine⟨0,L7 _,rfl,.refl _,ar,?_,r2,r3,cg,ch,ci,cc,ce⟩;rw[cf];exact Wa.nil _ _ _
 ·rintro m A' H' ⟨k,cx,rfl,ad,aR,an,aY,aZ,ba,bb,bX,aw,ax⟩;obtain⟨bY,bc,rfl⟩:=aj.slc;simp only[J2,Qb,simprocAttr,aw,ax];refine Qf (λab=>?_) (λab=>?_)
  ·have ab:k<P.length:=by have:=Lg ab;omega
   obtain⟨w,ag⟩:∃w,P[k]? = some w:=⟨_,La ab⟩;obtain⟨bP,bM,bO,bN,bL⟩:=b1 w (Ln ag);obtain⟨ae,c3,bW,c4⟩:=aj.it;obtain⟨tk,bG⟩:∃s,ae[k]? = some s:=⟨_,La (by omega)⟩;obtain⟨aX,c2,br,aK⟩:∃b' c',Value.slice bY P.length bc=.slice (some ⟨b',0,none⟩) P.length c'∧Hc.get b'=some (.cells (ldC ae P) 120 false):=by
    rcases bW with⟨_,h,_⟩ | ⟨b',c',e,bd,az,_,_⟩
    ·omega
    ·exact⟨b',c',e,az⟩
   cases br;have bh:(0:Int)<=k∧(k:Int)<P.length:=by omega
   have bi:(k:Int).toNat=k:=by omega
   have bo:IntKind.i64.wrap ((k:Int)+1)=((k+1:Nat):Int):=by rw[w64 (by unfold I64;omega)];omega
   have bw:=(ad.get aX (ar.lt aK)).trans aK;have aL:=Qnq ae P k tk w bG ag;have bp:(ldC ae P)[k * 3+1]? = some (.int .i64 w.x):=by
    have:=congrArg (λz=>z[1]?) aL;simpa[Nl,Nk] using this
   have bq:(ldC ae P)[k * 3+2]? = some (.int .i64 w.h):=by
    have:=congrArg (λz=>z[2]?) aL;simpa[Nl,Nk] using this
   have bT:=(ad.get H.next (by omega)).trans aJ;have bU:=(ad.get (H.next+1) (by omega)).trans bv;have bS:H'.get cb=some (.cells [.int .i64 c.c,.int .i64 c.n] 54 false):=(ad.get cb aM).trans aI;have q:∀H,Qe prog 84 [.agg #[.int .i64 c.c,.int .i64 c.n]] H λu H'=>u=.int .i64 (Wi c)∧∃k,H'=H.up k:=λH=>QcK c H;have ct:=Qih c;have bk:Qpa x.f l r c aa w=(QcQ x.f l r w.x (w.h+Wi c)).map (mkR (IntKind.u8.wrap (x.f.code+Wj c)) aa w):=rfl;have bu:(P.take (k+1)).flatMap (Qpa x.f l r c aa)=(P.take k).flatMap (Qpa x.f l r c aa)++Qpa x.f l r c aa w:=by
    rw[Nv,ag,RB,Bm];simp
   have bn:IntKind.i64.wrap (w.h+Wi c)=w.h+Wi c:=w64 (by unfold I64;omega);have bl:∀ (m:Nat) (n:Int),Qi m 6 (.int .i64 n)=true:=λm n=>by simp[Qi,Ab.plain]
   have bD:=λH2 (aV:Ext H H2)=>QxZ (op:=op) (va:=va) b3 bO bE bP bM H2 (aT.ext aq aV) (b2.ext aq aV) b6 bA;have aN:=Qtc x.f l r w.x (w.h+Wi c);have cy:=ad.next;simp only[Qbh,Qb,simprocAttr,aY,aZ,ba,bb,aw,ax,bT,bU,bh,bi,bw,bp,bq,bS,Lw,bj,List.take];refine⟨bV,Qs8 aq aT b4 _ (by have:=av.next;omega),bI _ (by have:=av.next;omega),bl _ _,bl _ _,(q H').thenW ?_⟩;rintro _ _ ah bJ ⟨rfl,k3,rfl⟩;simp only[Ql]at ah;have au:=ad.up (m:=k3) ah;have bB:=an.go aR ((Ext.refl H').up (m:=k3) ah);have cq:=((Ext.refl H').up (m:=k3) ah).eqB;generalize Qa.up H' k3=H3 at *;simp only[Qb,simprocAttr,bn];refine⟨cq,(bD H3 (av.trans au)).thenW ?_⟩;rintro c0 H4 cz bK ⟨b8,aW⟩;have bC:=bB.go bJ aW;have bQ:=au.trans aW;have aO:=b8.down (H0:=Hc) au.next;generalize cv:QcQ x.f l r w.x (w.h+Wi c)=hs at *;obtain⟨aP,aQ,rfl⟩:=aO.slc;have c1:((P.take k).flatMap (Qpa x.f l r c aa)).length<=24:=by
    have:∀ (n:Nat) (Q:List Ld),Q.length<=n->(Q.flatMap (Qpa x.f l r c aa)).length<=3 * n:=by
     intro n
     induction n with
     | zero=>intro Q ak;rw[N2.1 (Nat.le_zero.1 ak)];simp
     | succ n bR=>
      intro Q ak;cases Q with
      | nil=>simp
      | cons q Q=>
       have:=bR Q (by simp at ak;omega);have bx:=(Qtc x.f l r q.x (q.h+Wi c)).1;rw[Ba,Lh];have:(Qpa x.f l r c aa q).length<=3:=by unfold Qpa;rw[Nn];exact bx
       omega
    have:=this 8 (P.take k) (by rw[Sb];omega);omega
   simp only[Qb,simprocAttr];refine Qo (λm A' H'=>∃j:Nat,j<=hs.length∧m=hs.length - j∧Ext Hc H'∧H'.Wf∧Wa 41 Hc H' (A' 6) ((P.take k).flatMap (Qpa x.f l r c aa)++(hs.take j).map (mkR (IntKind.u8.wrap (x.f.code+Wj c)) aa w))∧Zu 27 Hc H' (.slice aP hs.length aQ) hs∧A' 2=.pointer (some ⟨H.next,0,none⟩)∧A' 3=.pointer (some ⟨H.next+1,0,none⟩)∧A' 7=.int .i64 r∧A' 8=.pointer (some ⟨cb,0,none⟩)∧A' 9=ai∧A' 10=.slice (some ⟨aX,0,none⟩) P.length bc∧A' 11=.int .i64 k∧A' 12=.slice aP hs.length aQ∧A' 13=.int .i64 j) hs.length ?_ ?_
   ·refine⟨0,L7 _,rfl,bQ,bK,?_,aO,?_,?_,?_,?_,?_,?_,?_,?_,?_⟩
    all_goals simp only[uxA,uxB,Nat.reduceBEq,aY,aZ,ba,bb,bX,aw,ax]
    ·rw[Rb,Bq,Na];exact bC
    ·rfl
   ·rintro m A1 H1 ⟨j,cw,rfl,aU,aS,ao,b7,aD,aE,aF,aG,aH,aA,aB,aC,bg⟩;simp only[Qbg,Qb,simprocAttr,aC,bg];refine Qf (λac=>?_) (λac=>?_)
    ·have ac:j<hs.length:=by have:=Lg ac;omega
     obtain⟨al,am⟩:∃al,hs[j]? = some al:=⟨_,La ac⟩;simp only[Qb,simprocAttr];refine QJw (k:=k) (out:=A1 6) b9 aM aJ aI bF bH aj ag bN bL (by omega) am (aN.2 al (Ln am)) bz aU aS b7 ao (by rw[Lh,Nn,Sb];have:=aN.1;omega) ar ?_ ?_ ?_ ?_ ?_ ?_ ?_ ?_ λA3 H3' bd az bZ ca t2 t3 t7 co cp cj cl cm cn=>?_
     all_goals first
      | (simp only[Qg,simprocAttr,aD,aE,aF,aG,aH,aA,aB,aC,bg];done)
      | skip
     refine⟨hs.length - (j+1),by omega,j+1,by omega,rfl,az,bZ,?_,ca,?_,?_,?_,?_,?_,?_,?_,?_,cn⟩
     ·rw[Nv,am,RB,N6,<- LQ];exact bd
     ·rw[t2];simp only[Qg,simprocAttr,aD]
     ·rw[t3];simp only[Qg,simprocAttr,aE]
     ·rw[t7];simp only[Qg,simprocAttr,aF]
     ·rw[co];simp only[Qg,simprocAttr,aG]
     ·rw[cp];simp only[Qg,simprocAttr,aH]
     ·rw[cj];simp only[Qg,simprocAttr,aA]
     ·rw[cl];simp only[Qg,simprocAttr,aB]
     ·rw[cm];simp only[Qg,simprocAttr,aC]
    ·have ac:j=hs.length:=by have:=Ll ac;omega
     rw[ac,Nr,<- bk,<- bu]at ao;simp only[Qb,simprocAttr,aB,bo];refine⟨P.length - (k+1),by omega,k+1,by omega,rfl,aU,aS,?_,?_,?_,?_,?_,?_,?_,?_⟩
     all_goals simp only[Qg,simprocAttr,aD,aE,aF,aG,aH,aA]
     exact ao
  ·have ab:k=P.length:=by have:=Ll ab;omega
   rw[ab,Nr,<- bm]at an;simp only[Qb,simprocAttr];refine b5 _ H' ?_ ad aR;simp only[Qg,simprocAttr];exact an
end
def QCw (f:Fm)(op:Int)(l:List Ar):List Ld:=if QcO f op l=true then(Qo8 f l).flatMap (Qpa f l (Wi (arS f l 1).r) (arS f l 4).r (Qo7 f op l)) else[]
structure QJy (f:Fm) (op:Int) (l:List Ar):Prop where
 n:f.slots.length=l.length
 p:∀w∈Qo8 f l,(0<=w.x∧w.x<2)∧(0<=w.h+Wi (arS f l 4).r∧w.h+Wi (arS f l 4).r<2)∧(f.vex=true->(vxR f l (Wi (arS f l 1).r) w.x (w.h+Wi (arS f l 4).r)).Ok)∧w.b.length<=100∧∀z∈w.b,0<=z∧z<256
 c:I64 (f.code+8)∧I64 (f.code - 8)
 t:(Qo7 f op l).length<=1000
theorem QCx {x:Lf}{op:Int}{va:Value}{l:List Ar}(aV:Chk x.f)(bb:Qec x.f=0)(aX:FOk x.f)(aI:x.Fr 0)(ba:QcO x.f op l=true->QJy x.f op l)(H:Qa)(aq:x.At H)(ac:Qt H va l)(bd:∀n,H.next<=n->Qi n 6 (.agg #[.int .i64 op,va])=true)(ad:l.length<=1000)(aH:∀a∈l,I64 a.n):
  Qe prog 58 [.agg x.cells.toArray,.agg #[.int .i64 op,va]] H λu H'=>∃v,u=.tuple #[v,.bool (decide (0<(QCw x.f op l).length))]∧Wa 41 H H' v (QCw x.f op l)∧Ext H H':=by
 refine QkL λab=>?_;have aQ:(Value.agg x.cells.toArray).cells.toList=x.cells:=rfl;have ag:x.cells.take 10=x.cells:=rfl;have ao:10<=x.cells.length:=Lb _;obtain⟨W,aa⟩:∃W,W=QCw x.f op l:=⟨_,rfl⟩;rw[<- aa];unfold QCw at aa;have bB:=ac;obtain⟨a0,cap,rfl⟩:=Qu ac;obtain⟨Hb,aP,g2,g3,an,aL,aB,bI⟩:=QFT (op:=op) (va:=.slice a0 l.length cap) ab aq;simp only[Qdc,aQ,Qb,simprocAttr,aP,g2,g3,Lw,ag,List.take];refine⟨ao,?_⟩;refine(QzV aV bb Hb aB aI (ac.ext ab an) ad aH).thenW ?_;rintro _ H2 bC bJ ⟨rfl,ae⟩;have k2:=(ae.get H.next (by omega)).trans g2;have k3:=(ae.get (H.next+1) (by omega)).trans g3;simp only[Qb,simprocAttr];cases ai:QcO x.f op l with
 | false=>
  rw[Le (by rw[ai];decide)]at aa;simp only[Qb,simprocAttr,ai,Qb4];have ar:=an.trans ae;exact .mk ar.next ⟨_,by rw[aa];rfl,by rw[aa];exact Wa.nil _ _ _,ar⟩
 | true=>
  rw[Lc ai]at aa;obtain⟨aj,ay,aW,bc⟩:=ba ai;simp only[Qbi,Qb,simprocAttr,ai,k2,k3,Lw,ag,List.take];refine⟨ao,(Qlc 1 H2 (aB.ext aL ae) (ac.ext ab (an.trans ae)) ad aj).thenW ?_⟩;rintro _ H3 bD bK ⟨rfl,bj⟩;have q:=QcK (arS x.f l 1).r;have aK:=Qih (arS x.f l 1).r;have ax:∃r,Wi (arS x.f l 1).r=r:=⟨_,rfl⟩;obtain⟨r,ax⟩:=ax;rw[ax]at q aK ay aa;generalize arS x.f l 1=a1 at *;obtain⟨bz,⟨bx,b1⟩,⟨⟨b2,b3⟩,⟨bN,bO⟩,sc,d,sz⟩,n⟩:=a1;simp only[Rg.cells]at q;simp only[Qb,simprocAttr,Ar.cells,Rg.cells,Mm.cells];refine(q H3).thenW ?_;rintro _ _ aJ bL ⟨rfl,aO,rfl⟩;simp only[Ql]at aJ;have ak:=(ae.trans bj).up (m:=aO) aJ;generalize Qa.up H3 aO=H4 at *;have bm:=(ak.get H.next (by omega)).trans g2;have bn:=(ak.get (H.next+1) (by omega)).trans g3;simp only[Qb,simprocAttr,bm,bn,Lw,ag,List.take];refine⟨ao,(Qlc 4 H4 (aB.ext aL ak) (ac.ext ab (an.trans ak)) ad aj).thenW ?_⟩;rintro _ H5 bE bg ⟨rfl,ar⟩;generalize arS x.f l 4=a4 at *;obtain⟨ck,⟨aE,aF⟩,⟨⟨b4,b5⟩,⟨b6,b8⟩,b9,cd,bA⟩,b7⟩:=a4;simp only at ay aa;have al:=ak.trans ar;have bo:=(al.get H.next (by omega)).trans g2;have bp:=(al.get (H.next+1) (by omega)).trans g3;have bu:¬H.next=H5.next:=by have:=al.next;omega
  have bv:¬H.next+1=H5.next:=by have:=al.next;omega
  simp only[Qb,simprocAttr,Ar.cells,Rg.cells,Mm.cells,bu,bv,LN,bo,bp,Lw,ag,List.take];refine⟨ao,?_⟩;generalize ah:(Qa.push H5 _).set _ _=H6;have bk:Ext H5 H6:=by rw[<- ah];exact((Ext.refl H5).push _).set (Lb _) _
  have bM:H6.Wf:=by rw[<- ah];exact(bg.push _).set (b0:=.cells [.int .i64 0,.int .i64 0] 54 false) (by rw[Qc,Lc rfl]) _
  have aT:H6.get H5.next=some (.cells (Rg.cells ⟨aE,aF⟩) 54 false):=by rw[<- ah,Qn,Lc rfl];rfl
  have bF:H6.next=H5.next+1:=by rw[<- ah];rfl
  clear ah;have aM:=al.trans bk;have av:=an.trans aM;refine(QzQ H6 (aq.ext ab av) (ac.ext ab av) ad aH aj).thenW ?_;rintro bR H7 bG bh ⟨aR,au⟩;have az:=aM.trans au;have bq:=(az.get H.next (by omega)).trans g2;have br:=(az.get (H.next+1) (by omega)).trans g3;simp only[Qb,simprocAttr,bq,br,Lw,ag,List.take];have aw:=av.trans au;refine⟨ao,(QzR H7 (aq.ext ab aw) (ac.ext ab aw) ad aj).thenW ?_⟩;rintro bP H8 bH bi ⟨aS,am⟩;have aC:=aw.trans am;have aA:=az.trans am;have aU:(Qo8 x.f l).length<=8:=by
   unfold Qo8;split
   ·exact QDU _ _
   ·simp
  have aY:=av.next;have aZ:=aw.next;simp only[Qb,simprocAttr];refine QJx (H:=H) (Hc:=H8) (W:=W) (c:=⟨aE,aF⟩) (cb:=H5.next) (r:=r) aX aI ab aq ac bd ad aj aC bi (by have:=aA.next;omega) (by have:=am.next;have:=au.next;omega) ((aA.get H.next (by omega)).trans g2) ((aA.get (H.next+1) (by omega)).trans g3) (((au.trans am).get H5.next (by omega)).trans aT) ((aR.down aY).go bh am) bc (aS.down aZ) aU aK ay aW aa ?_ ?_ ?_ ?_ ?_ ?_ ?_ ?_ ?_
  all_goals first
   | (simp only[Qg,simprocAttr];done)
   | (simp only[Qg,simprocAttr];rfl)
   | skip
  intro A3 H9 aD bw bQ;obtain⟨bS,aG⟩:∃v,A3 6=v:=⟨_,rfl⟩;rw[aG]at aD;obtain⟨bT,bU,rfl⟩:=aD.slc;have aN:=aC.trans bw;have ed:decide ((W.length:Int)>0)=decide (0<W.length):=by
   rw[Ni,Lv,Lv];omega
  simp only[Qb,simprocAttr,aG,ed,Qb4];refine .mk aN.next ⟨_,?_,aD.down aC.next,aN⟩
  first
   | rfl
   | (congr 3;simp)
def By (l:List Int)(n:Nat):Prop:=l.length<=n∧∀z∈l,0<=z∧z<256
theorem By.nil (n:Nat):By [] n:=⟨L7 _,λz h=>by cases h⟩
theorem By.app {l m:List Int}{a b:Nat}(h:By l a)(k:By m b):By (l++m) (a+b):=⟨by rw[Lh];have:=h.1;have:=k.1;omega,λz q=>(LI.1 q).elim (h.2 z) (k.2 z)⟩
theorem By.mono {l:List Int}{a b:Nat}(h:By l a)(q:a<=b):By l b:=⟨N8 h.1 q,h.2⟩
theorem By.one {z:Int}(h:0<=z∧z<256):By [z] 1:=⟨Lb _,λy q=>by cases Sa.1 q;exact h⟩
theorem QKn (z:Int):0<=IntKind.u8.wrap z∧IntKind.u8.wrap z<256:=by
 unfold IntKind.wrap;simp[IntKind.bits,IntKind.signed];omega
theorem Qlf {h m l:Int}(q:0<=h∧h<4)(ab:0<=m∧m<8)(aa:0<=l∧l<8):0<=QA h m l∧QA h m l<256:=by unfold QA;omega
theorem QrM (n sz:Int):By (Ku n sz).1 sz.toNat:=by
 unfold Ku;split
 ·exact By.nil _
 ·split
  ·exact By.nil _
  ·refine⟨by simp[Qfa],λz q=>?_⟩;obtain⟨i,_,rfl⟩:=N4.1 q;unfold QoU;exact QKn _
theorem Qyd {mid:Int}(aa:0<=mid∧mid<8)(q:Rg)(f d:Int):By (Qa6 mid q f d).b 6:=by
 unfold Qa6;refine By.app (a:=2) ?_ (QrM d 4);refine By.app (l:=[_]) (m:=[_]) (a:=1) (b:=1) (By.one (Qlf (by decide) aa (by decide))) (By.one ?_);cases isR q 0 0 with
 | true=>exact Qlf (by decide) (by decide) (by decide)
 | false=>exact Qlf (Qda f) (Jr q) (by decide)
theorem Qp9 {mid rm:Int}(ab:0<=mid∧mid<8)(ac:0<=rm∧rm<8){sib:List Int}(ad:By sib 1)(m:Mm):∀w∈YY mid rm sib m,By w.b 6:=by
 intro w aa;unfold YY at aa;obtain⟨ae,q,h⟩:=NF.1 aa;have q:=LU.1 q;unfold Zx at h;split at h
 ·rw[Sa]at h;subst h;refine By.app (By.app (By.one (Qlf (by omega) ab ac)) ad) (b:=4) ?_;unfold Qk4;split
  ·exact By.nil _
  ·split
   ·exact(QrM _ _).mono (by decide)
   ·exact QrM _ _
 ·cases h
theorem QF4 {mid:Int}(aa:0<=mid∧mid<8)(m:Mm):∀w∈QdZ mid m,By w.b 6:=by
 intro w q;unfold QdZ at q;split at q
 ·rw[Sa]at q;subst q;exact(By.app (By.one (Qlf (by decide) aa (by decide))) (QrM m.d 4)).mono (by decide)
 ·split at q
  ·rw[Sa]at q;subst q;exact Qyd aa _ _ _
  ·split at q
   ·exact Qp9 aa (by decide) (By.one (Qlf (Qda _) (Jr _) (Jr _))) m w q
   ·rcases LI.1 q with q | q
    ·split at q
     ·cases q
     ·exact Qp9 aa (Jr _) ((By.nil 0).mono (by decide)) m w q
    ·rcases LI.1 q with q | q
     ·exact Qp9 aa (by decide) (By.one (Qlf (by decide) (by decide) (Jr _))) m w q
     ·split at q
      ·cases q
      ·rw[Sa]at q;subst q;exact Qyd aa _ _ _
theorem QF5 (mid:Int)(a:Ar):∀w∈(QcM mid a).1,By w.b 6:=by
 intro w q;unfold QcM at q;split at q
 ·cases q
 ·rename_i h;have aa:0<=mid∧mid<8:=by simp at h;omega
  split at q
  ·cases q
  ·split at q
   ·rw[Sa]at q;subst q;exact(By.one (Qlf (by decide) aa (Jr _))).mono (by decide)
   ·split at q
    ·exact QF4 aa _ w q
    ·cases q
theorem QCy (f:Fm)(l:List Ar):∀w∈W2 f l,By w.b (if Qp f.slots 2<0 then 0 else 6):=by
 intro w q;unfold W2 at q
 by_cases h:Qp f.slots 2<0
 ·rw[Lc h]at q ⊢;rw[Sa]at q;subst q;exact By.nil _
 ·rw[Le h]at q ⊢;split at q
  ·exact QF5 _ _ w q
  ·cases q
theorem QCz (n:Int)(i:Nat)(hi:i<8):QoU n i=IntKind.u8.wrap (n.fdiv (2 ^ (min (8 * i) 64))):=by
 unfold QoU;have q:∀j:Nat,(0:Int)<=2 ^ j:=λj=>Int.pow_nonneg (by decide);rw[Np _ (q _),Np _ (q _),Qla,QDS,QDS];rcases(show i=0∨i=1∨i=2∨i=3∨i=4∨i=5∨i=6∨i=7 by omega) with rfl | rfl | rfl | rfl | rfl | rfl | rfl | rfl
 ·rw[show(2:Int) ^ (min (8 * 0) 64)=1 from rfl];omega
 ·rw[show(2:Int) ^ (min (8 * 1) 64)=256 from rfl];omega
 ·rw[show(2:Int) ^ (min (8 * 2) 64)=65536 from rfl];omega
 ·rw[show(2:Int) ^ (min (8 * 3) 64)=16777216 from rfl];omega
 ·rw[show(2:Int) ^ (min (8 * 4) 64)=4294967296 from rfl];omega
 ·rw[show(2:Int) ^ (min (8 * 5) 64)=1099511627776 from rfl];omega
 ·rw[show(2:Int) ^ (min (8 * 6) 64)=281474976710656 from rfl];omega
 ·rw[show(2:Int) ^ (min (8 * 7) 64)=72057594037927936 from rfl];omega
theorem Qpb (n:Int)(k:Nat)(q:k<=8):Qfa n k=Qs9 n k:=by
 unfold Qfa Qs9;refine DC λi hi=>QCz n i ?_;have:=LU.1 hi;omega
theorem QzX {n:Int}(h:-128<=n∧n<=255):Qb1 n 8=true:=by
 have e:(2:Int) ^ (min (64 - (8:Int)).toNat 64)=72057594037927936:=by decide
 unfold Qb1 Qf0 QzD;rw[Le (by decide),Le (by decide),e,Np _ (by decide),Np _ (by decide),show Yh 8=true by decide,LJ,Nw,L0,L0];simp only[QuS,Qla]
 by_cases q:n<=127
 ·left;split<;>omega
 ·right;split<;>omega
theorem QF6 {n:Int}(h:-32768<=n∧n<=65535):Qb1 n 16=true:=by
 have e:(2:Int) ^ (min (64 - (16:Int)).toNat 64)=281474976710656:=by decide
 unfold Qb1 Qf0 QzD;rw[Le (by decide),Le (by decide),e,Np _ (by decide),Np _ (by decide),show Yh 16=true by decide,LJ,Nw,L0,L0];simp only[QuS,Qla]
 by_cases q:n<=32767
 ·left;split<;>omega
 ·right;split<;>omega
theorem Qwg {n:Int}(h:-2147483648<=n∧n<=4294967295):Qb1 n 32=true:=by
 have e:(2:Int) ^ (min (64 - (32:Int)).toNat 64)=4294967296:=by decide
 unfold Qb1 Qf0 QzD;rw[Le (by decide),Le (by decide),e,Np _ (by decide),Np _ (by decide),show Yh 32=true by decide,LJ,Nw,L0,L0];simp only[QuS,Qla]
 by_cases q:n<=2147483647
 ·left;split<;>omega
 ·right;split<;>omega
theorem QF7 {n:Int}(h:I64 n):Qb1 n 64=true:=by
 have e:(2:Int) ^ (min (64 - (64:Int)).toNat 64)=1:=by decide
 unfold Qb1 Qf0;rw[Le (by decide),e,Np _ (by decide),show Yh 64=true by decide,LJ,Nw,L0];simp only[QuS,Qla];unfold I64 at h;left;split<;>omega
theorem QH4 {n:Int}{sg:Bool}(q:I64 n):((WR n 8 sg).2=0->-128<=(WR n 8 sg).1∧(WR n 8 sg).1<=255)∧((WR n 16 sg).2=0->-32768<=(WR n 16 sg).1∧(WR n 16 sg).1<=65535)∧((WR n 32 sg).2=0->-2147483648<=(WR n 32 sg).1∧(WR n 32 sg).1<=4294967295):=by
 refine⟨λ_=>?_,λ_=>?_,λ_=>?_⟩
 all_goals
  unfold WR;split
  ·omega
  ·split
   ·simp only;omega
   ·cases sg
    ·simp[Qgi];omega
    ·simp[Qgj];omega
theorem QD6 {f:Fm}{op:Int}{l:List Ar}(h:QcO f op l=true)(av:0<=Qp f.slots 5)(am:∀a∈l,I64 a.n):(tl1 f=0)∨(tl1 f=1∧Qb1 (Qo4 f op l) 8=true)∨(tl1 f=2∧Qb1 (Qo4 f op l) 16=true)∨(tl1 f=4∧Qb1 (Qo4 f op l) 32=true)∨(tl1 f=8∧Qb1 (Qo4 f op l) 64=true):=by
 obtain⟨_,au,ae,al,ao⟩:=QaA h;have ay:=Qiz ae;have aw:=QpW f.slots 5;obtain⟨i,hi⟩:∃i:Nat,Qp f.slots 5=i:=⟨(Qp f.slots 5).toNat,by omega⟩;have e1:(i:Int).toNat=i:=by omega
 have ai:i<l.length:=by omega
 obtain⟨a,ab⟩:∃a,l[i]? = some a:=⟨_,La ai⟩;have ac:=ao i ai;have aq:l.getD i Q7=a:=by rw[LX,ab];rfl
 have ah:Wk a=0:=Qtd (Qq0 al).1 a (Ln ab);have ag:=am a (Ln ab);have aj:Qo4 f op l=if a.k=3 then(WR a.n (QW op l).1 (QW op l).2).1 else a.n:=by
  unfold Qo4;rw[hi,e1,ab,NB]
 have ak:tl1 f=tl0 (f.shapes.getD i 0):=by
  unfold tl1;rw[hi,e1,Lc (by rw[Lm,Lv,Lv];omega)]
 rw[aq]at ac;rw[aj,ak];have ax:=QlB ae i (by omega);generalize f.shapes.getD i 0=s at *;unfold Qdq Qub at ac;rw[Lm]at ac;obtain⟨an,q⟩:=ac;have r:=QH4 (sg:=(QW op l).2) ag;have ar:=Qs5 a.n (QW op l).1 (QW op l).2 ag;generalize (QW op l).2=sg at *;generalize (QW op l).1=bt at *
 by_cases aa:a.k=3
 ·rw[Lc aa]at q;rw[Lc aa];have ad:(WR a.n bt sg).2=0:=by simpa[aa] using an
  rcases(show s=20∨s=21∨s=22∨s=23∨s=24∨s=25∨s=26∨s=27∨(s<20∨27<s) by omega) with rfl | rfl | rfl | rfl | rfl | rfl | rfl | rfl | hs2
  ·simp only[ZR]at q;have:bt=8:=by simpa using q
   subst this;exact .inr (.inl ⟨rfl,QzX (r.1 ad)⟩)
  ·simp[ZR]at q;exact .inr (.inl ⟨rfl,QzX (by omega)⟩)
  ·simp only[ZR]at q;have:bt=16:=by simpa using q
   subst this;exact .inr (.inr (.inl ⟨rfl,QF6 (r.2.1 ad)⟩))
  ·simp only[ZR]at q;have:bt=32:=by simpa using q
   subst this;exact .inr (.inr (.inr (.inl ⟨rfl,Qwg (r.2.2 ad)⟩)))
  ·simp[ZR]at q;exact .inr (.inr (.inr (.inl ⟨rfl,Qwg (by omega)⟩)))
  ·exact .inr (.inr (.inr (.inr ⟨rfl,QF7 ar⟩)))
  ·simp[ZR,aa]at q
  ·simp[ZR,aa]at q
  ·left;unfold tl0;simp;omega
 ·rw[Le aa]at q;rw[Le aa];rcases(show s=20∨s=21∨s=22∨s=23∨s=24∨s=25∨s=26∨s=27∨(s<20∨27<s) by omega) with rfl | rfl | rfl | rfl | rfl | rfl | rfl | rfl | hs2
  all_goals first
   | (simp[ZR]at q;done)
   | skip
  ·simp[ZR]at q;exact .inr (.inl ⟨rfl,QzX (by omega)⟩)
  ·simp[ZR]at q;have:-2147483648<=a.n∧a.n<=2147483647:=by
    unfold Wk at ah;simp[q]at ah;omega
   exact .inr (.inr (.inr (.inl ⟨rfl,Qwg (by omega)⟩)))
  ·left;unfold tl0;simp;omega
theorem QG0 (f:Fm):tlN f=tl1 f:=by
 unfold tlN tlF
 by_cases h:0<=Qp f.slots 7
 ·rw[Lc h,Lp h,Lq];omega
 ·rw[Le h,Lj h,Ls]
theorem QCA {f:Fm}{op:Int}{l:List Ar}(h:QcO f op l=true)(ab:∀a∈l,I64 a.n):Qo7 f op l=Qaz f op l:=by
 unfold Qo7 Qaz;congr 1
 by_cases aa:0<=Qp f.slots 5
 ·rw[Lc aa,Lc aa,QG0];have:=QD6 h aa ab;generalize Qo4 f op l=N at *;rcases this with e | ⟨e,q⟩ | ⟨e,q⟩ | ⟨e,q⟩ | ⟨e,q⟩
  ·rw[e];rfl
  ·rw[e];unfold Ku;rw[Le (by decide),Le (by rw[show(8:Int) * 1=8 from rfl,q];decide)];exact(Qpb N 1 (by decide)).symm
  ·rw[e];unfold Ku;rw[Le (by decide),Le (by rw[show(8:Int) * 2=16 from rfl,q];decide)];exact(Qpb N 2 (by decide)).symm
  ·rw[e];unfold Ku;rw[Le (by decide),Le (by rw[show(8:Int) * 4=32 from rfl,q];decide)];exact(Qpb N 4 (by decide)).symm
  ·rw[e];unfold Ku;rw[Le (by decide),Le (by rw[show(8:Int) * 8=64 from rfl,q];decide)];exact(Qpb N 8 (by decide)).symm
 ·rw[Le aa,Le aa]
theorem QD7 (mid:Int)(a:Ar):(if((QcM mid a).2==0)=true then(QcM mid a).1 else[])=(QcM mid a).1:=by
 split
 ·rfl
 ·rename_i h;unfold QcM at h ⊢;split
  ·rfl
  ·rename_i aa;rw[Le aa]at h;split
   ·rfl
   ·rename_i ab;rw[Le ab]at h;split
    ·rename_i q;rw[Lc q]at h;simp at h
    ·rename_i q;rw[Le q]at h;split
     ·rename_i ac;rw[Lc ac]at h;simp at h
     ·rfl
theorem laid_same {f:Fm}(ad:Chk f)(l:List Ar):Qo8 f l=W2 f l:=by
 unfold Qo8 W2
 by_cases aa:0<=Qp f.slots 2
 ·rw[Lc aa,Le (by omega),QD7];have e2:arS f l 2=l[(Qp f.slots 2).toNat]?.getD Q7:=by unfold arS;rw[Lc aa]
  have ac:QFU f l=QCv f l:=by
   have:=ad.fl;unfold QFU QCv arS
   by_cases ab:0<=Qp f.slots 4
   ·rw[Lc ab]at this;omega
   ·rw[Le ab,Lc aa]at this
    by_cases q:0<=Qp f.slots 1
    ·rw[Lc (this.1 q),Lc q,Lc q]
    ·rw[Le (λh=>q (this.2 h)),Le q]
  rw[e2,ac]
 ·rw[Le aa,Lc (by omega)]
theorem Qqa (f:Fm)(l:List Ar)(s:Int):Wi (arS f l s).r=Qjd f l s:=by
 unfold arS Qjd;split<;>rfl
theorem QBe {f:Fm}(ab:Chk f)(l:List Ar){w:Ld}(aa:w∈W2 f l):w.h+Wi (arS f l 4).r=hB f l w.h:=by
 rw[Qqa];unfold hB
 by_cases q:0<=Qp f.slots 4
 ·rw[Lc q];have:=ab.fl;rw[Lc q]at this;unfold W2 at aa;rw[Lc this.2.1,Sa]at aa;subst aa;exact Int.zero_add _
 ·rw[Le q];unfold Qjd;rw[Le q];omega
theorem QzY {f:Fm}(q:Chk f)(l:List Ar){w:Ld}(aa:w∈W2 f l):QcQ f l (Wi (arS f l 1).r) w.x (w.h+Wi (arS f l 4).r)=Qe1 f l w.x w.h:=by
 unfold QcQ Qe1 vxR vxF;rw[QBe q l aa,Qqa]
theorem QCB {f:Fm}(aa:Chk f)(l:List Ar):IntKind.u8.wrap (f.code+Wj (arS f l 4).r)=Qe2 f l:=by
 unfold Qe2 arS
 by_cases q:0<=Qp f.slots 4
 ·rw[Lc q,Lc q];simp only[QDS];omega
 ·rw[Le q,Le q,show Wj Q7.r=0 from rfl,Int.add_zero]
def Fst (mid:Int)(w:Ld):Prop:=∃ (q rm:Int) (t:List Int),w.b=QA q mid rm::t∧(0<=q∧q<3)∧(0<=rm∧rm<8)
theorem Qnr {mid rm:Int}(ab:0<=rm∧rm<8)(sib:List Int)(m:Mm):∀w∈YY mid rm sib m,Fst mid w:=by
 intro w q;unfold YY at q;obtain⟨ac,aa,q⟩:=NF.1 q;have aa:=LU.1 aa;unfold Zx at q;split at q
 ·rw[Sa]at q;subst q;exact⟨ac,rm,_,rfl,by omega,ab⟩
 ·cases q
theorem Qu1 (mid:Int)(q:Rg)(f d:Int):Fst mid (Qa6 mid q f d):=⟨0,4,_,rfl,by decide,by decide⟩
theorem QD8 (mid:Int)(m:Mm):∀w∈QdZ mid m,Fst mid w:=by
 intro w q;have aa:=Jr m.b;unfold QdZ at q;split at q
 ·rw[Sa]at q;subst q;exact⟨0,5,_,rfl,by decide,by decide⟩
 split at q
 ·rw[Sa]at q;subst q;exact Qu1 _ _ _ _
 split at q
 ·exact Qnr (by decide) _ _ w q
 rcases LI.1 q with q | q
 ·split at q
  ·cases q
  ·exact Qnr aa _ _ w q
 rcases LI.1 q with q | q
 ·exact Qnr (by decide) _ _ w q
 ·split at q
  ·cases q
  ·rw[Sa]at q;subst q;exact Qu1 _ _ _ _
theorem QD9:∀c:Fin 256,Qx5 ((c:Nat):Int)=((c:Nat):Int) % 8:=by decide
theorem QEa {f:Fm}{op:Int}{l:List Ar}(ad:Chk f)(h:QcO f op l=true){i:Nat}{a:Ar}(hi:l[i]? = some a)(ai:a.k=2):Qp f.slots 2=i:=by
 obtain⟨_,aj,ac,ak,ae⟩:=QaA h;have an:=Qiz ac;have ah:i<l.length:=(Lk.1 hi).1;have aa:=ae i ah;have ag:l.getD i Q7=a:=by rw[LX,hi];rfl
 rw[ag]at aa;obtain⟨q,ab⟩:=ad.sl i (by omega);have am:=QlB ac i (by omega);generalize f.shapes.getD i 0=s at *;have al:(7<=s∧s<=19)∨s=34:=by
  unfold Qdq Qub at aa;rw[Le (by omega),Lm]at aa;have aa:=aa.2;rcases(show s=1∨s=2∨s=3∨s=4∨s=5∨s=6∨s=20∨s=21∨s=22∨s=23∨s=24∨s=25∨s=26∨s=27∨s=28∨s=29∨s=30∨s=31∨s=32∨s=33∨((7<=s∧s<=19)∨s=34) by omega) with rfl | rfl | rfl | rfl | rfl | rfl | rfl | rfl | rfl | rfl | rfl | rfl | rfl | rfl | rfl | rfl | rfl | rfl | rfl | rfl | hh
  all_goals first
   | exact hh
   | (simp[ZR,W4,ai]at aa;done)
 have e2:f.slots.getD i 0=2:=by
  generalize f.slots.getD i 0=sl at *;unfold Qf5 at q;split at q
  ·simp at q;omega
  split at q
  ·simp at q;omega
  split at q
  ·simp at q;omega
  split at q
  ·assumption
  ·simp at q
 rw[e2]at ab;rcases ab with ab | ab
 ·omega
 ·exact ab
theorem Qu2 (z:Int)(t:List Int):Qx9 (z::t)=if z / 64=3 then -1 else if z % 8=4 then((z::t).length:Int) - 2 else((z::t).length:Int) - 1:=by
 unfold Qx9;rw[Le (by simp)];rfl
theorem QzZ {l:List Ar}{w:Ld}{z:Int}{t:List Int}(h:w.b=z::t)(q:(l.any λa=>a.k==2)=true):Qjl l w=if(Qx5 z==4)=true then((z::t).length:Int) - 2 else((z::t).length:Int) - 1:=by
 unfold Qjl;rw[h,q,Le (by simp)];rfl
theorem QEb {f:Fm}{op:Int}{l:List Ar}(al:Chk f)(h:QcO f op l=true){w:Ld}(q:w∈W2 f l):Qx9 w.b=Qjl l w:=by
 unfold W2 at q;split at q
 ·rw[Sa]at q;subst q;have e1:Qx9 (⟨[],0,0⟩:Ld).b=-1:=rfl;rw[e1];unfold Qjl;rw[Lc (by simp)]
 ·rename_i aq;rw[QD7]at q;obtain⟨_,az,ao,aA,ar⟩:=QaA h;have ay:=Qiz ao;have av:=QpW f.slots 2;obtain⟨i,hi⟩:∃i:Nat,Qp f.slots 2=i:=⟨(Qp f.slots 2).toNat,by omega⟩;have e1:(i:Int).toNat=i:=by omega
  obtain⟨a,ad⟩:∃a,l[i]? = some a:=⟨_,La (by omega)⟩;rw[hi,e1,ad,NB]at q;generalize QCv f l=mid at q;unfold QcM at q;split at q
  ·cases q
  rename_i ak;have ak:0<=mid∧mid<8:=by simp at ak;omega
  split at q
  ·cases q
  split at q
  ·rename_i ag;have ag:a.k=1:=by simpa using ag
   have au:=Jr a.r;have ae:(l.any λa=>a.k==2)=false:=by
    rw[Bool.eq_false_iff];intro am;obtain⟨b,hb,aj⟩:=Bh.1 am;obtain⟨j,aa⟩:=Bx.1 hb;have:=QEa al h aa (by simpa using aj);rw[hi]at this;have:i=j:=by omega
    subst this;rw[ad]at aa;cases aa;simp[ag]at aj
   rw[Sa]at q;subst q;rw[show(⟨[QA 3 mid (Wj a.r)],0,Wi a.r⟩:Ld).b=QA 3 mid (Wj a.r)::[] from rfl,Qu2,Lc (by unfold QA;omega)];unfold Qjl;rw[ae];rfl
  ·split at q
   ·rename_i an;have ae:(l.any λa=>a.k==2)=true:=Bh.2 ⟨a,Ln ad,an⟩;obtain⟨ac,rm,t,ai,aw,ax⟩:=QD8 mid _ w q;have aa:0<=QA ac mid rm∧QA ac mid rm<256:=by unfold QA;omega
    have ah:=QD9 ⟨(QA ac mid rm).toNat,by omega⟩;simp only[Bi aa.1]at ah;rw[QzZ ai ae,ai,Qu2,Le (by unfold QA;omega),ah]
    by_cases ab:QA ac mid rm % 8=4
    ·rw[Lc ab,Lc (by rw[L0];exact ab)]
    ·rw[Le ab,Le (by rw[L0];exact ab)]
   ·cases q
theorem QEc {f:Fm}{op:Int}{l:List Ar}(aa:Chk f)(ac:∀a∈l,I64 a.n):QCw f op l=Qle f op l:=by
 unfold QCw Qle
 by_cases h:QcO f op l=true
 ·rw[Lc h,Lc h,laid_same aa,QCA h ac];have:∀P:List Ld,(∀w∈P,w∈W2 f l)->P.flatMap (Qpa f l (Wi (arS f l 1).r) (arS f l 4).r (Qaz f op l))=P.flatMap (Qgl f l (Qaz f op l)):=by
   intro P ab
   induction P with
   | nil=>rfl
   | cons w P ad=>
    rw[Ba,Ba,ad λw q=>ab w (NA _ q)];congr 1;have q:=ab w (Ny ..);unfold Qpa Qgl mkR;rw[QzY aa l q,QCB aa,QEb aa h q]
  exact this _ λw q=>q
 ·rw[Le h,Le h]
theorem QJB {f:Fm}{op:Int}{l:List Ar}(aa:Chk f)(h:QcO f op l=true)(aj:∀a∈l,I64 a.n):QJy f op l:=by
 obtain⟨_,an,ah,ao,ak⟩:=QaA h;have am:=Qiz ah;have al:=aa.rng.2.2.1;refine⟨by omega,λw q=>?_,by unfold I64;omega,?_⟩
 ·rw[laid_same aa]at q;obtain⟨ab,ac,ad⟩:=(QlE f l).2 w q;have hb:=QCy f l w q;rw[QBe aa l q];have ae:0<=hB f l w.h∧hB f l w.h<2:=by
   unfold hB;split
   ·exact Qo1 _ _ _
   ·exact ac
  refine⟨ab,ae,λag=>?_,ad,hb.2⟩;have e:vxR f l (Wi (arS f l 1).r) w.x (hB f l w.h)=vxF f l w.x w.h:=by
   unfold vxR vxF;rw[Qqa]
  rw[e];exact QGZ h ag ab ac
 ·unfold Qo7;rw[Lh];have ai:=QsS f;have:(tlN f).toNat<=8:=by rw[QG0];omega
  split<;>split<;>simp[Qo6]<;>omega
abbrev KSp (op:Int)(W:List (List Ar))(H:Qa):Env->Qa->Prop:=Rt prog Tryz.f57 H λu H'=>Qwk H' u op W∧Ext H H'
theorem QJE {op:Int}{m:List Ar}{W:List (List Ar)}{H H3:Qa}{B:Nat}{a2:Option Addr}{q:Nat}(aT:m.length<=1000)(ax:W=[m]++if GP op m=true then[m.reverse] else[])(al:Ext H H3)(ad:H3.Wf)(g3:H3.get B=some (.cells [.int .i64 op,.slice a2 m.length q] 24 false))(ai:Qt H3 (.slice a2 m.length q) m)(az:∀n,H3.next<=n->Qi n 6 (.agg #[.int .i64 op,.slice a2 m.length q])=true){A:Env}(r3:A 3=.pointer (some ⟨B,0,none⟩)):
  Qm prog Y2 ⟨KSp op W H,WL⟩ (KSp op W H) A H3:=by
 have lB:=ad.lt g3;have nB:¬B=H3.next:=by omega
 have ab:=(Ext.refl H3).push (.cells [.int .i64 op,.slice a2 m.length q] 24 false);have bj:=ad.push (.cells [.int .i64 op,.slice a2 m.length q] 24 false);have g4:(H3.push (.cells [.int .i64 op,.slice a2 m.length q] 24 false)).get H3.next=some (.cells [.int .i64 op,.slice a2 m.length q] 24 false):=by rw[Qc,Lc rfl]
 have ay:(H3.push (.cells [.int .i64 op,.slice a2 m.length q] 24 false)).get B=some (.cells [.int .i64 op,.slice a2 m.length q] 24 false):=by rw[Qc,Le nB];exact g3
 have bh:(H3.push (.cells [.int .i64 op,.slice a2 m.length q] 24 false)).next=H3.next+1:=rfl
 -- one spelling
 have ak:GP op m=false->∀H6,Ext (H3.push (.cells [.int .i64 op,.slice a2 m.length q] 24 false)) H6->Qwk H6 (.slice (some ⟨H3.next,0,none⟩) 1 1) op W:=λh H6 aI=>by
  rw[ax,Le (by rw[h];decide),Na];have aH:=ab.trans aI;refine⟨[.slice a2 m.length q],rfl,⟨_,1,rfl,λ_=>⟨H3.next,_,_,rfl,(aI.get H3.next (by omega)).trans g4⟩⟩,λj s w aa ae=>?_⟩;rcases j with _ | j
  ·cases aa;cases ae;exact⟨ai.ext ad aH,λn aD=>az n (by have:=aH.next;omega)⟩
  ·simp at aa
 simp only[Y2,Qb,simprocAttr,r3,g3,nB,LN,Lw,List.take];generalize Qa.push H3 _=H4 at *;cases aj:op==11 with
 | false=>
  simp only[Qb,simprocAttr,aj,Wl];exact .mk (al.trans ab).next ⟨ak (by unfold GP;split<;>simp[aj]) _ (.refl _),al.trans ab⟩
 | true=>
  simp only[Qb,simprocAttr,aj,r3,ay,Lw,List.take];refine(Qtg op _ m 1 1 H4 (ai.ext ad ab) aT).thenW ?_;rintro _ _ aE bk ⟨rfl,k5,rfl⟩;simp only[Ql]at aE;have ac:=(Ext.refl H4).up (m:=k5) aE;generalize Qa.up H4 k5=H5 at *;have an:=(ac.get B (by omega)).trans ay;have ah:=al.trans (ab.trans ac);cases ag:QbL 1 1 m with
  | false=>
   simp only[Qb,simprocAttr,Wl];refine .mk ah.next ⟨ak ?_ _ ac,ah⟩;unfold GP;split
   ·simp[QbL]at ag;simp;intro _ aa ae;exact absurd ae (ag aa)
   ·rfl
  | true=>
   obtain⟨x,y,rfl⟩:∃x y,m=[x,y]:=by
    unfold QbL at ag;split at ag
    ·exact⟨_,_,rfl⟩
    ·cases ag
   obtain⟨_,_,aQ,aa⟩:=id ai;cases aQ;obtain⟨cb,aK,aL,rfl,aC⟩:=aa (FH _);have aB:H5.get cb=some (.cells (Qh [x,y]) aK aL):=((ab.trans ac).get cb (ad.lt aC)).trans aC;have e1:(Qh [x,y])[1]? = some (.int .i64 x.r.c):=rfl;have aM:(Qh [x,y])[12]? = some (.int .i64 y.r.c):=rfl;have e2:(Qh [x,y])[2]? = some (.int .i64 x.r.n):=rfl;have aN:(Qh [x,y])[13]? = some (.int .i64 y.r.n):=rfl;have d0:(0:Int)<=0∧(0:Int)<(([x,y]:List Ar).length:Int):=by simp
   have d1:(0:Int)<=1∧(1:Int)<(([x,y]:List Ar).length:Int):=by simp
   have t0:(0:Int).toNat=0:=rfl;have t1:(1:Int).toNat=1:=rfl;simp only[sxA,sxB,Nat.reduceBEq,Nat.reduceEqDiff,reduceCtorEq,mxA,mxB,Nat.reduceAdd,reduceIte,Nat.reduceLeDiff,splice,r3,an,d0,d1,t0,t1,aB,e1,aM];refine⟨by decide,by decide,?_⟩;have aS:((x.k==1)&&(y.k==1))=true:=ag;cases aA:x.r.c==y.r.c with
   | false=>
    simp only[Qb,simprocAttr,Wl];exact .mk ah.next ⟨ak (by simp[GP,aA]) _ ac,ah⟩
   | true=>
    simp only[sxA,sxB,Nat.reduceBEq,Nat.reduceEqDiff,reduceCtorEq,mxA,mxB,Nat.reduceAdd,reduceIte,Nat.reduceLeDiff,splice,r3,an,d0,d1,t0,t1,aB,e2,aN];refine⟨by decide,by decide,?_⟩;cases aF:x.r.n==y.r.n with
    | true=>
     simp only[Qb,simprocAttr,L8,Wl];exact .mk ah.next ⟨ak (by simp[GP,aF]) _ ac,ah⟩
    | false=>
     have aZ:GP op [x,y]=true:=by simp only[GP,aj,aS,aA,aF];rfl
     simp only[Qb,simprocAttr,LM,r3,an,Lw,List.take];have bb:=ab.trans ac;refine(QiF op _ x y H5 (ai.ext ad bb)).thenW ?_;rintro _ H6 bi aq ⟨am,rfl,ao,bc,bg⟩;simp only[Qb,simprocAttr];have au:=(Ext.refl H6).push (.cells [.int .i64 op,am] 24 false);have ba:=aq.push (.cells [.int .i64 op,am] 24 false);have aO:(H6.push (.cells [.int .i64 op,am] 24 false)).get H6.next=some (.cells [.int .i64 op,am] 24 false):=by rw[Qc,Lc rfl]
     generalize Qa.push H6 _=H7 at *;have aJ:=(ac.trans bc).trans au;have aP:=(aJ.get H3.next (by omega)).trans g4;have aX:Gx 2 24 H3 H7 (.slice (some ⟨H3.next,0,none⟩) 1 1) 1 [.int .i64 op,.slice (some ⟨cb,0,none⟩) ([x,y]:List Ar).length q]:=.inr ⟨_,_,rfl,Lb _,aP,rfl,.inl rfl⟩;obtain⟨a6,aw,rfl⟩:=Qu ao;have aY:Zt 2 (.slice (some ⟨H6.next,0,none⟩) 1 1) H7=some (1,[.int .i64 op,.slice a6 2 aw]):=by
      rw[Y5 aO (by decide) (by simp)];rfl
     refine Qsz aX ⟨_,rfl⟩ ba aY rfl (by decide) rfl (by decide) (by decide) (by decide) ?_;rintro bq H9 aR av bm ⟨bd,rfl⟩;have ar:=(ab.trans aJ).trans av;have aG:=al.trans ar;simp only[Qb,simprocAttr,Wl];refine .mk aG.next ⟨?_,aG⟩;rw[ax,Lc aZ];refine⟨[.slice (some ⟨cb,0,none⟩) 2 q,.slice a6 2 aw],rfl,aR.sl,λj s w aa ae=>?_⟩;rcases j with _ | _ | j
     ·cases aa;cases ae;exact⟨ai.ext ad ar,λn aD=>az n (by have:=ar.next;omega)⟩
     ·cases aa;cases ae;refine⟨ao.ext aq (au.trans av),λn aD=>?_⟩;obtain⟨_,_,aU,aV⟩:=id ao;cases aU;obtain⟨bn,bo,bp,rfl,aW⟩:=aV (FH _);have:=aq.lt aW;have:=(au.trans av).next;simp[Qi,Ab.plain];omega
     ·simp at aa
theorem Qpd {op:Int}{v:Value}{l:List Ar}(H:Qa)(ak:Qt H v l)(ar:l.length<=1000)(ao:∀a∈l,I64 a.n):
  Qe prog 57 [.agg #[.int .i64 op,v]] H λu H'=>Qwk H' u op (J8 op l)∧Ext H H':=by
 refine QeY λal=>?_;obtain⟨a0,cap,rfl⟩:=Qu ak;simp only[K5,JL,simprocAttr];generalize ac:Qa.push H _=H1;have g1:H1.get H.next=some (.cells [.int .i64 op,.slice a0 l.length cap] 24 false):=by rw[<- ac,Qc,Lc rfl];rfl
 have an:Ext H H1:=by rw[<- ac];exact(Ext.refl H).push _
 have ay:H1.Wf:=by rw[<- ac];exact al.push _
 clear ac;simp only[Qb,simprocAttr,g1];refine(Qui op _ l H1 (ak.ext al an) ar ao).thenW ?_;rintro _ H2 ax am ⟨aw,az,rfl,ae,aq⟩;have ag:=an.trans aw;have ai:=λn aj=>Qq1 (op:=(Wc op l).1) ae aq n aj;obtain⟨W,q⟩:∃W,W=J8 op l:=⟨_,rfl⟩;rw[<- q];unfold J8 at q;obtain⟨a2,ah,rfl⟩:=Qu ae;cases ab:(Wc op l).2.2==0 with
 | false=>
  rw[ab,Le (by decide)]at q;simp only[Qb,simprocAttr,ab,Wl];have aa:=(ag.push (.cells [.int .i64 0,.slice none 0 0] 24 false)).set ag.next (.cells [.int .i64 (Wc op l).1,.slice a2 (Wc op l).2.1.length ah] 24 false);exact .mk aa.next ⟨by rw[q];exact⟨[],rfl,⟨none,0,rfl,λh=>absurd h (NX 0)⟩,λj s w h=>by simp at h⟩,aa⟩
 | true=>
  rw[ab,Lc rfl]at q;have ei:=Qu4 (L0.1 ab);have e1:(Wc op l).1=op:=by rw[ei]
  rw[e1]at ai;simp only[Qb,simprocAttr,ab,e1];generalize au:(Wc op l).2.1=m at *;generalize ad:(H2.push _).set H2.next _=H3;have aa:Ext H2 H3:=by rw[<- ad];exact((Ext.refl H2).push _).set (Lb _) _
  have av:H3.Wf:=by rw[<- ad];exact(am.push _).set (b0:=.cells [.int .i64 0,.slice none 0 0] 24 false) (by rw[Qc,Lc rfl]) _
  have g3:H3.get H2.next=some (.cells [.int .i64 op,.slice a2 m.length ah] 24 false):=by rw[<- ad,Qn,Lc rfl]
  clear ad;refine QJE (by rw[<- au];have:=Qtf op l;omega) q (ag.trans aa) av g3 (ae.ext am aa) (λn aj=>ai n (by have:=aa.next;omega)) ?_;simp only[Qg,simprocAttr]
theorem Qpe (s:Value)(w:Ld)(ss:List Value)(ws:List Ld):ldC (s::ss) (w::ws)=s::.int .i64 w.x::.int .i64 w.h::ldC ss ws:=rfl
theorem QBi:∀ (j:Nat) (ss:List Value) (ws:List Ld) (s:Value) (w:Ld) (k:Int),ss[j]? = some s->ws[j]? = some w->List.take (j * 3+1) (ldC ss ws)++Value.int .i64 k::List.drop (j * 3+1+1) (ldC ss ws)=ldC ss (ws.set j (VY k w))
 | 0,s'::ss,w'::ws,s,w,k,h1,h2=>by
  cases h1;cases h2;rw[Qpe,List.set_cons_zero,Qpe];rfl
 | j+1,s'::ss,w'::ws,s,w,k,h1,h2=>by
  have q:=QBi j ss ws s w k (by simpa using h1) (by simpa using h2);rw[Qpe,List.set_cons_succ,Qpe,<- q];rw[show(j+1) * 3+1=(j * 3+1)+3 by omega,show(j * 3+1)+3+1=(j * 3+1+1)+3 by omega];rfl
 | 0,[],_,_,_,_,h,_=>by cases h
 | _+1,[],_,_,_,_,h,_=>by cases h
 | 0,_::_,[],_,_,_,_,h=>by cases h
 | _+1,_::_,[],_,_,_,_,h=>by cases h
def Qli (cs:List Ld)(k:Int)(j:Nat):List Ld:=(cs.take j).map (VY k)++cs.drop j
theorem Qlj (cs:List Ld)(k:Int)(j:Nat):(Qli cs k j).length=cs.length:=by
 unfold Qli;rw[Lh,Nn,Sb,NT];omega
theorem QGd {cs:List Ld}{k:Int}{j:Nat}{w:Ld}(h:cs[j]? = some w):(Qli cs k j)[j]? = some w:=by
 have q:j<cs.length:=(Lk.1 h).1;unfold Qli;rw[LR (by rw[Nn,Sb];omega),Nn,Sb,BC (by omega),BJ,Nk,N9];exact h
theorem Qu7 {cs:List Ld}{k:Int}{j:Nat}{w:Ld}(h:cs[j]? = some w):(Qli cs k j).set j (VY k w)=Qli cs k (j+1):=by
 have q:j<cs.length:=(Lk.1 h).1;have aa:cs.drop j=w::cs.drop (j+1):=by
  rw[Nh q];congr 1;rw[La q]at h;exact Ly h
 unfold Qli;rw[aa,Nv,h,RB,N6,LQ];rw[List.set_append_right _ _ (by rw[Nn,Sb];omega)];rw[Nn,Sb,BC (by omega),BJ];rfl
theorem QJF {Hs Hc H5:Qa}(ak:Ext Hs Hc)(au:Ext Hc H5)(aG:Hc.Wf)(aF:H5.Wf){acc cs:List Ld}{out lv:Value}{k:Nat}(bw:acc.length+cs.length<=1000000)(aA:Wa 41 Hs Hc out acc)(aX:Wa 41 Hc H5 lv cs){A:Env}(r5:A 5=out)(aM:A 9=.int .i64 k)(bi:A 10=lv)(bj:A 12=.int .i64 (0:Nat)){ks:Kp}{K:Env->Qa->Prop}
  (aW:∀ (A':Env) (H':Qa),Wa 41 Hs H' (A' 5) (acc++cs.map (VY k))->Ext Hs H'->H'.Wf->A' 1=A 1->A' 6=A 6->A' 7=A 7->A' 8=A 8->A' 9=A 9->ks.ext 4 A' H'):
  Qm prog (.loop JX) ks K A H5:=by
 obtain⟨ss,aD,aS,aV⟩:=aX.it;have hb:∃ (ag:Option Addr) (al b:Nat),lv=.slice ag cs.length al∧(0<cs.length->ag=some ⟨b,0,none⟩∧Hc.next<=b∧b<H5.next∧H5.get b=some (.cells (ldC ss cs) 41 false)):=by
  rcases aS with⟨rfl,h,_⟩ | ⟨b,c,rfl,ac,ab,_,_⟩
  ·exact⟨none,0,0,by rw[h],λh'=>by omega⟩
  ·exact⟨_,c,b,rfl,λ_=>⟨rfl,ac,aF.lt ab,ab⟩⟩
 obtain⟨ag,al,b,rfl,hb⟩:=hb;have bb:∀id,inB out id->id<Hc.next:=λid hi=>by
  obtain⟨_,_,aT,_⟩:=aA.it;exact(aT.low aG hi).2
 refine Qo (λm A' H'=>∃j:Nat,j<=cs.length∧m=cs.length - j∧Ext Hs H'∧H5.next<=H'.next∧H'.Wf∧Wa 41 Hs H' (A' 5) (acc++(cs.take j).map (VY k))∧(∀id,inB (A' 5) id->id<Hc.next∨H5.next<=id)∧(0<cs.length->H'.get b=some (.cells (ldC ss (Qli cs k j)) 41 false))∧(∀ (i:Nat) s w,ss[i]? = some s->cs[i]? = some w->Gx 1 5 Hc H' s w.b.length (bys w.b))∧A' 1=A 1∧A' 6=A 6∧A' 7=A 7∧A' 8=A 8∧A' 9=.int .i64 k∧A' 10=.slice ag cs.length al∧A' 12=.int .i64 j) cs.length ?_ ?_
 ·refine⟨0,L7 _,rfl,ak.trans au,Lb _,aF,?_,?_,λh=>(hb h).2.2.2,aV,rfl,rfl,rfl,rfl,aM,bi,bj⟩
  ·rw[r5,Rb,Bq,Na];exact aA.go aG au
  ·rw[r5];exact λid hi=>.inl (bb id hi)
 ·rintro m A' H' ⟨j,bz,rfl,aH,b2,aE,aj,ai,aR,av,aI,aJ,aK,aL,ao,am,an⟩;simp only[JX,Qb,simprocAttr,am,an];refine Qf (λq=>?_) (λq=>?_)
  ·have q:j<cs.length:=by have:=Lg q;omega
   obtain⟨rfl,bu,bv,_⟩:=hb (by omega);have ah:=aR (by omega);obtain⟨w,aa⟩:∃w,cs[j]? = some w:=⟨_,La q⟩;obtain⟨s,ad⟩:∃s,ss[j]? = some s:=⟨_,La (by omega)⟩;have bx:=av j s w ad aa;have aC:=QBi j ss (Qli cs k j) s w k ad (QGd aa);rw[Qu7 aa]at aC;have aQ:=Qnq ss (Qli cs k (j+1)) j s (VY k w) ad (by
    rw[<- Qu7 aa,List.getElem?_set_self (by rw[Qlj];exact q)])
   have d1:(0:Int)<=j∧(j:Int)<cs.length:=by omega
   have d3:(j:Int).toNat=j:=by omega
   have aN:IntKind.i64.wrap ((j:Int)+1)=((j+1:Nat):Int):=by rw[w64 (by unfold I64;omega)];omega
   have b1:j * 3+1<(ldC ss (Qli cs k j)).length:=by rw[QiA _ _ (by rw[Qlj];exact aD),Qlj];omega
   simp only[Qba,Qb,simprocAttr,ao,am,an,d1,d3,ah,aC,aQ];refine⟨by omega,by rw[QiA _ _ (by rw[Qlj];exact aD),Qlj];omega,?_⟩;have az:∀c:List Value,H'.get b≠some (.cells c 5 false):=λc h=>by
    rw[ah]at h;exact absurd (Blk.cells.inj (Ly h)).2.1 (by decide)
   have ar:∀id,id≠b->(H'.set b (.cells (ldC ss (Qli cs k (j+1))) 41 false)).get id=H'.get id:=λid h=>by rw[Qn,Le h]
   have aO:(H'.set b (.cells (ldC ss (Qli cs k (j+1))) 41 false)).get b=some (.cells (ldC ss (Qli cs k (j+1))) 41 false):=by rw[Qn,Lc rfl]
   have ae:(H'.set b (.cells (ldC ss (Qli cs k (j+1))) 41 false)).Wf:=aE.set ah _;have bd:Ext Hs (H'.set b (.cells (ldC ss (Qli cs k (j+1))) 41 false)):=aH.set (by have:=ak.next;omega) _;have aY:(H'.set b (.cells (ldC ss (Qli cs k (j+1))) 41 false)).next=H'.next:=rfl;generalize Qa.set H' b _=H8 at *;have aw:∀ (i:Nat) s w,ss[i]? = some s->cs[i]? = some w->Gx 1 5 Hc H8 s w.b.length (bys w.b):=λi s w ac ab=>by
    rcases av i s w ac ab with h | ⟨b',c',h,e1,e2,e3⟩
    ·exact .inl h
    ·exact .inr ⟨b',c',h,e1,by rw[ar b' (λh=>az _ (by rw[<- h];exact e2))];exact e2,e3⟩
   have aB:Wa 41 Hs H8 (A' 5) (acc++(cs.take j).map (VY k)):=aj.keep λid _ aU=>ar id λh=>by
    subst h;rcases aU with h | ⟨c,h⟩
    ·rcases ai _ h with h | h<;>omega
    ·exact az _ h
   have aq:=(Ext.refl H8).push (.cells [s,.int .i64 (VY k w).x,.int .i64 (VY k w).h] 41 false);have bn:=ae.push (.cells [s,.int .i64 (VY k w).x,.int .i64 (VY k w).h] 41 false);refine Qv5 (w:=VY k w) (s:=s) (by decide) (aB.go ae aq) (bd.trans aq) bn (((aw j s w ad aa).go ae aq).down ak.next) ?_ (by rw[Lh,Nn,Sb];omega) (by rw[Lh,Nn,Sb];omega) λb4 H9 bg k9=>?_
   ·rw[Y5 (b:=H'.next) (by rw[Qc,Lc aY.symm]) (by decide) (by simp)];rfl
   ·simp only[Qb,simprocAttr,an,aN];have ba:=k9.next;rw[Qd]at ba;have ay:∀id,id<H8.next->¬inB (A' 5) id->H9.get id=H8.get id:=λid br q=>by
     rw[k9.keep id (by rw[Qd];omega) q,Qc,Le (by omega)]
    have aZ:¬inB (A' 5) b:=λh=>by rcases ai _ h with h | h<;>omega
    obtain⟨_,_,ax,_⟩:=aB;refine⟨cs.length - (j+1),by omega,j+1,by omega,rfl,k9.x,by omega,k9.w,?_,?_,?_,?_,?_,?_,?_,?_,?_,?_,?_⟩
    all_goals (try simp only[Qg,simprocAttr,aI,aJ,aK,aL,ao,am])
    ·rw[Nv,aa,RB,N6,<- LQ];exact bg
    ·intro id hi;rcases k9.new id hi with h | h
     ·exact ai id h
     ·rw[Qd]at h;right;omega
    ·intro _;rw[ay b (by omega) aZ];exact aO
    ·intro i bk bm ac ab;rcases aw i bk bm ac ab with h | ⟨b',c',h,e1,e2,e3⟩
     ·exact .inl h
     ·refine .inr ⟨b',c',h,e1,?_,e3⟩;rw[ay b' (ae.lt e2) (λhi=>?_)]
      ·exact e2
      ·obtain⟨o,b3,bp,bc⟩:=hi;rw[bc]at ax;rcases ax with⟨h,_,_⟩ | ⟨bo,bq,aP,_,bh,_⟩
       ·cases h
       ·cases aP;rw[bh]at e2;exact absurd (Blk.cells.inj (Ly e2)).2.1 (by decide)
  ·have q:j=cs.length:=by have:=Ll q;omega
   rw[q,Nr]at aj;simp only[Qb,simprocAttr];refine aW _ H' ?_ aH aE ?_ ?_ ?_ ?_ ?_
   all_goals simp only[Qg,simprocAttr,aI,aJ,aK,aL,ao,aM]
   exact aj
theorem QJG {Hs:Qa}(ac:Hs.Wf){op:Int}{sv fv:Value}{sp:List (List Ar)}{xs:List Lf}(b8:xs.length<=6000)(ai:Qkj Hs fv xs)(aT:∀x∈xs,Chk x.f∧Qec x.f=0∧x.Fr 0)(bg:Qwk Hs sv op sp){n:Nat}{m:List Ar}(aq:sp[n]? = some m)(ba:m.length<=1000)(ah:∀a∈m,I64 a.n){acc:List Ld}(b1:acc.length<=400000){H1:Qa}(bk:Ext Hs H1)(bi:H1.Wf){A:Env}(bb:Wa 41 Hs H1 (A 5) acc)(aA:A 6=sv)(aB:A 7=fv)(aC:A 8=.int .i64 n)(bq:A 9=.int .i64 (0:Nat)){ks:Kp}{K:Env->Qa->Prop}
  (aZ:∀ (A':Env) (H':Qa),Wa 41 Hs H' (A' 5) (acc++(List.range xs.length).flatMap (frm (xs.map (·.f)) op m))->Ext Hs H'->H'.Wf->A' 1=A 1->A' 6=A 6->A' 7=A 7->A' 8=A 8->ks.ext 2 A' H'):
  Qm prog (.loop JY) ks K A H1:=by
 have bv:∀x:Lf,x.cells.take 10=x.cells:=λx=>rfl;obtain⟨aL,aN,rfl⟩:=Qu ai.1;obtain⟨aG,b7,av,bh⟩:=bg;obtain⟨br,sc,rfl⟩:=Qu av;have b5:n<sp.length:=(Lk.1 aq).1;obtain⟨aF,aw⟩:∃v,aG[n]? = some v:=⟨_,La (by omega)⟩;obtain⟨aR,aS⟩:=bh n aF m aw aq;have aY:∀i,(frm (xs.map (·.f)) op m i).length<=24:=λi=>by
  unfold frm;split
  ·rw[Nn];exact QlF _ _ _
  ·simp
 have aX:∀k,((List.range k).flatMap (frm (xs.map (·.f)) op m)).length<=k * 24:=λk=>by
  have:=VJ (f:=frm (xs.map (·.f)) op m) (n:=24) (List.range k) (λa _=>aY a);rw[BO]at this;exact this
 refine Qo (λq A' H'=>∃k:Nat,k<=xs.length∧q=xs.length - k∧Ext Hs H'∧H'.Wf∧Wa 41 Hs H' (A' 5) (acc++(List.range k).flatMap (frm (xs.map (·.f)) op m))∧A' 1=A 1∧A' 6=.slice br sp.length sc∧A' 7=.slice aL xs.length aN∧A' 8=.int .i64 n∧A' 9=.int .i64 k) xs.length ?_ ?_
 ·refine⟨0,L7 _,rfl,bk,bi,?_,rfl,aA,aB,aC,bq⟩;rw[List.range_zero,DG,Na];exact bb
 ·rintro q A' H' ⟨k,b3,rfl,ab,ax,aj,az,al,ad,am,ae⟩;simp only[JY,Qb,simprocAttr,ad,ae];refine Qf (λaa=>?_) (λaa=>?_)
  ·have aa:k<xs.length:=by have:=Lg aa;omega
   obtain⟨x,ak⟩:∃x,xs[k]? = some x:=⟨_,La aa⟩;have ay:=Ln ak;obtain⟨ag,an,aH⟩:=aT x ay;obtain⟨_,_,aV,aU⟩:=ai.1;cases aV;obtain⟨aM,bw,bx,rfl,ao⟩:=aU (by omega);obtain⟨_,_,bd,bc⟩:=av;cases bd;obtain⟨bu,b9,bA,rfl,ar⟩:=bc (by omega);have aO:=(ab.get aM (ac.lt ao)).trans ao;have gs:=(ab.get bu (ac.lt ar)).trans ar;have d1:(0:Int)<=k∧(k:Int)<xs.length:=by omega
   have d3:(k:Int).toNat=k:=by omega
   have aI:(0:Int)<=n∧(n:Int)<sp.length:=by omega
   have aJ:(n:Int).toNat=n:=by omega
   have aK:IntKind.i64.wrap ((k:Int)+1)=((k+1:Nat):Int):=by rw[w64 (by unfold I64;omega)];omega
   simp only[Qbb,Qb,simprocAttr,al,ad,am,ae,d1,d3,aI,aJ,aO,gs];have aP:=QcG xs k x ak;have aQ:=Qwm op aG n aF aw;rw[aP,aQ];refine⟨by rw[XH];omega,by rw[Qth];omega,?_⟩;refine(QCx ag an (Qv4 an) aH (λh=>QJB ag h ah) H' ((ai.2 x ay).ext ac ab) (aR.ext ac ab) (λq b6=>aS q (by have:=ab.next;omega)) ba ah).thenW ?_;rintro _ H2 b4 bj ⟨v,rfl,au,bm⟩;rw[QEc ag ah]at au;simp only[Qb,simprocAttr];have aW:frm (xs.map (·.f)) op m k=(Qle x.f op m).map (VY k):=by
    unfold frm;rw[LD,ak];rfl
   have bz:=QlF x.f op m;have b2:=aX k;refine QJF (Hs:=Hs) (Hc:=H') (acc:=acc++(List.range k).flatMap (frm (xs.map (·.f)) op m)) (cs:=Qle x.f op m) (out:=A' 5) (lv:=v) (k:=k) ab bm ax bj (by rw[Lh];omega) aj au ?_ ?_ ?_ ?_ λA3 H3 bn bo bp t1 t6 t7 aD aE=>?_
   ·simp only[Qg,simprocAttr]
   ·simp only[Qg,simprocAttr,ae]
   ·simp only[Qg,simprocAttr]
   ·simp only[uxA,uxB,Nat.reduceBEq];rfl
   ·simp only[Qg,simprocAttr,az,al,ad,am,ae]at t1 t6 t7 aD aE;simp only[Qb,simprocAttr,aE,aK];refine⟨xs.length - (k+1),by omega,k+1,by omega,rfl,bo,bp,?_,?_,?_,?_,?_,?_⟩
    all_goals simp only[Qg,simprocAttr,t1,t6,t7,aD]
    rw[R0,Bm,List.flatMap_singleton,aW,<- LQ];exact bn
  ·have aa:k=xs.length:=by have:=Ll aa;omega
   rw[aa]at aj;simp only[Qb,simprocAttr];refine aZ _ H' ?_ ab ax ?_ ?_ ?_ ?_
   all_goals simp only[Qg,simprocAttr,az,al,ad,am,aA,aB,aC]
   exact aj
section
variable {T:Qa->Prop} {L:Int->List Fm} (hT:∀H H',H.Wf->T H->Ext H H'->T H') (hR:∀op H,T H->Qe prog 33 [.int .i64 op] H λu H'=>QkX H H' u (L op)) (hC:∀op,∀f∈L op,Chk f∧Qec f=0)
include hT hR hC
theorem Qu8 {op:Int}{va:Value}{l:List Ar}(H:Qa)(aP:T H)(aw:Qt H va l)(az:l.length<=1000)(av:∀a∈l,I64 a.n):
  Qe prog 32 [.agg #[.int .i64 op,va]] H λu H'=>∃v,u=.tuple #[v,.int .i64 (QiG (L op) op l).2]∧Wa 41 H H' v (QiG (L op) op l).1∧Ext H H':=by
 refine QkJ λak=>?_;obtain⟨a0,cap,rfl⟩:=Qu aw;obtain⟨W,aa⟩:∃W,W=QiG (L op) op l:=⟨_,rfl⟩;rw[<- aa];unfold QiG at aa;simp only[Qdb,JL,simprocAttr];generalize ad:Qa.push H _=H1;have g1:H1.get H.next=some (.cells [.int .i64 op,.slice a0 l.length cap] 24 false):=by rw[<- ad,Qc,Lc rfl];rfl
 have aD:Ext H H1:=by rw[<- ad];exact(Ext.refl H).push _
 have aY:H1.Wf:=by rw[<- ad];exact ak.push _
 have bj:H1.next=H.next+1:=by rw[<- ad];rfl
 clear ad;simp only[Qb,simprocAttr,g1,Lw,List.take];refine(Qgk op _ l H1 (aw.ext ak aD) az av).thenW ?_;rintro _ _ aU aZ ⟨rfl,aI,rfl⟩;have aE:Ext H1 (H1.up aI):=(Ext.refl H1).up aU;generalize H1.up aI=H2 at *;have al:=aD.trans aE;have g2:H2.get H.next=some (.cells [.int .i64 op,.slice a0 l.length cap] 24 false):=by rw[aE.get _ (aY.lt g1)];exact g1
 simp only[Qb,simprocAttr];cases ay:QO op l==0 with
 | false=>
  rw[ay,Lc rfl]at aa;simp only[Qb,simprocAttr,LM,Kw];exact .mk al.next ⟨_,by rw[aa],by rw[aa];exact Wa.nil _ _ _,al⟩
 | true=>
  rw[ay,Le (by simp)]at aa;simp only[Qbe,Qb,simprocAttr,L8,g2,Lw,List.take];refine(Qpd H2 (aw.ext ak al) az av).thenW ?_;rintro sv H3 bk aB ⟨aV,aF⟩;have aG:=al.trans aF;have g3:H3.get H.next=some (.cells [.int .i64 op,.slice a0 l.length cap] 24 false):=by rw[aF.get _ (aZ.lt g2)];exact g2
  simp only[Qb,simprocAttr,g3];refine(hR op H3 (hT _ _ ak aP aG)).thenW ?_;rintro fv Hs bm aC ⟨am,ys,au,ba,bc,bb⟩;have aH:=aG.trans am;obtain⟨bo,aW⟩:=Qu6 (op:=op) av;have aN:VZ (L op) op l=(J8 op l).flatMap λm=>(List.range ys.length).flatMap (frm (L op) op m):=by unfold VZ;rw[<- au,Nn]
  have aA:Qwk Hs sv op (J8 op l):=by
   obtain⟨aM,ah,ai,aj⟩:=aV;exact⟨aM,ah,ai.ext aB am,λj s w e1 e2=>⟨((aj j s w e1 e2).1).ext aB am,λn bi=>(aj j s w e1 e2).2 n (by have:=am.next;omega)⟩⟩
  generalize J8 op l=sp at *;obtain⟨aK,sc,rfl⟩:∃a c,sv=.slice a sp.length c:=by
   obtain⟨aM,ah,ai,aj⟩:=aA;exact Qu ai
  have aQ:∀x∈ys,Chk x.f∧Qec x.f=0∧x.Fr 0:=λx ag=>by
   have:=hC op x.f (by rw[<- au];exact Rw ag);exact⟨this.1,this.2,(bb x ag).mono (L7 _)⟩
  have aS:∀m i,(frm (L op) op m i).length<=24:=λm i=>by
   unfold frm;split
   ·rw[Nn];exact QlF _ _ _
   ·simp
  have aR:∀n,((sp.take n).flatMap λm=>(List.range ys.length).flatMap (frm (L op) op m)).length<=2 * (ys.length * 24):=λn=>by
   have:=VJ (f:=λm=>(List.range ys.length).flatMap (frm (L op) op m)) (n:=ys.length * 24) (sp.take n) (λm _=>by
    have:=VJ (f:=frm (L op) op m) (n:=24) (List.range ys.length) (λa _=>aS m a);rw[BO]at this;exact this)
   have ab:(sp.take n).length<=2:=by rw[Sb];omega
   exact N8 this (Bs _ ab)
  simp only[Qb,simprocAttr];refine Qo (λq A' H'=>∃n:Nat,n<=sp.length∧q=sp.length - n∧Ext Hs H'∧H'.Wf∧Wa 41 Hs H' (A' 5) ((sp.take n).flatMap λm=>(List.range ys.length).flatMap (frm (L op) op m))∧A' 6=.slice aK sp.length sc∧A' 7=fv∧A' 8=.int .i64 n) sp.length ?_ ?_
  ·refine⟨0,L7 _,rfl,.refl _,aC,?_,?_,?_,?_⟩
   all_goals simp only[Qg,simprocAttr]
   ·rw[Rb,DG];exact Wa.nil _ _ _
   all_goals rfl
  ·rintro q A' H' ⟨n,bn,rfl,ag,aX,ae,ao,aJ,aq⟩;simp only[Qbd,Qb,simprocAttr,ao,aq];refine Qf (λab=>?_) (λab=>?_)
   ·have ab:n<sp.length:=by have:=Lg ab;omega
    obtain⟨m,ax⟩:∃m,sp[n]? = some m:=⟨_,La ab⟩;obtain⟨bh,aT⟩:=aW m (Ln ax);have aO:IntKind.i64.wrap ((n:Int)+1)=((n+1:Nat):Int):=by rw[w64 (by unfold I64;omega)];omega
    have bg:=aR n;simp only[Qbc,Qb,simprocAttr,ao,aq];refine QJG (Hs:=Hs) (sv:=.slice aK sp.length sc) (fv:=fv) (sp:=sp) (xs:=ys) (n:=n) (m:=m) (acc:=(sp.take n).flatMap λm=>(List.range ys.length).flatMap (frm (L op) op m)) aC bc ba.fms aQ aA ax (by omega) aT (by omega) ag aX ?_ ?_ ?_ ?_ ?_ λA3 H3' ah ai aj t1 t6 t7 aL=>?_
    ·simp only[Qg,simprocAttr];exact ae
    ·simp only[Qg,simprocAttr,ao]
    ·simp only[Qg,simprocAttr,aJ]
    ·simp only[Qg,simprocAttr,aq]
    ·simp only[uxA,uxB,Nat.reduceBEq];rfl
    ·simp only[Qg,simprocAttr,ao,aJ,aq]at t1 t6 t7 aL;rw[au]at ah;simp only[Qb,simprocAttr,aL,aO];refine⟨sp.length - (n+1),by omega,n+1,by omega,rfl,ai,aj,?_,?_,?_,?_⟩
     all_goals simp only[Qg,simprocAttr,t6,t7]
     rw[Nv,ax,RB,Bm,List.flatMap_singleton];exact ah
   ·have ab:n=sp.length:=by have:=Ll ab;omega
    rw[ab,Nr,<- aN]at ae;generalize VZ (L op) op l=Q at *;obtain⟨bp,ar⟩:∃v,A' 5=v:=⟨_,rfl⟩;rw[ar]at ae;obtain⟨a5,bd,rfl⟩:=ae.slc;have an:=aH.trans ag;simp only[Qa9,Qb,simprocAttr,ar];refine Qf (λh=>?_) (λh=>?_)
    ·have ac:Q=[]:=N2.1 (by simpa using h);rw[ac,Lc (show([]:List Ld).isEmpty=true from rfl)]at aa;simp only[Qb,simprocAttr,Kw];exact .mk an.next ⟨_,by rw[aa],by rw[aa];exact Wa.nil _ _ _,an⟩
    ·have ac:Q≠[]:=λac=>by rw[ac]at h;simp at h
     rw[Le (by simpa using ac)]at aa;simp only[Qb,simprocAttr,ar,Kw];exact .mk an.next ⟨_,by rw[aa],by rw[aa];exact ae.down aH.next,an⟩
end
section
variable {T:Qa->Prop} {L:Int->List Fm} (hT:∀H H',H.Wf->T H->Ext H H'->T H') (hR:∀op H,T H->Qe prog 33 [.int .i64 op] H λu H'=>QkX H H' u (L op)) (hC:∀op,∀f∈L op,Chk f∧Qec f=0)
include hT hR hC
end
end Go.Proofs.YtgepgbbjfhggfaaGreatDoor.code
