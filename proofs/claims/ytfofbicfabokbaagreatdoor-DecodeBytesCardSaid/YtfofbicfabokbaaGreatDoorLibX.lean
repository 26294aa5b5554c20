/- decode.find as a known call of closed runs. -/
import Derived.Test.YtfofbicfabokbaaGreatDoorLibA
import Derived.Test.YtfofbicfabokbaaGreatDoorLibY
import Derived.Test.YtfofbicfabokbaaGreatDoorLibF
import Derived.Test.YtfofbicfabokbaaGreatDoorLibZ
set_option linter.unusedVariables false
set_option linter.unusedSimpArgs false
set_option maxRecDepth 100000
noncomputable section
namespace Go.Proofs.YtfofbicfabokbaaGreatDoor.code
open Go.Ab
def QxK:Value->Option Int
 | .int .u8 n=>some n
 | _=>none
def XZ:List Value->Option (List Int)
 | []=>some []
 | v::l=>match QxK v,XZ l with
  | some n,some r=>some (n::r)
  | _,_=>none
theorem Qru:∀ {l:List Value} {bs:List Int},XZ l=some bs->l=QBJ bs
 | [],bs,h=>by cases h;rfl
 | v::l,bs,h=>by
  unfold XZ at h;cases h1:QxK v with
  | none=>rw[h1]at h;cases h
  | some n=>
   cases h2:XZ l with
   | none=>rw[h1,h2]at h;cases h
   | some r=>
    rw[h1,h2]at h;cases h;rw[Qru h2];unfold QxK at h1;split at h1
    ·cases h1;rfl
    ·cases h1
def Qv0 (G b id:Nat):Nat:=bif Nat.beq id G then b else id
theorem QyL (G b:Nat):Qv0 G b G=b:=by unfold Qv0;rw[JR];simp
theorem QyM {G b id:Nat} (h:¬id=G):Qv0 G b id=id:=by unfold Qv0;rw[JR];simp[h]
theorem QIi (G b:Nat):QbB (Qv0 G b) (G+1) G=some b:=by unfold QbB;rw[QgJ,QyL];simp
theorem QHG {σ:Nat->Option Nat} {a b o n cap:Nat} (h:σ a=some b):mtV σ 6 (.slice (some ⟨b,o,none⟩) n cap) (.slice (some ⟨a,o,none⟩) n cap)=true:=by
 show(Qzr (σ a) b&&Nat.beq o o&&Qg1 ⟨a,o,none⟩&&Nat.beq n n&&Nat.beq cap cap)=true;rw[h];simp[Qzr,Qg1]
def QxL (tabs:List Tab) (L:List Fm):CallF:=λf args H=>
 bif Nat.beq f QaA then(match args with
  | [.slice none 0 0]=>QvX tabs (Qg9 [] true 0 L) H
  | [.slice (some a) n cap]=>(match H.get a.block with
   | some (.cells c e ro)=>(match XZ ((c.drop a.off).take n) with
    | some bs=>bif QfR tabs H&&(Qg1 a&&(c.all plain&&(Nat.beq bs.length n&&Nat.ble n 100000))) then
      some (shW (shM (Qv0 prog.globals.size a.block) (prog.globals.size+1) H.next) 6 (Qz4 (prog.globals.size+1) (Qg9 bs true 0 L)),Jw (shM (Qv0 prog.globals.size a.block) (prog.globals.size+1) H.next) (Qbu (prog.globals.size+1) (Qg9 bs true 0 L)) H) else none
    | none=>none)
   | _=>none)
  | _=>none) else none
theorem Qz8 {tabs:List Tab} (ht:tabsOk tabs=true) (htab:∀t∈tabs,t.id<prog.globals.size) (hwf:(Wv prog.globals.size tabs).Wf) (htt:V0 tabs (Wv prog.globals.size tabs)) {L:List Fm} (hR:∀H,V0 tabs H->Qh prog XL [] H λu H'=>QiS H H' u L) (hty:QsH Yc)
  (he:entered prog QaA=true):CallOk prog (QxL tabs L):=by
 intro f args H v H' h;unfold QxL at h;cases b1:Nat.beq f QaA with
 | false=>rw[b1,Ls]at h;cases h
 | true=>
  rw[b1,Lq]at h;have:=LA b1;subst this;split at h
  ·exact Qrq ht htab hwf htt he rfl (λH hT=>Ql5 hR hty (.slice none 0 0) [] H hT ⟨none,0,rfl,λh=>by simp at h⟩ (by simp)) h
  ·rename_i a n cap;split at h
   ·rename_i c e ro hg;split at h
    ·rename_i bs hbs
     replace hbs:=Qru hbs
     cases hcnd:(QfR tabs H&&(Qg1 a&&(c.all plain&&(Nat.beq bs.length n&&Nat.ble n 100000)))) with
     | false=>rw[hcnd]at h;cases h
     | true=>
      rw[hcnd]at h;simp only[Lq,Lt,LB]at h;obtain⟨rfl,rfl⟩:=h;simp only[Lm,JR,Lv,BL]at hcnd;obtain⟨c1,c2,c3,c4,c5⟩:=hcnd;obtain⟨ab,ao,asp⟩:=a;have c2:=Qol c2;simp only at c2 hbs hg;subst c2;subst c4;refine .inl ⟨he,?_⟩;have hB:((Wv prog.globals.size tabs).push (.cells c e true)).next=prog.globals.size+1:=rfl;have hgB:((Wv prog.globals.size tabs).push (.cells c e true)).get prog.globals.size=some (.cells c e true):=by
       rw[Qi,Lc (show prog.globals.size=(Wv prog.globals.size tabs).next from rfl)]
      have hwB:=hwf.push (.cells c e true);have hTB:=Qeg _ _ hwf htt ((Ext.refl (Wv prog.globals.size tabs)).push (.cells c e true));have hba:QtG ((Wv prog.globals.size tabs).push (.cells c e true)) (.slice (some ⟨prog.globals.size,ao,none⟩) bs.length cap) bs:=by
       refine⟨_,_,rfl,λ_=>⟨_,_,c,e,true,rfl,hgB,λi hi=>?_⟩⟩;have:((c.drop ao).take bs.length)[i]? = some (.int .u8 (bs.getD i 0)):=by
        rw[hbs];simp[QBJ,List.getD,La hi]
       rw[Nl,Lc hi,Nk]at this;exact this
      obtain⟨u,H1,hc,_,_,hx,ys,hy1,hy2,_,hy3⟩:=Ql5 hR hty _ bs _ hTB hba c5 hwB;have hd:=hc.does he;have hp:=QsO hB hy2 hy3;rw[hy1]at hp;refine Qvw (B:=(Wv prog.globals.size tabs).push (.cells c e true)) hd (by rw[hB];omega) (λg hgl=>?_) hp (Qyu _ _) (Qrg _ _) H (λid b hb=>?_) ?_
      ·exact QyM (by omega)
      ·rw[Qi]at hb
       by_cases hid:id=(Wv prog.globals.size tabs).next
       ·rw[Lc hid]at hb;cases hb;refine⟨c,e,c,e,ro,rfl,?_,rfl,λj x y hx hy=>?_⟩
        ·have:id=prog.globals.size:=hid;rw[this,QyL];exact hg
        ·rw[hx]at hy;cases hy;exact QiN.plain (Li.1 c3 x (Ln hx))
       ·rw[Le hid]at hb;have hg':=QiM c1 id b hb;obtain⟨t,ht1,rfl,rfl⟩:=Y8 hb;have hne:¬t.id=prog.globals.size:=hid;refine⟨t.c,t.e,t.c,t.e,true,rfl,?_,rfl,λj x y hx hy=>?_⟩
        ·rw[QyM hne];exact hg'
        ·rw[hx]at hy;cases hy;exact QiN.plain (Li.1 (Li.1 ht t ht1) x (Ln hx))
      ·show(mtV (QbB (Qv0 prog.globals.size ab) (prog.globals.size+1)) 6 (.slice (some ⟨ab,ao,none⟩) bs.length cap) (.slice (some ⟨prog.globals.size,ao,none⟩) bs.length cap)&&true)=true;rw[QHG (QIi _ _)];rfl
    ·cases h
   ·cases h
  ·cases h
def QCt:Bool:=match prog.underlying Yc with
 | some (.map k e)=>(match prog.underlying k,prog.info? e with
  | some (.int _),some inf=>(match inf.zero with | some (.pointer none)=>true | _=>false)
  | _,_=>false)
 | _=>false
theorem QCu (h:QCt=true):QsH Yc:=by
 unfold QCt at h;split at h
 ·rename_i k e h1;split at h
  ·rename_i ik inf h2 h3;split at h
   ·rename_i h4;exact⟨⟨k,e,_,inf,h1,h2,h3,h4,λc=>rfl⟩⟩
   ·cases h
  ·cases h
 ·cases h
theorem QGL:QsH Yc:=QCu (by kernel_rfl)
def knF:CallF:=Zq knT (QxL tab.tabs Qib)
theorem QGM:CallOk prog knF:=orKnown_ok QGH (Qz8 tab.tabs_ok tab.tabs_low QpW QxJ QGI QGL (by kernel_rfl))
theorem QAb:Qti ((run prog knF 100000 5 60).fn W9 [] (Wv prog.globals.size tab.tabs))=true:=by kernel_rfl
theorem QEF (H:Qa) (hT:V0 tab.tabs H):Qh prog W9 [] H λu H'=>u=.bool true∧H'=H:=
 QCq tab.tabs_ok QGM (by kernel_rfl) QAb H hT
theorem QGQ:(Qib.all dfB)=true:=by kernel_rfl
theorem QEX {f:Fm} (hf:f∈Qib):DFm f:=QGr (Li.1 QGQ f hf)
theorem QsR {l:List Fm} (h:l.isEmpty=false):l≠[]:=λe=>by rw[e]at h;cases h
theorem QHH (H:Qa) (hT:V0 tab.tabs H):Qh prog Wt [] H λu H'=>QiS H H' u Qib:=
 Qlc Qeg H hT Qhe Qhf Qhg Qhh Qhi Qhj
  (QsR (by kernel_rfl)) (QsR (by kernel_rfl)) (QsR (by kernel_rfl)) (QsR (by kernel_rfl)) (QsR (by kernel_rfl)) (QsR (by kernel_rfl))
theorem QJW:(Qib.all QH6)=true:=by kernel_rfl
theorem QI9 (va:Value) (bs:List Int) (hby:Qnr bs) (H:Qa) (hT:V0 tab.tabs H) (hb:ByC H va bs):Qh prog QIj [va] H λu H'=>u=.bool true∧Ext H H':=
 QJv Qeg QHH QGI QGL QEF (λf=>Iff.rfl) (λf hf=>Li.1 QJW f hf) (λi k a b ha hb=>Qc5 ha hb) (λf hf=>QEX hf) va bs hby H hT hb
end Go.Proofs.YtfofbicfabokbaaGreatDoor.code
