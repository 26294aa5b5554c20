/- decode.find as a known call of closed runs. -/
import Derived.Test.YtfofbicfabokbaaGreatDoorLibA
import Derived.Test.YtfofbicfabokbaaGreatDoorL8Known
set_option linter.unusedVariables false
set_option linter.unusedSimpArgs false
set_option maxRecDepth 100000
noncomputable section
namespace Go.Proofs.YtfofbicfabokbaaGreatDoor.code
open Go.Ab
def Qo2:Value→Option Int
 | .int .u8 n=>some n
 | _=>none
def Wz:List Value→Option (List Int)
 | []=>some []
 | v::l=>match Qo2 v,Wz l with
  | some n,some r=>some (n::r)
  | _,_=>none
theorem Qi3:∀ {l:List Value} {bs:List Int},Wz l=some bs→l=QsI bs
 | [],bs,h=>by cases h;rfl
 | v::l,bs,h=>by
  unfold Wz at h
  cases h1:Qo2 v with
  | none=>rw[h1]at h;cases h
  | some n=>
   cases h2:Wz l with
   | none=>rw[h1,h2]at h;cases h
   | some r=>
    rw[h1,h2]at h
    cases h
    rw[Qi3 h2]
    unfold Qo2 at h1
    split at h1
    ·cases h1;rfl
    ·cases h1
def Qng (G b id:Nat):Nat:=bif Nat.beq id G then b else id
theorem QpN (G b:Nat):Qng G b G=b:=by unfold Qng;rw[XG];simp
theorem QpO {G b id:Nat} (h:¬id=G):Qng G b id=id:=by unfold Qng;rw[XG];simp[h]
theorem QxK (G b:Nat):Jn (Qng G b) (G+1) G=some b:=by unfold Jn;rw[VN,QpN];simp
theorem Qxo {σ:Nat→Option Nat} {a b o n cap:Nat} (h:σ a=some b):mtV σ 6 (.slice (some ⟨b,o,none⟩) n cap) (.slice (some ⟨a,o,none⟩) n cap)=true:=by
 show(Qqu (σ a) b&&Nat.beq o o&&V7 ⟨a,o,none⟩&&Nat.beq n n&&Nat.beq cap cap)=true
 rw[h]
 simp[Qqu,V7]
def Qo3 (tabs:List Tab) (L:List Fm):CallF:=fun f args H=>
 bif Nat.beq f Yy then(match args with
  | [.slice none 0 0]=>Qne tabs (QV [] true 0 L) H
  | [.slice (some a) n cap]=>(match H.get a.block with
   | some (.cells c e ro)=>(match Wz ((c.drop a.off).take n) with
    | some bs=>bif G7 tabs H&&(V7 a&&(c.all plain&&(Nat.beq bs.length n&&Nat.ble n 100000))) then
      some (shW (shM (Qng prog.globals.size a.block) (prog.globals.size+1) H.next) 6 (QqM (prog.globals.size+1) (QV bs true 0 L)),X0 (shM (Qng prog.globals.size a.block) (prog.globals.size+1) H.next) (Ji (prog.globals.size+1) (QV bs true 0 L)) H) else none
    | none=>none)
   | _=>none)
  | _=>none) else none
theorem QqZ {tabs:List Tab} (ht:tabsOk tabs=true) (htab:∀t∈tabs,t.id<prog.globals.size) (hwf:(QY prog.globals.size tabs).Wf) (htt:Kk tabs (QY prog.globals.size tabs)) {L:List Fm} (hR:∀H,Kk tabs H→Qf prog Wg [] H fun u H'=>Qfi H H' u L) (hty:QiF Ws)
  (he:entered prog Yy=true):CallOk prog (Qo3 tabs L):=by
 intro f args H v H' h
 unfold Qo3 at h
 cases b1:Nat.beq f Yy with
 | false=>rw[b1,cond_false]at h;cases h
 | true=>
  rw[b1,cond_true]at h
  have:=Nat.eq_of_beq_eq_true b1
  subst this
  split at h
  ·exact QiZ ht htab hwf htt he rfl (fun H hT=>Qac hR hty (.slice none 0 0) [] H hT ⟨none,0,rfl,fun h=>by simp at h⟩ (by simp)) h
  ·rename_i a n cap
   split at h
   ·rename_i c e ro hg
    split at h
    ·rename_i bs hbs
     replace hbs:=Qi3 hbs
     cases hcnd:(G7 tabs H&&(V7 a&&(c.all plain&&(Nat.beq bs.length n&&Nat.ble n 100000)))) with
     | false=>rw[hcnd]at h;cases h
     | true=>
      rw[hcnd]at h
      simp only[cond_true,Option.some.injEq,Prod.mk.injEq]at h
      obtain⟨rfl,rfl⟩:=h
      simp only[Bool.and_eq_true,XG,decide_eq_true_eq,Nat.ble_eq]at hcnd
      obtain⟨c1,c2,c3,c4,c5⟩:=hcnd
      obtain⟨ab,ao,asp⟩:=a
      have c2:=QfX c2
      simp only at c2 hbs hg
      subst c2
      subst c4
      refine .inl ⟨he,?_⟩
      have hB:((QY prog.globals.size tabs).push (.cells c e true)).next=prog.globals.size+1:=rfl
      have hgB:((QY prog.globals.size tabs).push (.cells c e true)).get prog.globals.size=some (.cells c e true):=by
       rw[Qa.get_push,if_pos (show prog.globals.size=(QY prog.globals.size tabs).next from rfl)]
      have hwB:=hwf.push (.cells c e true)
      have hTB:=Vl _ _ hwf htt ((Ext.refl (QY prog.globals.size tabs)).push (.cells c e true))
      have hba:QiG ((QY prog.globals.size tabs).push (.cells c e true)) (.slice (some ⟨prog.globals.size,ao,none⟩) bs.length cap) bs:=by
       refine⟨_,_,rfl,fun _=>⟨_,_,c,e,true,rfl,hgB,fun i hi=>?_⟩⟩
       have:((c.drop ao).take bs.length)[i]? = some (.int .u8 (bs.getD i 0)):=by
        rw[hbs]
        simp[QsI,List.getD,List.getElem?_eq_getElem hi]
       rw[List.getElem?_take,if_pos hi,List.getElem?_drop]at this
       exact this
      obtain⟨u,H1,hc,_,_,hx,ys,hy1,hy2,_,hy3⟩:=Qac hR hty _ bs _ hTB hba c5 hwB
      have hd:=hc.does he
      have hp:=Qj8 hB hy2 hy3
      rw[hy1]at hp
      refine QmK (B:=(QY prog.globals.size tabs).push (.cells c e true)) hd (by rw[hB];omega) (fun g hgl=>?_) hp (Qpu _ _) (QiB _ _) H (fun id b hb=>?_) ?_
      ·exact QpO (by omega)
      ·rw[Qa.get_push]at hb
       by_cases hid:id=(QY prog.globals.size tabs).next
       ·rw[if_pos hid]at hb
        cases hb
        refine⟨c,e,c,e,ro,rfl,?_,rfl,fun j x y hx hy=>?_⟩
        ·have:id=prog.globals.size:=hid
         rw[this,QpN]
         exact hg
        ·rw[hx]at hy
         cases hy
         exact Qbd.plain (List.all_eq_true.1 c3 x (List.mem_of_getElem? hx))
       ·rw[if_neg hid]at hb
        have hg':=Qbc c1 id b hb
        obtain⟨t,ht1,rfl,rfl⟩:=Xh hb
        have hne:¬t.id=prog.globals.size:=hid
        refine⟨t.c,t.e,t.c,t.e,true,rfl,?_,rfl,fun j x y hx hy=>?_⟩
        ·rw[QpO hne]
         exact hg'
        ·rw[hx]at hy
         cases hy
         exact Qbd.plain (List.all_eq_true.1 (List.all_eq_true.1 ht t ht1) x (List.mem_of_getElem? hx))
      ·show(mtV (Jn (Qng prog.globals.size ab) (prog.globals.size+1)) 6 (.slice (some ⟨ab,ao,none⟩) bs.length cap) (.slice (some ⟨prog.globals.size,ao,none⟩) bs.length cap)&&true)=true
       rw[Qxo (QxK _ _)]
       rfl
    ·cases h
   ·cases h
  ·cases h
end Go.Proofs.YtfofbicfabokbaaGreatDoor.code
