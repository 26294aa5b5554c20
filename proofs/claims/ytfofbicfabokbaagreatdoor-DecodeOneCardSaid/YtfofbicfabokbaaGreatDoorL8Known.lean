/- table.Rows, table.Of and table.Match as known calls of closed runs. -/
import Derived.Test.YtfofbicfabokbaaGreatDoorLibA
import Derived.Test.YtfofbicfabokbaaGreatDoorAbD
import Derived.Test.YtfofbicfabokbaaGreatDoorAbC
set_option linter.unusedVariables false
set_option linter.unusedSimpArgs false
set_option maxRecDepth 100000
noncomputable section
namespace Go.Proofs.YtfofbicfabokbaaGreatDoor.code
open Go.Ab
def Qne (tabs:List Tab) (L:List Fm) (H:Qa):Option (Value×Qa):=
 bif G7 tabs H then some (shW (shM (fun n=>n) prog.globals.size H.next) 6 (QqM prog.globals.size L),X0 (shM (fun n=>n) prog.globals.size H.next) (Ji prog.globals.size L) H) else none
def Qo0 (tabs:List Tab) (LL:FuncId→List Fm):CallF:=fun f args H=>
 bif Nat.beq f Wg then(match args with | []=>Qne tabs (QaJ LL 1 322 (fun _=>true) lis) H | _=>none)
 else bif Nat.beq f Yb then(match args with | [.int .i64 op]=>Qne tabs (QaJ LL op op (fun x=>x.op==op) lis) H | _=>none)
 else none
theorem QwF (σ:Nat→Option Nat) (f:Nat) (k:IntKind) (n:Int):mtV σ (f+1) (.int k n) (.int k n)=true:=by simp[mtV,plain,Qal]
theorem QiZ {tabs:List Tab} (ht:tabsOk tabs=true) (htab:∀t∈tabs,t.id<prog.globals.size) (hwf:(QY prog.globals.size tabs).Wf) (htt:Kk tabs (QY prog.globals.size tabs)) {f:FuncId} {args:List Value} {L:List Fm} {H:Qa} {v:Value} {H':Qa} (he:entered prog f=true) (hpl:ZM (mtV (Jn (fun n=>n) prog.globals.size) 6) args args=true)
  (hq:∀H,Kk tabs H→Qf prog f args H fun u H'=>Qfi H H' u L) (hp:Qne tabs L H=some (v,H')):ZL prog f args H v H':=by
 unfold Qne at hp
 cases htb:G7 tabs H with
 | false=>rw[htb]at hp;cases hp
 | true=>
  rw[htb]at hp
  simp only[cond_true,Option.some.injEq,Prod.mk.injEq]at hp
  obtain⟨rfl,rfl⟩:=hp
  exact .inl ⟨he,QoD ht htab he hpl (fun H hn hT=>(hq H hT).mono fun u H' ⟨_,ys,h1,h2,_,h4⟩=>⟨ys,h1,h2,h4⟩) hwf htt htb⟩
theorem QqY {tabs:List Tab} (ht:tabsOk tabs=true) (htab:∀t∈tabs,t.id<prog.globals.size) (hwf:(QY prog.globals.size tabs).Wf) (htt:Kk tabs (QY prog.globals.size tabs)) (LL:FuncId→List Fm) (hL:∀x∈lis,QbM (Kk tabs) x.2.2 (LL x.2.2))
  (e1:entered prog Wg=true) (e2:entered prog Yb=true):CallOk prog (Qo0 tabs LL):=by
 intro f args H v H' h
 unfold Qo0 at h
 cases b1:Nat.beq f Wg with
 | true=>
  rw[b1,cond_true]at h
  have:=Nat.eq_of_beq_eq_true b1
  subst this
  split at h
  ·exact QiZ ht htab hwf htt e1 rfl (fun H hT=>Qfj Vl LL hL H hT) h
  ·cases h
 | false=>
  rw[b1,cond_false]at h
  cases b2:Nat.beq f Yb with
  | true=>
   rw[b2,cond_true]at h
   have:=Nat.eq_of_beq_eq_true b2
   subst this
   split at h
   ·exact QiZ ht htab hwf htt e2 (by simp only[ZM,QwF,Bool.and_self]) (fun H hT=>QiD Vl LL hL _ H hT) h
   ·cases h
  | false=>
   rw[b2,cond_false]at h
   cases h
theorem QsY {tabs:List Tab} (ht:tabsOk tabs=true) {kn:CallF} (hk:CallOk prog kn) {f:FuncId} (he:entered prog f=true) {F G k:Nat} (h:QkO ((run prog kn F G k).fn f [] (QY prog.globals.size tabs))=true) (H:Qa) (hT:Kk tabs H):Qf prog f [] H fun u H'=>u=.bool true∧H'=H:=by
 obtain⟨H1,hr⟩:=Qml h
 have hd:=((QjV hk k).fn f [] _ _ H1 hr).does he
 refine Qje he (Qqw (args:=[]) (args2:=[]) (τ:=fun n=>n) hd rfl (Nat.le_refl _) (fun _ _=>rfl) (fun id b hb=>?_) rfl fun j x y hx=>by simp at hx)
 have hg:=Qbc hT id b hb
 obtain⟨t,ht1,rfl,rfl⟩:=Xh hb
 refine⟨t.c,t.e,t.c,t.e,true,rfl,hg,rfl,fun j x y hx hy=>?_⟩
 rw[hx]at hy
 cases hy
 exact Qbd.plain (List.all_eq_true.1 (List.all_eq_true.1 ht t ht1) x (List.mem_of_getElem? hx))
end Go.Proofs.YtfofbicfabokbaaGreatDoor.code
