/- The code of the functions that are reached, resolved. -/
import Derived.Test.YtdnngempkifclaaGreatDoorProg
import Derived.KernelRfl
import Derived.Test.YtdnngempkifclaaGreatDoorC0Code
set_option linter.unusedVariables false
set_option maxRecDepth 100000
namespace Go.Proofs.YtdnngempkifclaaGreatDoor.code
open Go.Ab
noncomputable abbrev F_linotypelaw30_SweepLong : Func := Tryz.f4
theorem ret_linotypelaw30_SweepLong (H0 H : Heap) (k : Value → Heap → Prop) (A : Env) : Rt prog Tryz.f4 H0 k A H = Ret H0 k (A 4) H := rt_1 (by kernel_rfl) (by kernel_rfl)
noncomputable def pc_linotypelaw30_SweepLong : PC :=
  (.seq
   (.ops [⟨some 4, .mv (.const (.bool false)), none, false⟩])
   (.seq
    (.ops [⟨some 11, .mv (t 0), none, false⟩, ⟨some 12, .call f_linotypekit_Pick [(t 11), (.const (.int .i64 3))], none, false⟩, ⟨some 0, .mv (t 12), none, false⟩])
    (.seq
     (.seq
      (.ops [⟨some 13, .mv (t 1), none, false⟩, ⟨some 14, .bin .lss (t 13) (.const (.int .u8 6)), none, false⟩, ⟨some 15, .mv (t 14), none, false⟩, ⟨some 16, .mv (t 1), some (15, false), false⟩, ⟨some 17, .bin .gtr (t 16) (.const (.int .u8 7)), some (15, false), false⟩, ⟨some 18, .pick (t 15) (.const (.bool true)) (t 17), none, false⟩])
      (.cond (t 18)
       (.ops [⟨some 1, .mv (.const (.int .u8 6)), none, false⟩])
       .skip))
     (.seq
      (.ops [⟨some 19, .mv (t 0), none, false⟩, ⟨some 20, .bin .add (.const (.int .i64 65536)) (t 19), none, false⟩, ⟨some 21, .mkSl 5 1 1 [.int .u8 0] (t 20) (t 20), none, false⟩, ⟨some 5, .mv (t 21), none, false⟩])
      (.seq
       (.seq
        (.ops [⟨some 6, .mv (.const (.int .i64 0)), none, false⟩])
        (.block 0
         (.loop
          (.seq
           (.seq
            (.ops [⟨some 22, .mv (t 6), none, false⟩, ⟨some 23, .mv (t 5), none, false⟩, ⟨some 24, .lenS (t 23), none, false⟩, ⟨some 25, .bin .lss (t 22) (t 24), none, false⟩])
            (.cond (t 25)
             .skip
             (.exit 0)))
           (.seq
            (.block 1
             (.ops [⟨some 28, .mv (t 5), none, false⟩, ⟨some 29, .mv (t 6), none, false⟩, ⟨some 30, .mv (t 1), none, false⟩, ⟨some 31, .idxS 1 (t 28) (t 29), none, false⟩, ⟨none, .st 1 (t 31) (t 30), none, false⟩]))
            (.ops [⟨some 26, .mv (t 6), none, false⟩, ⟨some 27, .bin .add (t 26) (.const (.int .i64 1)), none, false⟩, ⟨some 6, .mv (t 27), none, false⟩]))))))
       (.seq
        (.seq
         (.ops [⟨some 32, .mv (t 0), none, false⟩, ⟨some 33, .bin .eql (t 32) (.const (.int .i64 0)), none, false⟩])
         (.cond (t 33)
          (.seq
           (.ops [⟨some 34, .call f_linotypelaw30_awake [], none, false⟩, ⟨some 4, .mv (t 34), none, false⟩])
           .ret)
          .skip))
        (.seq
         (.ops [⟨some 36, .mv (t 5), none, false⟩, ⟨some 37, .call f_sweep_Sweep [(t 36), (.const (.int .i64 0))], none, false⟩, ⟨some 35, .mv (t 37), none, false⟩, ⟨some 38, .ext (t 35) 0, none, false⟩, ⟨some 39, .ext (t 35) 1, none, false⟩, ⟨some 7, .mv (t 38), none, false⟩, ⟨some 8, .mv (t 39), none, false⟩])
         (.seq
          (.ops [⟨some 41, .mv (t 5), none, false⟩, ⟨some 42, .call f_sweep_Source [(t 41), (.const (.int .i64 0))], none, false⟩, ⟨some 40, .mv (t 42), none, false⟩, ⟨some 43, .ext (t 40) 0, none, false⟩, ⟨some 44, .ext (t 40) 1, none, false⟩, ⟨some 9, .mv (t 43), none, false⟩, ⟨some 10, .mv (t 44), none, false⟩])
          (.seq
           (.ops [⟨some 45, .call f_linotypelaw30_awake [], none, false⟩, ⟨some 46, .mv (t 45), none, false⟩, ⟨some 47, .mv (t 8), some (46, true), false⟩, ⟨some 48, .bin .eql (t 47) (.const (.int .i64 3)), some (46, true), false⟩, ⟨some 49, .pick (t 46) (t 48) (.const (.bool false)), none, false⟩, ⟨some 50, .mv (t 49), none, false⟩, ⟨some 51, .mv (t 10), some (50, true), false⟩, ⟨some 52, .bin .eql (t 51) (.const (.int .i64 3)), some (50, true), false⟩, ⟨some 53, .pick (t 50) (t 52) (.const (.bool false)), none, false⟩, ⟨some 54, .mv (t 53), none, false⟩, ⟨some 55, .mv (t 7), some (54, true), false⟩, ⟨some 56, .lenS (t 55), some (54, true), false⟩, ⟨some 57, .bin .eql (t 56) (.const (.int .i64 0)), some (54, true), false⟩, ⟨some 58, .pick (t 54) (t 57) (.const (.bool false)), none, false⟩, ⟨some 59, .mv (t 58), none, false⟩, ⟨some 60, .mv (t 9), some (59, true), false⟩, ⟨some 61, .bin .eql (t 60) (.const (.string (mkS []))), some (59, true), false⟩, ⟨some 62, .pick (t 59) (t 61) (.const (.bool false)), none, false⟩, ⟨some 63, .mv (t 62), none, false⟩, ⟨some 64, .mv (t 5), some (63, true), false⟩, ⟨some 65, .call f_sweep_Plain [(t 64)], some (63, true), false⟩, ⟨some 66, .not (t 65), some (63, true), false⟩, ⟨some 67, .pick (t 63) (t 66) (.const (.bool false)), none, false⟩, ⟨some 4, .mv (t 67), none, false⟩])
           .ret)))))))))
theorem comp_linotypelaw30_SweepLong : Tryz.f4.body.bind (comp prog Tryz.f4.ntmps) = some pc_linotypelaw30_SweepLong := by kernel_rfl
theorem in_linotypelaw30_SweepLong {a0 a1 : Value} {H : Heap} {k : Value → Heap → Prop} (h : H.Wf → pexec prog pc_linotypelaw30_SweepLong ⟨Rt prog Tryz.f4 H k, noEx⟩ (Rt prog Tryz.f4 H k) (upd (upd U 0 a0) 1 a1) H) : CallQ prog f_linotypelaw30_SweepLong [a0, a1] H k := call_in Tryz.func4 comp_linotypelaw30_SweepLong (by kernel_rfl) (by kernel_rfl) (env2 a0 a1) h
noncomputable abbrev F_sweep_Sweep : Func := Tryz.f17
theorem ret_sweep_Sweep (H0 H : Heap) (k : Value → Heap → Prop) (A : Env) : Rt prog Tryz.f17 H0 k A H = Ret H0 k (.tuple #[A 4, A 5]) H := rt_2 (by kernel_rfl) (by kernel_rfl)
noncomputable def pc_sweep_Sweep : PC :=
  (.seq
   (.ops [⟨some 4, .mv (.const (.slice none 0 0)), none, false⟩, ⟨some 5, .mv (.const (.int .i64 0)), none, false⟩])
   (.seq
    (.seq
     (.ops [⟨some 10, .mv (t 0), none, false⟩, ⟨some 11, .mv (t 1), none, false⟩, ⟨some 12, .call f_sweep_check [(t 10), (t 11)], none, false⟩, ⟨some 6, .mv (t 12), none, false⟩])
     (.seq
      (.ops [⟨some 13, .mv (t 6), none, false⟩, ⟨some 14, .bin .neq (t 13) (.const (.int .i64 0)), none, false⟩])
      (.cond (t 14)
       (.seq
        (.ops [⟨some 15, .mv (t 6), none, false⟩, ⟨some 4, .mv (.const (.slice none 0 0)), none, false⟩, ⟨some 5, .mv (t 15), none, false⟩])
        .ret)
       .skip)))
    (.seq
     (.ops [⟨some 7, .alloc 45 [.slice none 0 0], none, false⟩])
     (.seq
      (.seq
       (.ops [⟨some 16, .mv (t 0), none, false⟩, ⟨some 17, .mv (t 1), none, false⟩, ⟨some 18, .call f_sweep_pieces [(t 16), (t 17)], none, false⟩])
       (.block 0
        .bad))
      (.seq
       (.ops [⟨some 34, .ld false 1 (t 7), none, false⟩, ⟨some 4, .mv (t 34), none, false⟩, ⟨some 5, .mv (.const (.int .i64 0)), none, false⟩])
       .ret)))))
theorem comp_sweep_Sweep : Tryz.f17.body.bind (comp prog Tryz.f17.ntmps) = some pc_sweep_Sweep := by kernel_rfl
theorem in_sweep_Sweep {a0 a1 : Value} {H : Heap} {k : Value → Heap → Prop} (h : H.Wf → pexec prog pc_sweep_Sweep ⟨Rt prog Tryz.f17 H k, noEx⟩ (Rt prog Tryz.f17 H k) (upd (upd U 0 a0) 1 a1) H) : CallQ prog f_sweep_Sweep [a0, a1] H k := call_in Tryz.func17 comp_sweep_Sweep (by kernel_rfl) (by kernel_rfl) (env2 a0 a1) h
noncomputable abbrev F_sweep_Source : Func := Tryz.f18
theorem ret_sweep_Source (H0 H : Heap) (k : Value → Heap → Prop) (A : Env) : Rt prog Tryz.f18 H0 k A H = Ret H0 k (.tuple #[A 4, A 5]) H := rt_2 (by kernel_rfl) (by kernel_rfl)
noncomputable def pc_sweep_Source : PC :=
  (.seq
   (.ops [⟨some 4, .mv (.const (.string (mkS []))), none, false⟩, ⟨some 5, .mv (.const (.int .i64 0)), none, false⟩])
   (.seq
    (.seq
     (.ops [⟨some 10, .mv (t 0), none, false⟩, ⟨some 11, .mv (t 1), none, false⟩, ⟨some 12, .call f_sweep_check [(t 10), (t 11)], none, false⟩, ⟨some 6, .mv (t 12), none, false⟩])
     (.seq
      (.ops [⟨some 13, .mv (t 6), none, false⟩, ⟨some 14, .bin .neq (t 13) (.const (.int .i64 0)), none, false⟩])
      (.cond (t 14)
       (.seq
        (.ops [⟨some 15, .mv (t 6), none, false⟩, ⟨some 4, .mv (.const (.string (mkS []))), none, false⟩, ⟨some 5, .mv (t 15), none, false⟩])
        .ret)
       .skip)))
    (.seq
     (.ops [⟨some 7, .alloc T_strings_Builder [.pointer none, .slice none 0 0], none, false⟩])
     (.seq
      (.ops [⟨some 16, .mv (t 1), none, false⟩, ⟨some 17, .call f_literal_Hex [(t 16)], none, false⟩, ⟨some 18, .bin .add (.const (.string (mkS [111, 114, 103, 32]))) (t 17), none, false⟩, ⟨some 19, .bin .add (t 18) (.const (.string (mkS [10]))), none, false⟩, ⟨some 20, .call f_strings_Builder_WriteString [(t 7), (t 19)], none, false⟩])
      (.seq
       (.seq
        (.ops [⟨some 21, .mv (t 0), none, false⟩, ⟨some 22, .mv (t 1), none, false⟩, ⟨some 23, .call f_sweep_pieces [(t 21), (t 22)], none, false⟩])
        (.block 0
         .bad))
       (.seq
        (.ops [⟨some 31, .call f_strings_Builder_String [(t 7)], none, false⟩, ⟨some 4, .mv (t 31), none, false⟩, ⟨some 5, .mv (.const (.int .i64 0)), none, false⟩])
        .ret))))))
theorem comp_sweep_Source : Tryz.f18.body.bind (comp prog Tryz.f18.ntmps) = some pc_sweep_Source := by kernel_rfl
theorem in_sweep_Source {a0 a1 : Value} {H : Heap} {k : Value → Heap → Prop} (h : H.Wf → pexec prog pc_sweep_Source ⟨Rt prog Tryz.f18 H k, noEx⟩ (Rt prog Tryz.f18 H k) (upd (upd U 0 a0) 1 a1) H) : CallQ prog f_sweep_Source [a0, a1] H k := call_in Tryz.func18 comp_sweep_Source (by kernel_rfl) (by kernel_rfl) (env2 a0 a1) h
noncomputable abbrev F_sweep_Plain : Func := Tryz.f19
theorem ret_sweep_Plain (H0 H : Heap) (k : Value → Heap → Prop) (A : Env) : Rt prog Tryz.f19 H0 k A H = ldR false 1 (A 2) H fun v => Ret H0 k v H := rt_c (ty := 4) (by kernel_rfl) (by kernel_rfl) (by kernel_rfl)
noncomputable def pc_sweep_Plain : PC :=
  (.seq
   (.ops [⟨some 2, .alloc 4 [.bool false], none, false⟩])
   (.seq
    (.seq
     (.ops [⟨some 7, .mv (t 0), none, false⟩, ⟨some 8, .lenS (t 7), none, false⟩, ⟨some 9, .bin .gtr (t 8) (.const (.int .i64 65536)), none, false⟩])
     (.cond (t 9)
      (.seq
       (.ops [⟨none, .st 1 (t 2) (.const (.bool false)), none, false⟩])
       .ret)
      .skip))
    (.seq
     (.seq
      (.ops [⟨some 10, .mv (t 0), none, false⟩, ⟨some 11, .call f_sweep_pieces [(t 10), (.const (.int .i64 0))], none, false⟩])
      (.block 0
       .bad))
     (.seq
      (.ops [⟨none, .st 1 (t 2) (.const (.bool true)), none, false⟩])
      .ret))))
theorem comp_sweep_Plain : Tryz.f19.body.bind (comp prog Tryz.f19.ntmps) = some pc_sweep_Plain := by kernel_rfl
theorem in_sweep_Plain {a0 : Value} {H : Heap} {k : Value → Heap → Prop} (h : H.Wf → pexec prog pc_sweep_Plain ⟨Rt prog Tryz.f19 H k, noEx⟩ (Rt prog Tryz.f19 H k) (upd U 0 a0) H) : CallQ prog f_sweep_Plain [a0] H k := call_in Tryz.func19 comp_sweep_Plain (by kernel_rfl) (by kernel_rfl) (env1 a0) h
noncomputable abbrev F_sweep_check : Func := Tryz.f31
theorem ret_sweep_check (H0 H : Heap) (k : Value → Heap → Prop) (A : Env) : Rt prog Tryz.f31 H0 k A H = Ret H0 k (A 4) H := rt_1 (by kernel_rfl) (by kernel_rfl)
noncomputable def pc_sweep_check : PC :=
  (.seq
   (.ops [⟨some 4, .mv (.const (.int .i64 0)), none, false⟩])
   (.seq
    (.block 0
     (.seq
      (.ops [⟨some 6, .mv (t 0), none, false⟩, ⟨some 7, .lenS (t 6), none, false⟩, ⟨some 8, .bin .gtr (t 7) (.const (.int .i64 65536)), none, false⟩, ⟨some 5, .mv (t 8), none, false⟩])
      (.cond (t 5)
       (.seq
        (.ops [⟨some 4, .mv (.const (.int .i64 3)), none, false⟩])
        .ret)
       (.seq
        (.ops [⟨some 10, .mv (t 1), none, false⟩, ⟨some 11, .bin .lss (t 10) (.const (.int .i64 0)), none, false⟩, ⟨some 12, .mv (t 11), none, false⟩, ⟨some 13, .mv (t 1), some (12, false), false⟩, ⟨some 14, .bin .gtr (t 13) (.const (.int .i64 140737488355328)), some (12, false), false⟩, ⟨some 15, .pick (t 12) (.const (.bool true)) (t 14), none, false⟩, ⟨some 9, .mv (t 15), none, false⟩])
        (.cond (t 9)
         (.seq
          (.ops [⟨some 4, .mv (.const (.int .i64 5)), none, false⟩])
          .ret)
         .skip)))))
    (.seq
     (.ops [⟨some 4, .mv (.const (.int .i64 0)), none, false⟩])
     .ret)))
theorem comp_sweep_check : Tryz.f31.body.bind (comp prog Tryz.f31.ntmps) = some pc_sweep_check := by kernel_rfl
theorem in_sweep_check {a0 a1 : Value} {H : Heap} {k : Value → Heap → Prop} (h : H.Wf → pexec prog pc_sweep_check ⟨Rt prog Tryz.f31 H k, noEx⟩ (Rt prog Tryz.f31 H k) (upd (upd U 0 a0) 1 a1) H) : CallQ prog f_sweep_check [a0, a1] H k := call_in Tryz.func31 comp_sweep_check (by kernel_rfl) (by kernel_rfl) (env2 a0 a1) h
end Go.Proofs.YtdnngempkifclaaGreatDoor.code
