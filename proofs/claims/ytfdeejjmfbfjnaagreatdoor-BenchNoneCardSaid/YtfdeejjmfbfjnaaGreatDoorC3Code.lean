/- The code of the functions that are reached, resolved. -/
import Derived.Test.YtfdeejjmfbfjnaaGreatDoorProg
import Derived.KernelRfl
import Derived.Test.YtfdeejjmfbfjnaaGreatDoorC0Code
set_option linter.unusedVariables false
set_option maxRecDepth 100000
namespace Go.Proofs.YtfdeejjmfbfjnaaGreatDoor.code
open Go.Ab
noncomputable abbrev F_linotypelaw32_BenchNone : Func := Tryz.f3
theorem ret_linotypelaw32_BenchNone (H0 H : Heap) (k : Value → Heap → Prop) (A : Env) : Rt prog Tryz.f3 H0 k A H = Ret H0 k (A 2) H := rt_1 (by kernel_rfl) (by kernel_rfl)
noncomputable def pc_linotypelaw32_BenchNone : PC :=
  (.seq
   (.ops [⟨some 2, .mv (.const (.bool false)), none, false⟩])
   (.seq
    (.seq
     (.ops [⟨some 5, .mv (t 0), none, false⟩, ⟨some 6, .lenT (t 5), none, false⟩, ⟨some 7, .bin .gtr (t 6) (.const (.int .i64 12000)), none, false⟩])
     (.cond (t 7)
      (.seq
       (.ops [⟨some 8, .call f_linotypelaw32_awake [], none, false⟩, ⟨some 2, .mv (t 8), none, false⟩])
       .ret)
      .skip))
    (.seq
     (.ops [⟨some 3, .mv (.const (.pointer none)), none, false⟩])
     (.seq
      (.ops [⟨some 9, .mv (t 3), none, false⟩, ⟨some 10, .build [.bool false, .slice none 0 0, .int .i64 0, .int .i64 0, .slice none 0 0, .slice none 0 0, .slice none 0 0, .bool false] [], none, false⟩, ⟨some 11, .box T_bench_Bench (t 10), none, false⟩, ⟨some 12, .bslice 23 1 2 [.pointer none, .pointer none] [(0, (t 9)), (1, (t 11))], none, false⟩, ⟨some 4, .mv (t 12), none, false⟩])
      (.seq
       (.ops [⟨some 13, .mv (t 4), none, false⟩, ⟨some 14, .idxS 1 (t 13) (.const (.int .i64 0)), none, false⟩, ⟨some 15, .ld false 1 (t 14), none, false⟩, ⟨some 16, .mv (t 0), none, false⟩, ⟨some 17, .call f_bench_Bench_Line [(t 15), (t 16)], none, false⟩, ⟨some 18, .lenS (t 17), none, false⟩, ⟨some 19, .bin .eql (t 18) (.const (.int .i64 0)), none, false⟩, ⟨some 20, .mv (t 19), none, false⟩, ⟨some 21, .mv (t 4), some (20, true), false⟩, ⟨some 22, .idxS 1 (t 21) (.const (.int .i64 1)), some (20, true), false⟩, ⟨some 23, .ld false 1 (t 22), some (20, true), false⟩, ⟨some 24, .mv (t 0), some (20, true), false⟩, ⟨some 25, .call f_bench_Bench_Line [(t 23), (t 24)], some (20, true), false⟩, ⟨some 26, .lenS (t 25), some (20, true), false⟩, ⟨some 27, .bin .eql (t 26) (.const (.int .i64 0)), some (20, true), false⟩, ⟨some 28, .pick (t 20) (t 27) (.const (.bool false)), none, false⟩, ⟨some 29, .mv (t 28), none, false⟩, ⟨some 30, .call f_linotypelaw32_awake [], some (29, true), false⟩, ⟨some 31, .pick (t 29) (t 30) (.const (.bool false)), none, false⟩, ⟨some 2, .mv (t 31), none, false⟩])
       .ret)))))
theorem comp_linotypelaw32_BenchNone : Tryz.f3.body.bind (comp prog Tryz.f3.ntmps) = some pc_linotypelaw32_BenchNone := by kernel_rfl
theorem in_linotypelaw32_BenchNone {a0 : Value} {H : Heap} {k : Value → Heap → Prop} (h : H.Wf → pexec prog pc_linotypelaw32_BenchNone ⟨Rt prog Tryz.f3 H k, noEx⟩ (Rt prog Tryz.f3 H k) (upd U 0 a0) H) : CallQ prog f_linotypelaw32_BenchNone [a0] H k := call_in Tryz.func3 comp_linotypelaw32_BenchNone (by kernel_rfl) (by kernel_rfl) (env1 a0) h
noncomputable abbrev F_linotypelaw32_awake : Func := Tryz.f5
theorem ret_linotypelaw32_awake (H0 H : Heap) (k : Value → Heap → Prop) (A : Env) : Rt prog Tryz.f5 H0 k A H = Ret H0 k (A 0) H := rt_1 (by kernel_rfl) (by kernel_rfl)
noncomputable def pc_linotypelaw32_awake : PC :=
  (.seq
   (.ops [⟨some 0, .mv (.const (.bool false)), none, false⟩])
   (.seq
    (.ops [⟨some 2, .call f_bench_New [], none, false⟩, ⟨some 1, .mv (t 2), none, false⟩])
    (.seq
     (.ops [⟨some 3, .mv (t 1), none, false⟩, ⟨some 4, .gen (.binOp .neq 23 (t 3) (.const (.pointer none)) 23), none, false⟩, ⟨some 5, .mv (t 4), none, false⟩, ⟨some 6, .mv (t 1), some (5, true), false⟩, ⟨some 7, .bslice 9 1 1 [.string (mkS [])] [(0, (.const (.string (mkS [110, 111, 110, 101]))))], some (5, true), false⟩, ⟨some 8, .call f_linotypelaw32_says [(t 6), (.const (.string (mkS [105, 109, 97, 103, 101]))), (t 7)], some (5, true), false⟩, ⟨some 9, .pick (t 5) (t 8) (.const (.bool false)), none, false⟩, ⟨some 10, .mv (t 9), none, false⟩, ⟨some 11, .mv (t 1), some (10, true), false⟩, ⟨some 12, .bslice 9 1 1 [.string (mkS [])] [(0, (.const (.string (mkS [56, 51, 99, 48, 48, 53]))))], some (10, true), false⟩, ⟨some 13, .call f_linotypelaw32_says [(t 11), (.const (.string (mkS [101, 110, 99, 32, 97, 100, 100, 32, 101, 97, 120, 44, 32, 53]))), (t 12)], some (10, true), false⟩, ⟨some 14, .pick (t 10) (t 13) (.const (.bool false)), none, false⟩, ⟨some 15, .mv (t 14), none, false⟩, ⟨some 16, .mv (t 1), some (15, true), false⟩, ⟨some 17, .bslice 9 1 1 [.string (mkS [])] [(0, (.const (.string (mkS [111, 107]))))], some (15, true), false⟩, ⟨some 18, .call f_linotypelaw32_says [(t 16), (.const (.string (mkS [108, 105, 110, 101, 32, 110, 111, 112]))), (t 17)], some (15, true), false⟩, ⟨some 19, .pick (t 15) (t 18) (.const (.bool false)), none, false⟩, ⟨some 20, .mv (t 19), none, false⟩, ⟨some 21, .mv (t 1), some (20, true), false⟩, ⟨some 22, .bslice 9 1 1 [.string (mkS [])] [(0, (.const (.string (mkS [111, 107]))))], some (20, true), false⟩, ⟨some 23, .call f_linotypelaw32_says [(t 21), (.const (.string (mkS [108, 105, 110, 101, 32, 97, 58, 32, 106, 109, 112, 32, 97]))), (t 22)], some (20, true), false⟩, ⟨some 24, .pick (t 20) (t 23) (.const (.bool false)), none, false⟩, ⟨some 25, .mv (t 24), none, false⟩, ⟨some 26, .mv (t 1), some (25, true), false⟩, ⟨some 27, .bslice 9 1 1 [.string (mkS [])] [(0, (.const (.string (mkS [111, 107, 32, 51]))))], some (25, true), false⟩, ⟨some 28, .call f_linotypelaw32_says [(t 26), (.const (.string (mkS [98, 117, 105, 108, 100]))), (t 27)], some (25, true), false⟩, ⟨some 29, .pick (t 25) (t 28) (.const (.bool false)), none, false⟩, ⟨some 30, .mv (t 29), none, false⟩, ⟨some 31, .mv (t 1), some (30, true), false⟩, ⟨some 32, .bslice 9 1 1 [.string (mkS [])] [(0, (.const (.string (mkS [57, 48, 101, 98, 102, 101]))))], some (30, true), false⟩, ⟨some 33, .call f_linotypelaw32_says [(t 31), (.const (.string (mkS [105, 109, 97, 103, 101]))), (t 32)], some (30, true), false⟩, ⟨some 34, .pick (t 30) (t 33) (.const (.bool false)), none, false⟩, ⟨some 35, .mv (t 34), none, false⟩, ⟨some 36, .mv (t 1), some (35, true), false⟩, ⟨some 37, .bslice 9 1 1 [.string (mkS [])] [(0, (.const (.string (mkS [51, 32, 97, 100, 100, 32, 101, 97, 120, 44, 32, 48, 120, 53]))))], some (35, true), false⟩, ⟨some 38, .call f_linotypelaw32_says [(t 36), (.const (.string (mkS [100, 101, 99, 32, 56, 51, 99, 48, 48, 53]))), (t 37)], some (35, true), false⟩, ⟨some 39, .pick (t 35) (t 38) (.const (.bool false)), none, false⟩, ⟨some 0, .mv (t 39), none, false⟩])
     .ret)))
theorem comp_linotypelaw32_awake : Tryz.f5.body.bind (comp prog Tryz.f5.ntmps) = some pc_linotypelaw32_awake := by kernel_rfl
theorem in_linotypelaw32_awake {H : Heap} {k : Value → Heap → Prop} (h : H.Wf → pexec prog pc_linotypelaw32_awake ⟨Rt prog Tryz.f5 H k, noEx⟩ (Rt prog Tryz.f5 H k) U H) : CallQ prog f_linotypelaw32_awake [] H k := call_in Tryz.func5 comp_linotypelaw32_awake (by kernel_rfl) (by kernel_rfl) env0 h
noncomputable abbrev F_bench_Bench_Line : Func := Tryz.f6
theorem ret_bench_Bench_Line (H0 H : Heap) (k : Value → Heap → Prop) (A : Env) : Rt prog Tryz.f6 H0 k A H = Ret H0 k (A 4) H := rt_1 (by kernel_rfl) (by kernel_rfl)
noncomputable def pc_bench_Bench_Line : PC :=
  (.seq
   (.ops [⟨some 4, .mv (.const (.slice none 0 0)), none, false⟩])
   (.scope
    (.seq
     (.seq
      (.ops [⟨some 11, .mv (t 0), none, false⟩, ⟨some 12, .gen (.binOp .eql 23 (t 11) (.const (.pointer none)) 23), none, false⟩, ⟨some 13, .mv (t 12), none, false⟩, ⟨some 14, .mv (t 0), some (13, false), false⟩, ⟨some 15, .gen (.nilCheck (t 14)), some (13, false), false⟩, ⟨some 16, .fldA 0 (t 15), some (13, false), false⟩, ⟨some 17, .ld false 1 (t 16), some (13, false), false⟩, ⟨some 18, .not (t 17), some (13, false), false⟩, ⟨some 19, .pick (t 13) (.const (.bool true)) (t 18), none, false⟩])
      (.cond (t 19)
       (.seq
        (.ops [⟨some 4, .mv (.const (.slice none 0 0)), none, false⟩])
        .ret)
       .skip))
     (.seq
      (.seq
       (.ops [⟨some 20, .mv (t 1), none, false⟩, ⟨some 21, .lenT (t 20), none, false⟩, ⟨some 22, .bin .gtr (t 21) (.const (.int .i64 10000)), none, false⟩])
       (.cond (t 22)
        (.seq
         (.ops [⟨some 23, .bslice 9 1 1 [.string (mkS [])] [(0, (.const (.string (mkS [117, 110, 107, 110, 111, 119, 110]))))], none, false⟩, ⟨some 4, .mv (t 23), none, false⟩])
         .ret)
        .skip))
      (.seq
       (.ops [⟨some 25, .mv (t 1), none, false⟩, ⟨some 26, .call f_strings_Cut [(t 25), (.const (.string (mkS [32])))], none, false⟩, ⟨some 24, .mv (t 26), none, false⟩, ⟨some 27, .ext (t 24) 0, none, false⟩, ⟨some 28, .ext (t 24) 1, none, false⟩, ⟨some 29, .ext (t 24) 2, none, false⟩, ⟨some 5, .mv (t 27), none, false⟩, ⟨some 6, .mv (t 28), none, false⟩, ⟨some 7, .mv (t 29), none, false⟩])
       (.seq
        (.label 0)
        (.seq
         (.seq
          (.ops [⟨some 30, .call f_bench_commands [], none, false⟩, ⟨some 31, .lenS (t 30), none, false⟩, ⟨some 32, .mv (.const (.int .i64 0)), none, false⟩])
          (.block 0
           (.loop
            (.seq
             (.ops [⟨some 33, .bin .lss (t 32) (t 31), none, false⟩])
             (.seq
              (.cond (t 33)
               .skip
               (.exit 0))
              (.seq
               (.block 1
                (.seq
                 (.ops [⟨some 34, .idxS 3 (t 30) (t 32), none, false⟩, ⟨some 35, .ld true 3 (t 34), none, false⟩, ⟨some 9, .alloc T_bench_command [.string (mkS []), .bool false, .nilFunc], none, false⟩, ⟨none, .st 3 (t 9) (t 35), none, false⟩])
                 (.seq
                  (.seq
                   (.ops [⟨some 36, .fldA 0 (t 9), none, false⟩, ⟨some 37, .ld false 1 (t 36), none, false⟩, ⟨some 38, .mv (t 5), none, false⟩, ⟨some 39, .bin .neq (t 37) (t 38), none, false⟩, ⟨some 40, .mv (t 39), none, false⟩, ⟨some 41, .mv (t 7), some (40, false), false⟩, ⟨some 42, .mv (t 41), some (40, false), false⟩, ⟨some 43, .fldA 1 (t 9), some (42, true), false⟩, ⟨some 44, .ld false 1 (t 43), some (42, true), false⟩, ⟨some 45, .not (t 44), some (42, true), false⟩, ⟨some 46, .pick (t 42) (t 45) (.const (.bool false)), some (40, false), false⟩, ⟨some 47, .pick (t 40) (.const (.bool true)) (t 46), none, false⟩])
                   (.cond (t 47)
                    (.exit 1)
                    .skip))
                  (.seq
                   (.ops [⟨some 48, .fldA 2 (t 9), none, false⟩, ⟨some 49, .ld false 1 (t 48), none, false⟩, ⟨some 50, .mv (t 0), none, false⟩, ⟨some 51, .mv (t 6), none, false⟩, ⟨some 52, .callv (t 49) [(t 50), (t 51)], none, false⟩, ⟨some 10, .mv (t 52), none, false⟩])
                   (.seq
                    (.ops [⟨some 53, .mv (t 10), none, false⟩, ⟨some 54, .lenS (t 53), none, false⟩, ⟨some 55, .bin .gtr (t 54) (.const (.int .i64 0)), none, false⟩])
                    (.cond (t 55)
                     (.seq
                      (.ops [⟨some 56, .mv (t 10), none, false⟩, ⟨some 4, .mv (t 56), none, false⟩])
                      .ret)
                     .skip))))))
               (.ops [⟨some 57, .bin .add (t 32) (.const (.int .i64 1)), none, false⟩, ⟨some 32, .mv (t 57), none, false⟩])))))))
         (.seq
          (.ops [⟨some 58, .bslice 9 1 1 [.string (mkS [])] [(0, (.const (.string (mkS [117, 110, 107, 110, 111, 119, 110]))))], none, false⟩, ⟨some 4, .mv (t 58), none, false⟩])
          .ret)))))) 0
    (.seq
     (.seq
      (.ops [⟨some 30, .call f_bench_commands [], none, false⟩, ⟨some 31, .lenS (t 30), none, false⟩, ⟨some 32, .mv (.const (.int .i64 0)), none, false⟩])
      (.block 0
       (.loop
        (.seq
         (.ops [⟨some 33, .bin .lss (t 32) (t 31), none, false⟩])
         (.seq
          (.cond (t 33)
           .skip
           (.exit 0))
          (.seq
           (.block 1
            (.seq
             (.ops [⟨some 34, .idxS 3 (t 30) (t 32), none, false⟩, ⟨some 35, .ld true 3 (t 34), none, false⟩, ⟨some 9, .alloc T_bench_command [.string (mkS []), .bool false, .nilFunc], none, false⟩, ⟨none, .st 3 (t 9) (t 35), none, false⟩])
             (.seq
              (.seq
               (.ops [⟨some 36, .fldA 0 (t 9), none, false⟩, ⟨some 37, .ld false 1 (t 36), none, false⟩, ⟨some 38, .mv (t 5), none, false⟩, ⟨some 39, .bin .neq (t 37) (t 38), none, false⟩, ⟨some 40, .mv (t 39), none, false⟩, ⟨some 41, .mv (t 7), some (40, false), false⟩, ⟨some 42, .mv (t 41), some (40, false), false⟩, ⟨some 43, .fldA 1 (t 9), some (42, true), false⟩, ⟨some 44, .ld false 1 (t 43), some (42, true), false⟩, ⟨some 45, .not (t 44), some (42, true), false⟩, ⟨some 46, .pick (t 42) (t 45) (.const (.bool false)), some (40, false), false⟩, ⟨some 47, .pick (t 40) (.const (.bool true)) (t 46), none, false⟩])
               (.cond (t 47)
                (.exit 1)
                .skip))
              (.seq
               (.ops [⟨some 48, .fldA 2 (t 9), none, false⟩, ⟨some 49, .ld false 1 (t 48), none, false⟩, ⟨some 50, .mv (t 0), none, false⟩, ⟨some 51, .mv (t 6), none, false⟩, ⟨some 52, .callv (t 49) [(t 50), (t 51)], none, false⟩, ⟨some 10, .mv (t 52), none, false⟩])
               (.seq
                (.ops [⟨some 53, .mv (t 10), none, false⟩, ⟨some 54, .lenS (t 53), none, false⟩, ⟨some 55, .bin .gtr (t 54) (.const (.int .i64 0)), none, false⟩])
                (.cond (t 55)
                 (.seq
                  (.ops [⟨some 56, .mv (t 10), none, false⟩, ⟨some 4, .mv (t 56), none, false⟩])
                  .ret)
                 .skip))))))
           (.ops [⟨some 57, .bin .add (t 32) (.const (.int .i64 1)), none, false⟩, ⟨some 32, .mv (t 57), none, false⟩])))))))
     (.seq
      (.ops [⟨some 58, .bslice 9 1 1 [.string (mkS [])] [(0, (.const (.string (mkS [117, 110, 107, 110, 111, 119, 110]))))], none, false⟩, ⟨some 4, .mv (t 58), none, false⟩])
      .ret))))
theorem comp_bench_Bench_Line : Tryz.f6.body.bind (comp prog Tryz.f6.ntmps) = some pc_bench_Bench_Line := by kernel_rfl
theorem in_bench_Bench_Line {a0 a1 : Value} {H : Heap} {k : Value → Heap → Prop} (h : H.Wf → pexec prog pc_bench_Bench_Line ⟨Rt prog Tryz.f6 H k, noEx⟩ (Rt prog Tryz.f6 H k) (upd (upd U 0 a0) 1 a1) H) : CallQ prog f_bench_Bench_Line [a0, a1] H k := call_in Tryz.func6 comp_bench_Bench_Line (by kernel_rfl) (by kernel_rfl) (env2 a0 a1) h
end Go.Proofs.YtfdeejjmfbfjnaaGreatDoor.code
