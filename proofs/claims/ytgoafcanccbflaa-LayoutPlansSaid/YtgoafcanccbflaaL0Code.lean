/- The code of the functions that are reached, resolved. -/
import Derived.Test.YtgoafcanccbflaaProg
import Derived.KernelRfl
import Derived.Test.YtgoafcanccbflaaAbSx
set_option linter.unusedVariables false
set_option maxRecDepth 100000
namespace Go.Proofs.Ytgoafcanccbflaa.lay
open Go.Ab
theorem ret2 (H0 H : Heap) (k : Value → Heap → Prop) (A : Env) : Rt Try.prog Try.f2 H0 k A H = Ret H0 k (.tuple #[]) H := rt_0 (by kernel_rfl)
/-- gosem.cut.init -/
noncomputable def pc2 : PC :=
  (.ops [⟨some 0, .call 1 [], none, false⟩])
theorem comp2 : Try.f2.body.bind (comp Try.prog Try.f2.ntmps) = some pc2 := by kernel_rfl
theorem in2 {H : Heap} {k : Value → Heap → Prop} (h : H.Wf → pexec Try.prog pc2 ⟨Rt Try.prog Try.f2 H k, noEx⟩ (Rt Try.prog Try.f2 H k) U H) : CallQ Try.prog 2 [] H k := call_in Try.func2 comp2 (by kernel_rfl) (by kernel_rfl) env0 h
theorem ret3 (H0 H : Heap) (k : Value → Heap → Prop) (A : Env) : Rt Try.prog Try.f3 H0 k A H = Ret H0 k (A 4) H := rt_1 (by kernel_rfl) (by kernel_rfl)
/-- linotype/linotypelaw27.LayoutPlans -/
noncomputable def pc3 : PC :=
  (.seq
   (.ops [⟨some 4, .mv (.const (.bool false)), none, false⟩])
   (.seq
    (.seq
     (.ops [⟨some 11, .mv (t 0), none, false⟩, ⟨some 12, .lenS (t 11), none, false⟩, ⟨some 13, .bin .gtr (t 12) (.const (.int .i64 200)), none, false⟩])
     (.cond (t 13)
      (.seq
       (.ops [⟨some 4, .mv (.const (.bool true)), none, false⟩])
       .ret)
      .skip))
    (.seq
     (.ops [⟨some 14, .mv (t 0), none, false⟩, ⟨some 15, .call 8 [(t 14)], none, false⟩, ⟨some 5, .mv (t 15), none, false⟩])
     (.seq
      (.ops [⟨some 17, .mv (t 5), none, false⟩, ⟨some 18, .mv (t 1), none, false⟩, ⟨some 19, .call 9 [(t 17), (t 18)], none, false⟩, ⟨some 16, .mv (t 19), none, false⟩, ⟨some 20, .ext (t 16) 0, none, false⟩, ⟨some 21, .ext (t 16) 1, none, false⟩, ⟨some 6, .alloc 27 [.slice none 0 0, .slice none 0 0, .int .i64 0], none, false⟩, ⟨none, .st 3 (t 6) (t 20), none, false⟩, ⟨some 7, .mv (t 21), none, false⟩])
      (.seq
       (.ops [⟨some 23, .mv (t 0), none, false⟩, ⟨some 24, .mv (t 1), none, false⟩, ⟨some 25, .call 10 [(t 23), (t 24)], none, false⟩, ⟨some 22, .mv (t 25), none, false⟩, ⟨some 26, .ext (t 22) 0, none, false⟩, ⟨some 27, .ext (t 22) 1, none, false⟩, ⟨some 8, .alloc 27 [.slice none 0 0, .slice none 0 0, .int .i64 0], none, false⟩, ⟨none, .st 3 (t 8) (t 26), none, false⟩, ⟨some 9, .mv (t 27), none, false⟩])
       (.seq
        (.ops [⟨some 28, .ld true 3 (t 6), none, false⟩, ⟨some 29, .ld true 3 (t 8), none, false⟩, ⟨some 30, .call 11 [(t 28), (t 29)], none, false⟩, ⟨some 31, .mv (t 30), none, false⟩, ⟨some 32, .mv (t 7), some (31, true), false⟩, ⟨some 33, .mv (t 9), some (31, true), false⟩, ⟨some 34, .bin .eql (t 32) (t 33), some (31, true), false⟩, ⟨some 35, .pick (t 31) (t 34) (.const (.bool false)), none, false⟩, ⟨some 36, .mv (t 35), none, false⟩, ⟨some 37, .mv (t 5), some (36, true), false⟩, ⟨some 38, .call 12 [(t 37)], some (36, true), false⟩, ⟨some 39, .mv (t 0), some (36, true), false⟩, ⟨some 40, .call 13 [(t 39)], some (36, true), false⟩, ⟨some 41, .bin .eql (t 38) (t 40), some (36, true), false⟩, ⟨some 42, .pick (t 36) (t 41) (.const (.bool false)), none, false⟩, ⟨some 43, .mv (t 42), none, false⟩, ⟨some 44, .mv (t 5), some (43, true), false⟩, ⟨some 45, .mv (t 0), some (43, true), false⟩, ⟨some 46, .call 14 [(t 44), (t 45)], some (43, true), false⟩, ⟨some 47, .pick (t 43) (t 46) (.const (.bool false)), none, false⟩, ⟨some 10, .mv (t 47), none, false⟩])
        (.seq
         (.ops [⟨some 48, .ld true 3 (t 6), none, false⟩, ⟨some 49, .call 15 [(t 48)], none, false⟩])
         (.seq
          (.ops [⟨some 50, .mv (t 10), none, false⟩, ⟨some 51, .mv (t 50), none, false⟩, ⟨some 52, .call 16 [], some (51, true), false⟩, ⟨some 53, .pick (t 51) (t 52) (.const (.bool false)), none, false⟩, ⟨some 4, .mv (t 53), none, false⟩])
          .ret))))))))
theorem comp3 : Try.f3.body.bind (comp Try.prog Try.f3.ntmps) = some pc3 := by kernel_rfl
theorem in3 {a0 a1 : Value} {H : Heap} {k : Value → Heap → Prop} (h : H.Wf → pexec Try.prog pc3 ⟨Rt Try.prog Try.f3 H k, noEx⟩ (Rt Try.prog Try.f3 H k) (upd (upd U 0 a0) 1 a1) H) : CallQ Try.prog 3 [a0, a1] H k := call_in Try.func3 comp3 (by kernel_rfl) (by kernel_rfl) (env2 a0 a1) h
theorem ret4 (H0 H : Heap) (k : Value → Heap → Prop) (A : Env) : Rt Try.prog Try.f4 H0 k A H = Ret H0 k (A 6) H := rt_1 (by kernel_rfl) (by kernel_rfl)
/-- linotype/linotypelaw27.LayoutMoves -/
noncomputable def pc4 : PC :=
  (.seq
   (.ops [⟨some 6, .mv (.const (.bool false)), none, false⟩])
   (.seq
    (.ops [⟨some 14, .call 16 [], none, false⟩, ⟨some 7, .mv (t 14), none, false⟩])
    (.seq
     (.seq
      (.ops [⟨some 15, .mv (t 0), none, false⟩, ⟨some 16, .lenS (t 15), none, false⟩, ⟨some 17, .bin .gtr (t 16) (.const (.int .i64 200)), none, false⟩])
      (.cond (t 17)
       (.seq
        (.ops [⟨some 18, .mv (t 7), none, false⟩, ⟨some 6, .mv (t 18), none, false⟩])
        .ret)
       .skip))
     (.seq
      (.seq
       (.ops [⟨some 8, .mv (.const (.int .i64 0)), none, false⟩])
       (.block 0
        (.loop
         (.seq
          (.seq
           (.ops [⟨some 19, .mv (t 8), none, false⟩, ⟨some 20, .mv (t 0), none, false⟩, ⟨some 21, .lenS (t 20), none, false⟩, ⟨some 22, .bin .lss (t 19) (t 21), none, false⟩])
           (.cond (t 22)
            .skip
            (.exit 0)))
          (.seq
           (.block 1
            (.seq
             (.ops [⟨some 25, .mv (t 0), none, false⟩, ⟨some 26, .mv (t 8), none, false⟩, ⟨some 27, .idxS 7 (t 25) (t 26), none, false⟩, ⟨some 28, .fldA 0 (t 27), none, false⟩, ⟨some 29, .ld false 1 (t 28), none, false⟩, ⟨some 30, .bin .eql (t 29) (.const (.int .i64 3)), none, false⟩])
             (.cond (t 30)
              (.seq
               (.ops [⟨some 31, .mv (t 7), none, false⟩, ⟨some 6, .mv (t 31), none, false⟩])
               .ret)
              .skip)))
           (.ops [⟨some 23, .mv (t 8), none, false⟩, ⟨some 24, .bin .add (t 23) (.const (.int .i64 1)), none, false⟩, ⟨some 8, .mv (t 24), none, false⟩]))))))
      (.seq
       (.ops [⟨some 32, .mv (t 1), none, false⟩, ⟨some 33, .call 17 [(t 32), (.const (.int .i64 140737488355328))], none, false⟩, ⟨some 34, .mv (t 2), none, false⟩, ⟨some 35, .call 17 [(t 34), (.const (.int .i64 140737488355328))], none, false⟩, ⟨some 1, .mv (t 33), none, false⟩, ⟨some 2, .mv (t 35), none, false⟩])
       (.seq
        (.ops [⟨some 37, .mv (t 0), none, false⟩, ⟨some 38, .mv (t 1), none, false⟩, ⟨some 39, .call 9 [(t 37), (t 38)], none, false⟩, ⟨some 36, .mv (t 39), none, false⟩, ⟨some 40, .ext (t 36) 0, none, false⟩, ⟨some 41, .ext (t 36) 1, none, false⟩, ⟨some 9, .alloc 27 [.slice none 0 0, .slice none 0 0, .int .i64 0], none, false⟩, ⟨none, .st 3 (t 9) (t 40), none, false⟩, ⟨some 10, .mv (t 41), none, false⟩])
        (.seq
         (.ops [⟨some 43, .mv (t 0), none, false⟩, ⟨some 44, .mv (t 2), none, false⟩, ⟨some 45, .call 9 [(t 43), (t 44)], none, false⟩, ⟨some 42, .mv (t 45), none, false⟩, ⟨some 46, .ext (t 42) 0, none, false⟩, ⟨some 47, .ext (t 42) 1, none, false⟩, ⟨some 11, .alloc 27 [.slice none 0 0, .slice none 0 0, .int .i64 0], none, false⟩, ⟨none, .st 3 (t 11) (t 46), none, false⟩, ⟨some 12, .mv (t 47), none, false⟩])
         (.seq
          (.seq
           (.ops [⟨some 48, .mv (t 10), none, false⟩, ⟨some 49, .mv (t 12), none, false⟩, ⟨some 50, .bin .neq (t 48) (t 49), none, false⟩, ⟨some 51, .mv (t 50), none, false⟩, ⟨some 52, .fldA 0 (t 9), some (51, false), false⟩, ⟨some 53, .ld false 1 (t 52), some (51, false), false⟩, ⟨some 54, .lenS (t 53), some (51, false), false⟩, ⟨some 55, .fldA 0 (t 11), some (51, false), false⟩, ⟨some 56, .ld false 1 (t 55), some (51, false), false⟩, ⟨some 57, .lenS (t 56), some (51, false), false⟩, ⟨some 58, .bin .neq (t 54) (t 57), some (51, false), false⟩, ⟨some 59, .pick (t 51) (.const (.bool true)) (t 58), none, false⟩, ⟨some 60, .mv (t 59), none, false⟩, ⟨some 61, .fldA 1 (t 9), some (60, false), false⟩, ⟨some 62, .ld false 1 (t 61), some (60, false), false⟩, ⟨some 63, .fldA 1 (t 11), some (60, false), false⟩, ⟨some 64, .ld false 1 (t 63), some (60, false), false⟩, ⟨some 65, .call 18 [(t 62), (t 64)], some (60, false), false⟩, ⟨some 66, .not (t 65), some (60, false), false⟩, ⟨some 67, .pick (t 60) (.const (.bool true)) (t 66), none, false⟩, ⟨some 68, .mv (t 67), none, false⟩, ⟨some 69, .fldA 2 (t 9), some (68, false), false⟩, ⟨some 70, .ld false 1 (t 69), some (68, false), false⟩, ⟨some 71, .fldA 2 (t 11), some (68, false), false⟩, ⟨some 72, .ld false 1 (t 71), some (68, false), false⟩, ⟨some 73, .bin .neq (t 70) (t 72), some (68, false), false⟩, ⟨some 74, .pick (t 68) (.const (.bool true)) (t 73), none, false⟩])
           (.cond (t 74)
            (.seq
             (.ops [⟨some 6, .mv (.const (.bool false)), none, false⟩])
             .ret)
            .skip))
          (.seq
           (.seq
            (.ops [⟨some 13, .mv (.const (.int .i64 0)), none, false⟩])
            (.block 2
             (.loop
              (.seq
               (.seq
                (.ops [⟨some 75, .mv (t 13), none, false⟩, ⟨some 76, .fldA 0 (t 9), none, false⟩, ⟨some 77, .ld false 1 (t 76), none, false⟩, ⟨some 78, .lenS (t 77), none, false⟩, ⟨some 79, .bin .lss (t 75) (t 78), none, false⟩])
                (.cond (t 79)
                 .skip
                 (.exit 2)))
               (.seq
                (.block 3
                 (.seq
                  (.ops [⟨some 82, .fldA 0 (t 9), none, false⟩, ⟨some 83, .ld false 1 (t 82), none, false⟩, ⟨some 84, .mv (t 13), none, false⟩, ⟨some 85, .idxS 1 (t 83) (t 84), none, false⟩, ⟨some 86, .ld false 1 (t 85), none, false⟩, ⟨some 87, .mv (t 1), none, false⟩, ⟨some 88, .bin .sub (t 86) (t 87), none, false⟩, ⟨some 89, .fldA 0 (t 11), none, false⟩, ⟨some 90, .ld false 1 (t 89), none, false⟩, ⟨some 91, .mv (t 13), none, false⟩, ⟨some 92, .idxS 1 (t 90) (t 91), none, false⟩, ⟨some 93, .ld false 1 (t 92), none, false⟩, ⟨some 94, .mv (t 2), none, false⟩, ⟨some 95, .bin .sub (t 93) (t 94), none, false⟩, ⟨some 96, .bin .neq (t 88) (t 95), none, false⟩])
                  (.cond (t 96)
                   (.seq
                    (.ops [⟨some 6, .mv (.const (.bool false)), none, false⟩])
                    .ret)
                   .skip)))
                (.ops [⟨some 80, .mv (t 13), none, false⟩, ⟨some 81, .bin .add (t 80) (.const (.int .i64 1)), none, false⟩, ⟨some 13, .mv (t 81), none, false⟩]))))))
           (.seq
            (.ops [⟨some 97, .mv (t 7), none, false⟩, ⟨some 6, .mv (t 97), none, false⟩])
            .ret))))))))))
theorem comp4 : Try.f4.body.bind (comp Try.prog Try.f4.ntmps) = some pc4 := by kernel_rfl
theorem in4 {a0 a1 a2 : Value} {H : Heap} {k : Value → Heap → Prop} (h : H.Wf → pexec Try.prog pc4 ⟨Rt Try.prog Try.f4 H k, noEx⟩ (Rt Try.prog Try.f4 H k) (upd (upd (upd U 0 a0) 1 a1) 2 a2) H) : CallQ Try.prog 4 [a0, a1, a2] H k := call_in Try.func4 comp4 (by kernel_rfl) (by kernel_rfl) (env3 a0 a1 a2) h
theorem ret5 (H0 H : Heap) (k : Value → Heap → Prop) (A : Env) : Rt Try.prog Try.f5 H0 k A H = Ret H0 k (A 0) H := rt_1 (by kernel_rfl) (by kernel_rfl)
/-- linotype/linotypelaw27.LayoutKnown -/
noncomputable def pc5 : PC :=
  (.seq
   (.ops [⟨some 0, .mv (.const (.bool false)), none, false⟩])
   (.seq
    (.ops [⟨some 7, .call 19 [(.const (.int .i64 3))], none, false⟩, ⟨some 8, .call 20 [(.const (.int .i64 8))], none, false⟩, ⟨some 9, .call 19 [(.const (.int .i64 1))], none, false⟩, ⟨some 10, .bslice 38 7 3 [.int .i64 0, .int .i64 0, .int .i64 0, .int .i64 0, .int .i64 0, .int .i64 0, .int .i64 0, .int .i64 0, .int .i64 0, .int .i64 0, .int .i64 0, .int .i64 0, .int .i64 0, .int .i64 0, .int .i64 0, .int .i64 0, .int .i64 0, .int .i64 0, .int .i64 0, .int .i64 0, .int .i64 0] [(0, (t 7)), (1, (t 8)), (2, (t 9))], none, false⟩, ⟨some 1, .mv (t 10), none, false⟩])
    (.seq
     (.ops [⟨some 11, .bslice 4 1 3 [.bool false, .bool false, .bool false] [(0, (.const (.bool false))), (1, (.const (.bool false))), (2, (.const (.bool false)))], none, false⟩, ⟨some 2, .mv (t 11), none, false⟩])
     (.seq
      (.ops [⟨some 13, .call 21 [(.const (.int .i64 3))], none, false⟩, ⟨some 14, .bslice 38 7 1 [.int .i64 0, .int .i64 0, .int .i64 0, .int .i64 0, .int .i64 0, .int .i64 0, .int .i64 0] [(0, (t 13))], none, false⟩, ⟨some 15, .call 9 [(t 14), (.const (.int .i64 0))], none, false⟩, ⟨some 12, .mv (t 15), none, false⟩, ⟨some 16, .ext (t 12) 0, none, false⟩, ⟨some 17, .ext (t 12) 1, none, false⟩, ⟨some 3, .alloc 27 [.slice none 0 0, .slice none 0 0, .int .i64 0], none, false⟩, ⟨none, .st 3 (t 3) (t 16), none, false⟩, ⟨some 4, .mv (t 17), none, false⟩])
      (.seq
       (.ops [⟨some 19, .call 20 [(.const (.int .i64 3))], none, false⟩, ⟨some 20, .bslice 38 7 1 [.int .i64 0, .int .i64 0, .int .i64 0, .int .i64 0, .int .i64 0, .int .i64 0, .int .i64 0] [(0, (t 19))], none, false⟩, ⟨some 21, .call 9 [(t 20), (.const (.int .i64 0))], none, false⟩, ⟨some 18, .mv (t 21), none, false⟩, ⟨some 22, .ext (t 18) 0, none, false⟩, ⟨some 23, .ext (t 18) 1, none, false⟩, ⟨some 5, .alloc 27 [.slice none 0 0, .slice none 0 0, .int .i64 0], none, false⟩, ⟨none, .st 3 (t 5) (t 22), none, false⟩, ⟨some 6, .mv (t 23), none, false⟩])
       (.seq
        (.ops [⟨some 24, .call 16 [], none, false⟩, ⟨some 25, .mv (t 24), none, false⟩, ⟨some 26, .mv (t 1), some (25, true), false⟩, ⟨some 27, .mv (t 2), some (25, true), false⟩, ⟨some 28, .bslice 3 1 4 [.int .i64 0, .int .i64 0, .int .i64 0, .int .i64 0] [(0, (.const (.int .i64 0))), (1, (.const (.int .i64 3))), (2, (.const (.int .i64 8))), (3, (.const (.int .i64 9)))], some (25, true), false⟩, ⟨some 29, .call 22 [(.const (.int .i64 0)), (t 26), (t 27), (.const (.int .i64 1)), (t 28)], some (25, true), false⟩, ⟨some 30, .pick (t 25) (t 29) (.const (.bool false)), none, false⟩, ⟨some 31, .mv (t 30), none, false⟩, ⟨some 32, .mv (t 1), some (31, true), false⟩, ⟨some 33, .mv (t 2), some (31, true), false⟩, ⟨some 34, .bslice 3 1 4 [.int .i64 0, .int .i64 0, .int .i64 0, .int .i64 0] [(0, (.const (.int .i64 6))), (1, (.const (.int .i64 9))), (2, (.const (.int .i64 16))), (3, (.const (.int .i64 17)))], some (31, true), false⟩, ⟨some 35, .call 22 [(.const (.int .i64 6)), (t 32), (t 33), (.const (.int .i64 1)), (t 34)], some (31, true), false⟩, ⟨some 36, .pick (t 31) (t 35) (.const (.bool false)), none, false⟩, ⟨some 37, .mv (t 36), none, false⟩, ⟨some 38, .mv (t 4), some (37, true), false⟩, ⟨some 39, .bin .eql (t 38) (.const (.int .i64 2)), some (37, true), false⟩, ⟨some 40, .pick (t 37) (t 39) (.const (.bool false)), none, false⟩, ⟨some 41, .mv (t 40), none, false⟩, ⟨some 42, .mv (t 6), some (41, true), false⟩, ⟨some 43, .bin .eql (t 42) (.const (.int .i64 2)), some (41, true), false⟩, ⟨some 44, .pick (t 41) (t 43) (.const (.bool false)), none, false⟩, ⟨some 0, .mv (t 44), none, false⟩])
        .ret))))))
theorem comp5 : Try.f5.body.bind (comp Try.prog Try.f5.ntmps) = some pc5 := by kernel_rfl
theorem in5 {H : Heap} {k : Value → Heap → Prop} (h : H.Wf → pexec Try.prog pc5 ⟨Rt Try.prog Try.f5 H k, noEx⟩ (Rt Try.prog Try.f5 H k) U H) : CallQ Try.prog 5 [] H k := call_in Try.func5 comp5 (by kernel_rfl) (by kernel_rfl) env0 h
theorem ret6 (H0 H : Heap) (k : Value → Heap → Prop) (A : Env) : Rt Try.prog Try.f6 H0 k A H = Ret H0 k (A 4) H := rt_1 (by kernel_rfl) (by kernel_rfl)
/-- linotype/linotypelaw27.LayoutWorks -/
noncomputable def pc6 : PC :=
  (.seq
   (.ops [⟨some 4, .mv (.const (.bool false)), none, false⟩])
   (.seq
    (.ops [⟨some 12, .call 16 [], none, false⟩, ⟨some 5, .mv (t 12), none, false⟩])
    (.seq
     (.seq
      (.ops [⟨some 13, .mv (t 0), none, false⟩, ⟨some 14, .lenS (t 13), none, false⟩, ⟨some 15, .bin .gtr (t 14) (.const (.int .i64 200)), none, false⟩])
      (.cond (t 15)
       (.seq
        (.ops [⟨some 16, .mv (t 5), none, false⟩, ⟨some 4, .mv (t 16), none, false⟩])
        .ret)
       .skip))
     (.seq
      (.ops [⟨some 18, .mv (t 0), none, false⟩, ⟨some 19, .mv (t 1), none, false⟩, ⟨some 20, .call 9 [(t 18), (t 19)], none, false⟩, ⟨some 17, .mv (t 20), none, false⟩, ⟨some 21, .ext (t 17) 0, none, false⟩, ⟨some 22, .ext (t 17) 1, none, false⟩, ⟨some 6, .alloc 27 [.slice none 0 0, .slice none 0 0, .int .i64 0], none, false⟩, ⟨none, .st 3 (t 6) (t 21), none, false⟩, ⟨some 7, .mv (t 22), none, false⟩])
      (.seq
       (.seq
        (.ops [⟨some 23, .mv (t 7), none, false⟩, ⟨some 24, .bin .neq (t 23) (.const (.int .i64 0)), none, false⟩])
        (.cond (t 24)
         (.seq
          (.ops [⟨some 25, .mv (t 5), none, false⟩, ⟨some 26, .mv (t 25), none, false⟩, ⟨some 27, .fldA 0 (t 6), some (26, true), false⟩, ⟨some 28, .ld false 1 (t 27), some (26, true), false⟩, ⟨some 29, .lenS (t 28), some (26, true), false⟩, ⟨some 30, .bin .eql (t 29) (.const (.int .i64 0)), some (26, true), false⟩, ⟨some 31, .pick (t 26) (t 30) (.const (.bool false)), none, false⟩, ⟨some 32, .mv (t 31), none, false⟩, ⟨some 33, .fldA 1 (t 6), some (32, true), false⟩, ⟨some 34, .ld false 1 (t 33), some (32, true), false⟩, ⟨some 35, .lenS (t 34), some (32, true), false⟩, ⟨some 36, .bin .eql (t 35) (.const (.int .i64 0)), some (32, true), false⟩, ⟨some 37, .pick (t 32) (t 36) (.const (.bool false)), none, false⟩, ⟨some 38, .mv (t 37), none, false⟩, ⟨some 39, .fldA 2 (t 6), some (38, true), false⟩, ⟨some 40, .ld false 1 (t 39), some (38, true), false⟩, ⟨some 41, .bin .eql (t 40) (.const (.int .i64 0)), some (38, true), false⟩, ⟨some 42, .pick (t 38) (t 41) (.const (.bool false)), none, false⟩, ⟨some 4, .mv (t 42), none, false⟩])
          .ret)
         .skip))
       (.seq
        (.seq
         (.ops [⟨some 43, .fldA 0 (t 6), none, false⟩, ⟨some 44, .ld false 1 (t 43), none, false⟩, ⟨some 45, .lenS (t 44), none, false⟩, ⟨some 46, .mv (t 0), none, false⟩, ⟨some 47, .lenS (t 46), none, false⟩, ⟨some 48, .bin .add (t 47) (.const (.int .i64 1)), none, false⟩, ⟨some 49, .bin .neq (t 45) (t 48), none, false⟩, ⟨some 50, .mv (t 49), none, false⟩, ⟨some 51, .fldA 1 (t 6), some (50, false), false⟩, ⟨some 52, .ld false 1 (t 51), some (50, false), false⟩, ⟨some 53, .lenS (t 52), some (50, false), false⟩, ⟨some 54, .mv (t 0), some (50, false), false⟩, ⟨some 55, .lenS (t 54), some (50, false), false⟩, ⟨some 56, .bin .neq (t 53) (t 55), some (50, false), false⟩, ⟨some 57, .pick (t 50) (.const (.bool true)) (t 56), none, false⟩, ⟨some 58, .mv (t 57), none, false⟩, ⟨some 59, .fldA 0 (t 6), some (58, false), false⟩, ⟨some 60, .ld false 1 (t 59), some (58, false), false⟩, ⟨some 61, .idxS 1 (t 60) (.const (.int .i64 0)), some (58, false), false⟩, ⟨some 62, .ld false 1 (t 61), some (58, false), false⟩, ⟨some 63, .mv (t 1), some (58, false), false⟩, ⟨some 64, .bin .neq (t 62) (t 63), some (58, false), false⟩, ⟨some 65, .pick (t 58) (.const (.bool true)) (t 64), none, false⟩, ⟨some 66, .mv (t 65), none, false⟩, ⟨some 67, .mv (t 0), some (66, false), false⟩, ⟨some 68, .mv (t 1), some (66, false), false⟩, ⟨some 69, .fldA 1 (t 6), some (66, false), false⟩, ⟨some 70, .ld false 1 (t 69), some (66, false), false⟩, ⟨some 71, .call 23 [(t 67), (t 68), (t 70)], some (66, false), false⟩, ⟨some 72, .not (t 71), some (66, false), false⟩, ⟨some 73, .pick (t 66) (.const (.bool true)) (t 72), none, false⟩])
         (.cond (t 73)
          (.seq
           (.ops [⟨some 4, .mv (.const (.bool false)), none, false⟩])
           .ret)
          .skip))
        (.seq
         (.ops [⟨some 8, .mv (.const (.int .i64 0)), none, false⟩])
         (.seq
          (.seq
           (.ops [⟨some 9, .mv (.const (.int .i64 0)), none, false⟩])
           (.block 0
            (.loop
             (.seq
              (.seq
               (.ops [⟨some 74, .mv (t 9), none, false⟩, ⟨some 75, .mv (t 0), none, false⟩, ⟨some 76, .lenS (t 75), none, false⟩, ⟨some 77, .bin .lss (t 74) (t 76), none, false⟩])
               (.cond (t 77)
                .skip
                (.exit 0)))
              (.seq
               (.block 1
                (.seq
                 (.ops [⟨some 80, .fldA 0 (t 6), none, false⟩, ⟨some 81, .ld false 1 (t 80), none, false⟩, ⟨some 82, .mv (t 9), none, false⟩, ⟨some 83, .bin .add (t 82) (.const (.int .i64 1)), none, false⟩, ⟨some 84, .idxS 1 (t 81) (t 83), none, false⟩, ⟨some 85, .ld false 1 (t 84), none, false⟩, ⟨some 86, .fldA 0 (t 6), none, false⟩, ⟨some 87, .ld false 1 (t 86), none, false⟩, ⟨some 88, .mv (t 9), none, false⟩, ⟨some 89, .idxS 1 (t 87) (t 88), none, false⟩, ⟨some 90, .ld false 1 (t 89), none, false⟩, ⟨some 91, .bin .sub (t 85) (t 90), none, false⟩, ⟨some 10, .mv (t 91), none, false⟩])
                 (.seq
                  (.ops [⟨some 92, .mv (t 0), none, false⟩, ⟨some 93, .mv (t 9), none, false⟩, ⟨some 94, .idxS 7 (t 92) (t 93), none, false⟩, ⟨some 95, .fldA 1 (t 94), none, false⟩, ⟨some 96, .ld false 1 (t 95), none, false⟩, ⟨some 11, .mv (t 96), none, false⟩])
                  (.seq
                   (.seq
                    (.ops [⟨some 97, .mv (t 0), none, false⟩, ⟨some 98, .mv (t 9), none, false⟩, ⟨some 99, .idxS 7 (t 97) (t 98), none, false⟩, ⟨some 100, .fldA 0 (t 99), none, false⟩, ⟨some 101, .ld false 1 (t 100), none, false⟩, ⟨some 102, .bin .eql (t 101) (.const (.int .i64 2)), none, false⟩])
                    (.cond (t 102)
                     (.seq
                      (.ops [⟨some 103, .mv (t 8), none, false⟩, ⟨some 104, .bin .add (t 103) (.const (.int .i64 1)), none, false⟩, ⟨some 8, .mv (t 104), none, false⟩])
                      (.seq
                       (.ops [⟨some 105, .mv (t 0), none, false⟩, ⟨some 106, .mv (t 9), none, false⟩, ⟨some 107, .idxS 7 (t 105) (t 106), none, false⟩, ⟨some 108, .fldA 2 (t 107), none, false⟩, ⟨some 109, .ld false 1 (t 108), none, false⟩, ⟨some 11, .mv (t 109), none, false⟩])
                       (.seq
                        (.ops [⟨some 110, .fldA 1 (t 6), none, false⟩, ⟨some 111, .ld false 1 (t 110), none, false⟩, ⟨some 112, .mv (t 9), none, false⟩, ⟨some 113, .idxS 1 (t 111) (t 112), none, false⟩, ⟨some 114, .ld false 1 (t 113), none, false⟩])
                        (.cond (t 114)
                         (.ops [⟨some 115, .mv (t 0), none, false⟩, ⟨some 116, .mv (t 9), none, false⟩, ⟨some 117, .idxS 7 (t 115) (t 116), none, false⟩, ⟨some 118, .fldA 3 (t 117), none, false⟩, ⟨some 119, .ld false 1 (t 118), none, false⟩, ⟨some 11, .mv (t 119), none, false⟩])
                         .skip))))
                     (.seq
                      (.ops [⟨some 120, .fldA 1 (t 6), none, false⟩, ⟨some 121, .ld false 1 (t 120), none, false⟩, ⟨some 122, .mv (t 9), none, false⟩, ⟨some 123, .idxS 1 (t 121) (t 122), none, false⟩, ⟨some 124, .ld false 1 (t 123), none, false⟩])
                      (.cond (t 124)
                       (.seq
                        (.ops [⟨some 4, .mv (.const (.bool false)), none, false⟩])
                        .ret)
                       .skip))))
                   (.seq
                    (.ops [⟨some 125, .mv (t 0), none, false⟩, ⟨some 126, .mv (t 9), none, false⟩, ⟨some 127, .idxS 7 (t 125) (t 126), none, false⟩, ⟨some 128, .fldA 0 (t 127), none, false⟩, ⟨some 129, .ld false 1 (t 128), none, false⟩, ⟨some 130, .bin .eql (t 129) (.const (.int .i64 3)), none, false⟩])
                    (.cond (t 130)
                     (.seq
                      (.ops [⟨some 131, .mv (t 10), none, false⟩, ⟨some 132, .bin .lss (t 131) (.const (.int .i64 0)), none, false⟩, ⟨some 133, .mv (t 132), none, false⟩, ⟨some 134, .mv (t 10), some (133, false), false⟩, ⟨some 135, .mv (t 0), some (133, false), false⟩, ⟨some 136, .mv (t 9), some (133, false), false⟩, ⟨some 137, .idxS 7 (t 135) (t 136), some (133, false), false⟩, ⟨some 138, .fldA 6 (t 137), some (133, false), false⟩, ⟨some 139, .ld false 1 (t 138), some (133, false), false⟩, ⟨some 140, .bin .geq (t 134) (t 139), some (133, false), false⟩, ⟨some 141, .pick (t 133) (.const (.bool true)) (t 140), none, false⟩, ⟨some 142, .mv (t 141), none, false⟩, ⟨some 143, .fldA 0 (t 6), some (142, false), false⟩, ⟨some 144, .ld false 1 (t 143), some (142, false), false⟩, ⟨some 145, .mv (t 9), some (142, false), false⟩, ⟨some 146, .bin .add (t 145) (.const (.int .i64 1)), some (142, false), false⟩, ⟨some 147, .idxS 1 (t 144) (t 146), some (142, false), false⟩, ⟨some 148, .ld false 1 (t 147), some (142, false), false⟩, ⟨some 149, .mv (t 0), some (142, false), false⟩, ⟨some 150, .mv (t 9), some (142, false), false⟩, ⟨some 151, .idxS 7 (t 149) (t 150), some (142, false), false⟩, ⟨some 152, .fldA 6 (t 151), some (142, false), false⟩, ⟨some 153, .ld false 1 (t 152), some (142, false), false⟩, ⟨some 154, .bin .rem (t 148) (t 153), some (142, false), false⟩, ⟨some 155, .bin .neq (t 154) (.const (.int .i64 0)), some (142, false), false⟩, ⟨some 156, .pick (t 142) (.const (.bool true)) (t 155), none, false⟩])
                      (.cond (t 156)
                       (.seq
                        (.ops [⟨some 4, .mv (.const (.bool false)), none, false⟩])
                        .ret)
                       .skip))
                     (.seq
                      (.ops [⟨some 157, .mv (t 10), none, false⟩, ⟨some 158, .mv (t 11), none, false⟩, ⟨some 159, .bin .neq (t 157) (t 158), none, false⟩])
                      (.cond (t 159)
                       (.seq
                        (.ops [⟨some 4, .mv (.const (.bool false)), none, false⟩])
                        .ret)
                       .skip))))))))
               (.ops [⟨some 78, .mv (t 9), none, false⟩, ⟨some 79, .bin .add (t 78) (.const (.int .i64 1)), none, false⟩, ⟨some 9, .mv (t 79), none, false⟩]))))))
          (.seq
           (.ops [⟨some 160, .mv (t 5), none, false⟩, ⟨some 161, .mv (t 160), none, false⟩, ⟨some 162, .fldA 2 (t 6), some (161, true), false⟩, ⟨some 163, .ld false 1 (t 162), some (161, true), false⟩, ⟨some 164, .bin .geq (t 163) (.const (.int .i64 1)), some (161, true), false⟩, ⟨some 165, .pick (t 161) (t 164) (.const (.bool false)), none, false⟩, ⟨some 166, .mv (t 165), none, false⟩, ⟨some 167, .fldA 2 (t 6), some (166, true), false⟩, ⟨some 168, .ld false 1 (t 167), some (166, true), false⟩, ⟨some 169, .mv (t 8), some (166, true), false⟩, ⟨some 170, .bin .add (t 169) (.const (.int .i64 1)), some (166, true), false⟩, ⟨some 171, .bin .leq (t 168) (t 170), some (166, true), false⟩, ⟨some 172, .pick (t 166) (t 171) (.const (.bool false)), none, false⟩, ⟨some 4, .mv (t 172), none, false⟩])
           .ret)))))))))
theorem comp6 : Try.f6.body.bind (comp Try.prog Try.f6.ntmps) = some pc6 := by kernel_rfl
theorem in6 {a0 a1 : Value} {H : Heap} {k : Value → Heap → Prop} (h : H.Wf → pexec Try.prog pc6 ⟨Rt Try.prog Try.f6 H k, noEx⟩ (Rt Try.prog Try.f6 H k) (upd (upd U 0 a0) 1 a1) H) : CallQ Try.prog 6 [a0, a1] H k := call_in Try.func6 comp6 (by kernel_rfl) (by kernel_rfl) (env2 a0 a1) h
theorem ret7 (H0 H : Heap) (k : Value → Heap → Prop) (A : Env) : Rt Try.prog Try.f7 H0 k A H = Ret H0 k (A 6) H := rt_1 (by kernel_rfl) (by kernel_rfl)
/-- linotype/linotypelaw27.LayoutLeast -/
noncomputable def pc7 : PC :=
  (.seq
   (.ops [⟨some 6, .mv (.const (.bool false)), none, false⟩])
   (.seq
    (.ops [⟨some 12, .call 16 [], none, false⟩, ⟨some 7, .mv (t 12), none, false⟩])
    (.seq
     (.seq
      (.ops [⟨some 13, .mv (t 0), none, false⟩, ⟨some 14, .lenS (t 13), none, false⟩, ⟨some 15, .bin .gtr (t 14) (.const (.int .i64 200)), none, false⟩])
      (.cond (t 15)
       (.seq
        (.ops [⟨some 16, .mv (t 7), none, false⟩, ⟨some 6, .mv (t 16), none, false⟩])
        .ret)
       .skip))
     (.seq
      (.seq
       (.ops [⟨some 8, .mv (.const (.int .i64 0)), none, false⟩])
       (.block 0
        (.loop
         (.seq
          (.seq
           (.ops [⟨some 17, .mv (t 8), none, false⟩, ⟨some 18, .mv (t 0), none, false⟩, ⟨some 19, .lenS (t 18), none, false⟩, ⟨some 20, .bin .lss (t 17) (t 19), none, false⟩])
           (.cond (t 20)
            .skip
            (.exit 0)))
          (.seq
           (.block 1
            (.seq
             (.ops [⟨some 23, .mv (t 0), none, false⟩, ⟨some 24, .mv (t 8), none, false⟩, ⟨some 25, .idxS 7 (t 23) (t 24), none, false⟩, ⟨some 26, .fldA 0 (t 25), none, false⟩, ⟨some 27, .ld false 1 (t 26), none, false⟩, ⟨some 28, .bin .eql (t 27) (.const (.int .i64 3)), none, false⟩, ⟨some 29, .mv (t 28), none, false⟩, ⟨some 30, .mv (t 0), some (29, false), false⟩, ⟨some 31, .mv (t 8), some (29, false), false⟩, ⟨some 32, .idxS 7 (t 30) (t 31), some (29, false), false⟩, ⟨some 33, .fldA 0 (t 32), some (29, false), false⟩, ⟨some 34, .ld false 1 (t 33), some (29, false), false⟩, ⟨some 35, .bin .eql (t 34) (.const (.int .i64 2)), some (29, false), false⟩, ⟨some 36, .mv (t 35), some (29, false), false⟩, ⟨some 37, .mv (t 0), some (36, true), false⟩, ⟨some 38, .mv (t 8), some (36, true), false⟩, ⟨some 39, .idxS 7 (t 37) (t 38), some (36, true), false⟩, ⟨some 40, .fldA 5 (t 39), some (36, true), false⟩, ⟨some 41, .ld false 1 (t 40), some (36, true), false⟩, ⟨some 42, .bin .neq (t 41) (.const (.int .i64 0)), some (36, true), false⟩, ⟨some 43, .pick (t 36) (t 42) (.const (.bool false)), some (29, false), false⟩, ⟨some 44, .pick (t 29) (.const (.bool true)) (t 43), none, false⟩])
             (.cond (t 44)
              (.seq
               (.ops [⟨some 45, .mv (t 7), none, false⟩, ⟨some 6, .mv (t 45), none, false⟩])
               .ret)
              .skip)))
           (.ops [⟨some 21, .mv (t 8), none, false⟩, ⟨some 22, .bin .add (t 21) (.const (.int .i64 1)), none, false⟩, ⟨some 8, .mv (t 22), none, false⟩]))))))
      (.seq
       (.ops [⟨some 47, .mv (t 0), none, false⟩, ⟨some 48, .mv (t 1), none, false⟩, ⟨some 49, .call 9 [(t 47), (t 48)], none, false⟩, ⟨some 46, .mv (t 49), none, false⟩, ⟨some 50, .ext (t 46) 0, none, false⟩, ⟨some 51, .ext (t 46) 1, none, false⟩, ⟨some 9, .alloc 27 [.slice none 0 0, .slice none 0 0, .int .i64 0], none, false⟩, ⟨none, .st 3 (t 9) (t 50), none, false⟩, ⟨some 10, .mv (t 51), none, false⟩])
       (.seq
        (.seq
         (.ops [⟨some 52, .mv (t 10), none, false⟩, ⟨some 53, .bin .neq (t 52) (.const (.int .i64 0)), none, false⟩, ⟨some 54, .mv (t 53), none, false⟩, ⟨some 55, .mv (t 0), some (54, false), false⟩, ⟨some 56, .mv (t 1), some (54, false), false⟩, ⟨some 57, .mv (t 2), some (54, false), false⟩, ⟨some 58, .call 23 [(t 55), (t 56), (t 57)], some (54, false), false⟩, ⟨some 59, .not (t 58), some (54, false), false⟩, ⟨some 60, .pick (t 54) (.const (.bool true)) (t 59), none, false⟩])
         (.cond (t 60)
          (.seq
           (.ops [⟨some 61, .mv (t 7), none, false⟩, ⟨some 6, .mv (t 61), none, false⟩])
           .ret)
          .skip))
        (.seq
         (.seq
          (.ops [⟨some 11, .mv (.const (.int .i64 0)), none, false⟩])
          (.block 2
           (.loop
            (.seq
             (.seq
              (.ops [⟨some 62, .mv (t 11), none, false⟩, ⟨some 63, .mv (t 0), none, false⟩, ⟨some 64, .lenS (t 63), none, false⟩, ⟨some 65, .bin .lss (t 62) (t 64), none, false⟩, ⟨some 66, .mv (t 65), none, false⟩, ⟨some 67, .mv (t 11), some (66, true), false⟩, ⟨some 68, .fldA 1 (t 9), some (66, true), false⟩, ⟨some 69, .ld false 1 (t 68), some (66, true), false⟩, ⟨some 70, .lenS (t 69), some (66, true), false⟩, ⟨some 71, .bin .lss (t 67) (t 70), some (66, true), false⟩, ⟨some 72, .pick (t 66) (t 71) (.const (.bool false)), none, false⟩, ⟨some 73, .mv (t 72), none, false⟩, ⟨some 74, .mv (t 11), some (73, true), false⟩, ⟨some 75, .mv (t 2), some (73, true), false⟩, ⟨some 76, .lenS (t 75), some (73, true), false⟩, ⟨some 77, .bin .lss (t 74) (t 76), some (73, true), false⟩, ⟨some 78, .pick (t 73) (t 77) (.const (.bool false)), none, false⟩])
              (.cond (t 78)
               .skip
               (.exit 2)))
             (.seq
              (.block 3
               (.seq
                (.ops [⟨some 81, .fldA 1 (t 9), none, false⟩, ⟨some 82, .ld false 1 (t 81), none, false⟩, ⟨some 83, .mv (t 11), none, false⟩, ⟨some 84, .idxS 1 (t 82) (t 83), none, false⟩, ⟨some 85, .ld false 1 (t 84), none, false⟩, ⟨some 86, .mv (t 85), none, false⟩, ⟨some 87, .mv (t 0), some (86, true), false⟩, ⟨some 88, .mv (t 11), some (86, true), false⟩, ⟨some 89, .idxS 7 (t 87) (t 88), some (86, true), false⟩, ⟨some 90, .fldA 0 (t 89), some (86, true), false⟩, ⟨some 91, .ld false 1 (t 90), some (86, true), false⟩, ⟨some 92, .bin .eql (t 91) (.const (.int .i64 2)), some (86, true), false⟩, ⟨some 93, .pick (t 86) (t 92) (.const (.bool false)), none, false⟩, ⟨some 94, .mv (t 93), none, false⟩, ⟨some 95, .mv (t 2), some (94, true), false⟩, ⟨some 96, .mv (t 11), some (94, true), false⟩, ⟨some 97, .idxS 1 (t 95) (t 96), some (94, true), false⟩, ⟨some 98, .ld false 1 (t 97), some (94, true), false⟩, ⟨some 99, .not (t 98), some (94, true), false⟩, ⟨some 100, .pick (t 94) (t 99) (.const (.bool false)), none, false⟩])
                (.cond (t 100)
                 (.seq
                  (.ops [⟨some 6, .mv (.const (.bool false)), none, false⟩])
                  .ret)
                 .skip)))
              (.ops [⟨some 79, .mv (t 11), none, false⟩, ⟨some 80, .bin .add (t 79) (.const (.int .i64 1)), none, false⟩, ⟨some 11, .mv (t 80), none, false⟩]))))))
         (.seq
          (.ops [⟨some 101, .mv (t 7), none, false⟩, ⟨some 102, .mv (t 101), none, false⟩, ⟨some 103, .fldA 1 (t 9), some (102, true), false⟩, ⟨some 104, .ld false 1 (t 103), some (102, true), false⟩, ⟨some 105, .lenS (t 104), some (102, true), false⟩, ⟨some 106, .mv (t 0), some (102, true), false⟩, ⟨some 107, .lenS (t 106), some (102, true), false⟩, ⟨some 108, .bin .eql (t 105) (t 107), some (102, true), false⟩, ⟨some 109, .pick (t 102) (t 108) (.const (.bool false)), none, false⟩, ⟨some 6, .mv (t 109), none, false⟩])
          .ret))))))))
theorem comp7 : Try.f7.body.bind (comp Try.prog Try.f7.ntmps) = some pc7 := by kernel_rfl
theorem in7 {a0 a1 a2 : Value} {H : Heap} {k : Value → Heap → Prop} (h : H.Wf → pexec Try.prog pc7 ⟨Rt Try.prog Try.f7 H k, noEx⟩ (Rt Try.prog Try.f7 H k) (upd (upd (upd U 0 a0) 1 a1) 2 a2) H) : CallQ Try.prog 7 [a0, a1, a2] H k := call_in Try.func7 comp7 (by kernel_rfl) (by kernel_rfl) (env3 a0 a1 a2) h
theorem ret8 (H0 H : Heap) (k : Value → Heap → Prop) (A : Env) : Rt Try.prog Try.f8 H0 k A H = Ret H0 k (A 2) H := rt_1 (by kernel_rfl) (by kernel_rfl)
/-- linotype/linotypekit.CopyPieces -/
noncomputable def pc8 : PC :=
  (.seq
   (.ops [⟨some 2, .mv (.const (.slice none 0 0)), none, false⟩])
   (.seq
    (.ops [⟨some 3, .bslice 38 7 0 [] [], none, false⟩, ⟨some 4, .mv (t 0), none, false⟩, ⟨some 5, .app 38 7 56 (t 3) (t 4), none, false⟩, ⟨some 2, .mv (t 5), none, false⟩])
    .ret))
theorem comp8 : Try.f8.body.bind (comp Try.prog Try.f8.ntmps) = some pc8 := by kernel_rfl
theorem in8 {a0 : Value} {H : Heap} {k : Value → Heap → Prop} (h : H.Wf → pexec Try.prog pc8 ⟨Rt Try.prog Try.f8 H k, noEx⟩ (Rt Try.prog Try.f8 H k) (upd U 0 a0) H) : CallQ Try.prog 8 [a0] H k := call_in Try.func8 comp8 (by kernel_rfl) (by kernel_rfl) (env1 a0) h
theorem ret9 (H0 H : Heap) (k : Value → Heap → Prop) (A : Env) : Rt Try.prog Try.f9 H0 k A H = ldR true 3 (A 4) H fun v => Ret H0 k (.tuple #[v, A 5]) H := rt_cn (ty := 27) (by kernel_rfl) (by kernel_rfl) (by kernel_rfl)
/-- linotype/layout.Plan -/
noncomputable def pc9 : PC :=
  (.seq
   (.ops [⟨some 4, .alloc 27 [.slice none 0 0, .slice none 0 0, .int .i64 0], none, false⟩, ⟨some 5, .mv (.const (.int .i64 0)), none, false⟩])
   (.seq
    (.seq
     (.ops [⟨some 18, .mv (t 0), none, false⟩, ⟨some 19, .call 12 [(t 18)], none, false⟩, ⟨some 6, .mv (t 19), none, false⟩])
     (.seq
      (.ops [⟨some 20, .mv (t 6), none, false⟩, ⟨some 21, .bin .neq (t 20) (.const (.int .i64 0)), none, false⟩])
      (.cond (t 21)
       (.seq
        (.ops [⟨some 22, .build [.slice none 0 0, .slice none 0 0, .int .i64 0] [], none, false⟩, ⟨some 23, .mv (t 6), none, false⟩, ⟨none, .st 3 (t 4) (t 22), none, false⟩, ⟨some 5, .mv (t 23), none, false⟩])
        .ret)
       .skip)))
    (.seq
     (.seq
      (.ops [⟨some 24, .mv (t 1), none, false⟩, ⟨some 25, .bin .lss (t 24) (.const (.int .i64 0)), none, false⟩, ⟨some 26, .mv (t 25), none, false⟩, ⟨some 27, .mv (t 1), some (26, false), false⟩, ⟨some 28, .bin .gtr (t 27) (.const (.int .i64 140737488355328)), some (26, false), false⟩, ⟨some 29, .pick (t 26) (.const (.bool true)) (t 28), none, false⟩])
      (.cond (t 29)
       (.seq
        (.ops [⟨some 30, .build [.slice none 0 0, .slice none 0 0, .int .i64 0] [], none, false⟩, ⟨none, .st 3 (t 4) (t 30), none, false⟩, ⟨some 5, .mv (.const (.int .i64 5)), none, false⟩])
        .ret)
       .skip))
     (.seq
      (.ops [⟨some 31, .mv (t 0), none, false⟩, ⟨some 32, .call 24 [(t 31)], none, false⟩, ⟨some 7, .mv (t 32), none, false⟩])
      (.seq
       (.ops [⟨some 33, .mv (t 0), none, false⟩, ⟨some 34, .lenS (t 33), none, false⟩, ⟨some 35, .bin .add (t 34) (.const (.int .i64 1)), none, false⟩, ⟨some 36, .mkSl 3 1 8 [.int .i64 0] (t 35) (t 35), none, false⟩, ⟨some 37, .mv (t 0), none, false⟩, ⟨some 38, .lenS (t 37), none, false⟩, ⟨some 39, .mkSl 4 1 1 [.bool false] (t 38) (t 38), none, false⟩, ⟨some 40, .build [.slice none 0 0, .slice none 0 0, .int .i64 0] [(0, 1, (t 36)), (1, 1, (t 39))], none, false⟩, ⟨some 8, .alloc 27 [.slice none 0 0, .slice none 0 0, .int .i64 0], none, false⟩, ⟨none, .st 3 (t 8) (t 40), none, false⟩])
       (.seq
        (.block 0
         (.loop
          (.block 1
           (.seq
            (.ops [⟨some 41, .fldA 2 (t 8), none, false⟩, ⟨some 42, .ld false 1 (t 41), none, false⟩, ⟨some 43, .bin .add (t 42) (.const (.int .i64 1)), none, false⟩, ⟨some 44, .fldA 2 (t 8), none, false⟩, ⟨none, .st 1 (t 44) (t 43), none, false⟩])
            (.seq
             (.ops [⟨some 45, .fldA 0 (t 8), none, false⟩, ⟨some 46, .ld false 1 (t 45), none, false⟩, ⟨some 47, .mv (t 7), none, false⟩, ⟨some 48, .mv (t 1), none, false⟩, ⟨some 49, .fldA 1 (t 8), none, false⟩, ⟨some 50, .ld false 1 (t 49), none, false⟩, ⟨some 51, .call 25 [(t 46), (t 47), (t 48), (t 50)], none, false⟩])
             (.seq
              (.ops [⟨some 9, .mv (.const (.bool false)), none, false⟩])
              (.seq
               (.seq
                (.ops [⟨some 52, .mv (t 7), none, false⟩, ⟨some 53, .lenS (t 52), none, false⟩, ⟨some 54, .mv (.const (.int .i64 0)), none, false⟩])
                (.block 2
                 (.loop
                  (.seq
                   (.ops [⟨some 55, .bin .lss (t 54) (t 53), none, false⟩])
                   (.seq
                    (.cond (t 55)
                     .skip
                     (.exit 2))
                    (.seq
                     (.block 3
                      (.seq
                       (.ops [⟨some 56, .mv (t 54), none, false⟩, ⟨some 57, .idxS 1 (t 52) (t 54), none, false⟩, ⟨some 58, .ld false 1 (t 57), none, false⟩, ⟨some 10, .mv (t 56), none, false⟩, ⟨some 11, .mv (t 58), none, false⟩])
                       (.seq
                        (.ops [⟨some 60, .mv (t 11), none, false⟩, ⟨some 61, .asrt 51 (.agg #[.int .i64 0, .int .i64 0, .int .i64 0, .int .i64 0]) true (t 60), none, false⟩, ⟨some 59, .mv (t 61), none, false⟩, ⟨some 62, .ext (t 59) 0, none, false⟩, ⟨some 63, .ext (t 59) 1, none, false⟩, ⟨some 12, .alloc 51 [.int .i64 0, .int .i64 0, .int .i64 0, .int .i64 0], none, false⟩, ⟨none, .st 4 (t 12) (t 62), none, false⟩, ⟨some 13, .mv (t 63), none, false⟩])
                        (.seq
                         (.ops [⟨some 64, .mv (t 13), none, false⟩, ⟨some 65, .mv (t 64), none, false⟩, ⟨some 66, .fldA 1 (t 8), some (65, true), false⟩, ⟨some 67, .ld false 1 (t 66), some (65, true), false⟩, ⟨some 68, .mv (t 10), some (65, true), false⟩, ⟨some 69, .idxS 1 (t 67) (t 68), some (65, true), false⟩, ⟨some 70, .ld false 1 (t 69), some (65, true), false⟩, ⟨some 71, .not (t 70), some (65, true), false⟩, ⟨some 72, .pick (t 65) (t 71) (.const (.bool false)), none, false⟩, ⟨some 73, .mv (t 72), none, false⟩, ⟨some 74, .fldA 0 (t 8), some (73, true), false⟩, ⟨some 75, .ld false 1 (t 74), some (73, true), false⟩, ⟨some 76, .mv (t 10), some (73, true), false⟩, ⟨some 77, .ld true 4 (t 12), some (73, true), false⟩, ⟨some 78, .call 26 [(t 75), (t 76), (t 77), (.const (.int .i64 8))], some (73, true), false⟩, ⟨some 79, .not (t 78), some (73, true), false⟩, ⟨some 80, .pick (t 73) (t 79) (.const (.bool false)), none, false⟩])
                         (.cond (t 80)
                          (.ops [⟨some 81, .fldA 1 (t 8), none, false⟩, ⟨some 82, .ld false 1 (t 81), none, false⟩, ⟨some 83, .mv (t 10), none, false⟩, ⟨some 84, .idxS 1 (t 82) (t 83), none, false⟩, ⟨none, .st 1 (t 84) (.const (.bool true)), none, false⟩, ⟨some 9, .mv (.const (.bool true)), none, false⟩])
                          .skip)))))
                     (.ops [⟨some 85, .bin .add (t 54) (.const (.int .i64 1)), none, false⟩, ⟨some 54, .mv (t 85), none, false⟩])))))))
               (.seq
                (.ops [⟨some 86, .mv (t 9), none, false⟩, ⟨some 87, .not (t 86), none, false⟩])
                (.cond (t 87)
                 (.exit 0)
                 .skip)))))))))
        (.seq
         (.seq
          (.ops [⟨some 88, .fldA 0 (t 8), none, false⟩, ⟨some 89, .ld false 1 (t 88), none, false⟩, ⟨some 90, .mv (t 0), none, false⟩, ⟨some 91, .lenS (t 90), none, false⟩, ⟨some 92, .idxS 1 (t 89) (t 91), none, false⟩, ⟨some 93, .ld false 1 (t 92), none, false⟩, ⟨some 94, .mv (t 1), none, false⟩, ⟨some 95, .bin .sub (t 93) (t 94), none, false⟩, ⟨some 96, .bin .gtr (t 95) (.const (.int .i64 1048576)), none, false⟩])
          (.cond (t 96)
           (.seq
            (.ops [⟨some 97, .build [.slice none 0 0, .slice none 0 0, .int .i64 0] [], none, false⟩, ⟨none, .st 3 (t 4) (t 97), none, false⟩, ⟨some 5, .mv (.const (.int .i64 3)), none, false⟩])
            .ret)
           .skip))
         (.seq
          (.seq
           (.ops [⟨some 98, .mv (t 7), none, false⟩, ⟨some 99, .lenS (t 98), none, false⟩, ⟨some 100, .mv (.const (.int .i64 0)), none, false⟩])
           (.block 4
            (.loop
             (.seq
              (.ops [⟨some 101, .bin .lss (t 100) (t 99), none, false⟩])
              (.seq
               (.cond (t 101)
                .skip
                (.exit 4))
               (.seq
                (.block 5
                 (.seq
                  (.ops [⟨some 102, .mv (t 100), none, false⟩, ⟨some 103, .idxS 1 (t 98) (t 100), none, false⟩, ⟨some 104, .ld false 1 (t 103), none, false⟩, ⟨some 14, .mv (t 102), none, false⟩, ⟨some 15, .mv (t 104), none, false⟩])
                  (.seq
                   (.ops [⟨some 106, .mv (t 15), none, false⟩, ⟨some 107, .asrt 51 (.agg #[.int .i64 0, .int .i64 0, .int .i64 0, .int .i64 0]) true (t 106), none, false⟩, ⟨some 105, .mv (t 107), none, false⟩, ⟨some 108, .ext (t 105) 0, none, false⟩, ⟨some 109, .ext (t 105) 1, none, false⟩, ⟨some 16, .alloc 51 [.int .i64 0, .int .i64 0, .int .i64 0, .int .i64 0], none, false⟩, ⟨none, .st 4 (t 16) (t 108), none, false⟩, ⟨some 17, .mv (t 109), none, false⟩])
                   (.seq
                    (.ops [⟨some 110, .mv (t 17), none, false⟩, ⟨some 111, .mv (t 110), none, false⟩, ⟨some 112, .fldA 1 (t 8), some (111, true), false⟩, ⟨some 113, .ld false 1 (t 112), some (111, true), false⟩, ⟨some 114, .mv (t 14), some (111, true), false⟩, ⟨some 115, .idxS 1 (t 113) (t 114), some (111, true), false⟩, ⟨some 116, .ld false 1 (t 115), some (111, true), false⟩, ⟨some 117, .pick (t 111) (t 116) (.const (.bool false)), none, false⟩, ⟨some 118, .mv (t 117), none, false⟩, ⟨some 119, .fldA 0 (t 8), some (118, true), false⟩, ⟨some 120, .ld false 1 (t 119), some (118, true), false⟩, ⟨some 121, .mv (t 14), some (118, true), false⟩, ⟨some 122, .ld true 4 (t 16), some (118, true), false⟩, ⟨some 123, .call 26 [(t 120), (t 121), (t 122), (.const (.int .i64 32))], some (118, true), false⟩, ⟨some 124, .not (t 123), some (118, true), false⟩, ⟨some 125, .pick (t 118) (t 124) (.const (.bool false)), none, false⟩])
                    (.cond (t 125)
                     (.seq
                      (.ops [⟨some 126, .build [.slice none 0 0, .slice none 0 0, .int .i64 0] [], none, false⟩, ⟨none, .st 3 (t 4) (t 126), none, false⟩, ⟨some 5, .mv (.const (.int .i64 5)), none, false⟩])
                      .ret)
                     .skip)))))
                (.ops [⟨some 127, .bin .add (t 100) (.const (.int .i64 1)), none, false⟩, ⟨some 100, .mv (t 127), none, false⟩])))))))
          (.seq
           (.ops [⟨some 128, .ld true 3 (t 8), none, false⟩, ⟨none, .st 3 (t 4) (t 128), none, false⟩, ⟨some 5, .mv (.const (.int .i64 0)), none, false⟩])
           .ret)))))))))
theorem comp9 : Try.f9.body.bind (comp Try.prog Try.f9.ntmps) = some pc9 := by kernel_rfl
theorem in9 {a0 a1 : Value} {H : Heap} {k : Value → Heap → Prop} (h : H.Wf → pexec Try.prog pc9 ⟨Rt Try.prog Try.f9 H k, noEx⟩ (Rt Try.prog Try.f9 H k) (upd (upd U 0 a0) 1 a1) H) : CallQ Try.prog 9 [a0, a1] H k := call_in Try.func9 comp9 (by kernel_rfl) (by kernel_rfl) (env2 a0 a1) h
theorem ret10 (H0 H : Heap) (k : Value → Heap → Prop) (A : Env) : Rt Try.prog Try.f10 H0 k A H = ldR true 3 (A 4) H fun v => Ret H0 k (.tuple #[v, A 5]) H := rt_cn (ty := 27) (by kernel_rfl) (by kernel_rfl) (by kernel_rfl)
/-- linotype/linotyperef27.Plan -/
noncomputable def pc10 : PC :=
  (.seq
   (.ops [⟨some 4, .alloc 27 [.slice none 0 0, .slice none 0 0, .int .i64 0], none, false⟩, ⟨some 5, .mv (.const (.int .i64 0)), none, false⟩])
   (.seq
    (.ops [⟨some 9, .mv (t 0), none, false⟩, ⟨some 10, .call 13 [(t 9)], none, false⟩, ⟨some 6, .mv (t 10), none, false⟩])
    (.seq
     (.seq
      (.ops [⟨some 11, .mv (t 6), none, false⟩, ⟨some 12, .bin .neq (t 11) (.const (.int .i64 0)), none, false⟩])
      (.cond (t 12)
       (.seq
        (.ops [⟨some 13, .build [.slice none 0 0, .slice none 0 0, .int .i64 0] [], none, false⟩, ⟨some 14, .mv (t 6), none, false⟩, ⟨none, .st 3 (t 4) (t 13), none, false⟩, ⟨some 5, .mv (t 14), none, false⟩])
        .ret)
       .skip))
     (.seq
      (.seq
       (.ops [⟨some 15, .mv (t 1), none, false⟩, ⟨some 16, .call 27 [(t 15), (.const (.int .i64 0)), (.const (.int .i64 140737488355328))], none, false⟩, ⟨some 17, .not (t 16), none, false⟩])
       (.cond (t 17)
        (.seq
         (.ops [⟨some 18, .build [.slice none 0 0, .slice none 0 0, .int .i64 0] [], none, false⟩, ⟨none, .st 3 (t 4) (t 18), none, false⟩, ⟨some 5, .mv (.const (.int .i64 5)), none, false⟩])
         .ret)
        .skip))
      (.seq
       (.ops [⟨some 19, .mv (t 0), none, false⟩, ⟨some 20, .lenS (t 19), none, false⟩, ⟨some 21, .mkSl 4 1 1 [.bool false] (t 20) (t 20), none, false⟩, ⟨some 22, .build [.slice none 0 0, .slice none 0 0, .int .i64 0] [(1, 1, (t 21))], none, false⟩, ⟨some 7, .alloc 27 [.slice none 0 0, .slice none 0 0, .int .i64 0], none, false⟩, ⟨none, .st 3 (t 7) (t 22), none, false⟩])
       (.seq
        (.ops [⟨some 8, .mv (.const (.bool true)), none, false⟩])
        (.seq
         (.block 0
          (.loop
           (.seq
            (.seq
             (.ops [⟨some 23, .mv (t 8), none, false⟩])
             (.cond (t 23)
              .skip
              (.exit 0)))
            (.block 1
             (.seq
              (.ops [⟨some 25, .mv (t 0), none, false⟩, ⟨some 26, .mv (t 1), none, false⟩, ⟨some 27, .fldA 1 (t 7), none, false⟩, ⟨some 28, .ld false 1 (t 27), none, false⟩, ⟨some 29, .call 28 [(t 25), (t 26), (t 28)], none, false⟩, ⟨some 24, .mv (t 29), none, false⟩, ⟨some 30, .ext (t 24) 0, none, false⟩, ⟨some 31, .ext (t 24) 1, none, false⟩, ⟨some 32, .fldA 0 (t 7), none, false⟩, ⟨none, .st 1 (t 32) (t 30), none, false⟩, ⟨some 8, .mv (t 31), none, false⟩])
              (.ops [⟨some 33, .fldA 2 (t 7), none, false⟩, ⟨some 34, .ld false 1 (t 33), none, false⟩, ⟨some 35, .bin .add (t 34) (.const (.int .i64 1)), none, false⟩, ⟨some 36, .fldA 2 (t 7), none, false⟩, ⟨none, .st 1 (t 36) (t 35), none, false⟩]))))))
         (.seq
          (.seq
           (.ops [⟨some 37, .fldA 0 (t 7), none, false⟩, ⟨some 38, .ld false 1 (t 37), none, false⟩, ⟨some 39, .mv (t 0), none, false⟩, ⟨some 40, .lenS (t 39), none, false⟩, ⟨some 41, .idxS 1 (t 38) (t 40), none, false⟩, ⟨some 42, .ld false 1 (t 41), none, false⟩, ⟨some 43, .mv (t 1), none, false⟩, ⟨some 44, .bin .sub (t 42) (t 43), none, false⟩, ⟨some 45, .bin .gtr (t 44) (.const (.int .i64 1048576)), none, false⟩])
           (.cond (t 45)
            (.seq
             (.ops [⟨some 46, .build [.slice none 0 0, .slice none 0 0, .int .i64 0] [], none, false⟩, ⟨none, .st 3 (t 4) (t 46), none, false⟩, ⟨some 5, .mv (.const (.int .i64 3)), none, false⟩])
             .ret)
            .skip))
          (.seq
           (.seq
            (.ops [⟨some 47, .mv (t 0), none, false⟩, ⟨some 48, .mv (t 1), none, false⟩, ⟨some 49, .fldA 1 (t 7), none, false⟩, ⟨some 50, .ld false 1 (t 49), none, false⟩, ⟨some 51, .call 29 [(t 47), (t 48), (t 50)], none, false⟩, ⟨some 52, .not (t 51), none, false⟩])
            (.cond (t 52)
             (.seq
              (.ops [⟨some 53, .build [.slice none 0 0, .slice none 0 0, .int .i64 0] [], none, false⟩, ⟨none, .st 3 (t 4) (t 53), none, false⟩, ⟨some 5, .mv (.const (.int .i64 5)), none, false⟩])
              .ret)
             .skip))
           (.seq
            (.ops [⟨some 54, .ld true 3 (t 7), none, false⟩, ⟨none, .st 3 (t 4) (t 54), none, false⟩, ⟨some 5, .mv (.const (.int .i64 0)), none, false⟩])
            .ret))))))))))
theorem comp10 : Try.f10.body.bind (comp Try.prog Try.f10.ntmps) = some pc10 := by kernel_rfl
theorem in10 {a0 a1 : Value} {H : Heap} {k : Value → Heap → Prop} (h : H.Wf → pexec Try.prog pc10 ⟨Rt Try.prog Try.f10 H k, noEx⟩ (Rt Try.prog Try.f10 H k) (upd (upd U 0 a0) 1 a1) H) : CallQ Try.prog 10 [a0, a1] H k := call_in Try.func10 comp10 (by kernel_rfl) (by kernel_rfl) (env2 a0 a1) h
theorem ret11 (H0 H : Heap) (k : Value → Heap → Prop) (A : Env) : Rt Try.prog Try.f11 H0 k A H = Ret H0 k (A 4) H := rt_1 (by kernel_rfl) (by kernel_rfl)
/-- linotype/linotypekit.SamePlan -/
noncomputable def pc11 : PC :=
  (.seq
   (.ops [⟨some 2, .box 27 (t 0), none, false⟩, ⟨some 3, .box 27 (t 1), none, false⟩, ⟨some 4, .mv (.const (.bool false)), none, false⟩])
   (.seq
    (.ops [⟨some 5, .fldA 0 (t 2), none, false⟩, ⟨some 6, .ld false 1 (t 5), none, false⟩, ⟨some 7, .fldA 0 (t 3), none, false⟩, ⟨some 8, .ld false 1 (t 7), none, false⟩, ⟨some 9, .call 30 [(t 6), (t 8)], none, false⟩, ⟨some 10, .mv (t 9), none, false⟩, ⟨some 11, .fldA 1 (t 2), some (10, true), false⟩, ⟨some 12, .ld false 1 (t 11), some (10, true), false⟩, ⟨some 13, .fldA 1 (t 3), some (10, true), false⟩, ⟨some 14, .ld false 1 (t 13), some (10, true), false⟩, ⟨some 15, .call 18 [(t 12), (t 14)], some (10, true), false⟩, ⟨some 16, .pick (t 10) (t 15) (.const (.bool false)), none, false⟩, ⟨some 17, .mv (t 16), none, false⟩, ⟨some 18, .fldA 2 (t 2), some (17, true), false⟩, ⟨some 19, .ld false 1 (t 18), some (17, true), false⟩, ⟨some 20, .fldA 2 (t 3), some (17, true), false⟩, ⟨some 21, .ld false 1 (t 20), some (17, true), false⟩, ⟨some 22, .bin .eql (t 19) (t 21), some (17, true), false⟩, ⟨some 23, .pick (t 17) (t 22) (.const (.bool false)), none, false⟩, ⟨some 4, .mv (t 23), none, false⟩])
    .ret))
theorem comp11 : Try.f11.body.bind (comp Try.prog Try.f11.ntmps) = some pc11 := by kernel_rfl
theorem in11 {a0 a1 : Value} {H : Heap} {k : Value → Heap → Prop} (h : H.Wf → pexec Try.prog pc11 ⟨Rt Try.prog Try.f11 H k, noEx⟩ (Rt Try.prog Try.f11 H k) (upd (upd U 0 a0) 1 a1) H) : CallQ Try.prog 11 [a0, a1] H k := call_in Try.func11 comp11 (by kernel_rfl) (by kernel_rfl) (env2 a0 a1) h
theorem ret12 (H0 H : Heap) (k : Value → Heap → Prop) (A : Env) : Rt Try.prog Try.f12 H0 k A H = Ret H0 k (A 2) H := rt_1 (by kernel_rfl) (by kernel_rfl)
/-- linotype/layout.Check -/
noncomputable def pc12 : PC :=
  (.seq
   (.ops [⟨some 2, .mv (.const (.int .i64 0)), none, false⟩])
   (.seq
    (.seq
     (.ops [⟨some 5, .mv (t 0), none, false⟩, ⟨some 6, .lenS (t 5), none, false⟩, ⟨some 7, .bin .gtr (t 6) (.const (.int .i64 20000)), none, false⟩])
     (.cond (t 7)
      (.seq
       (.ops [⟨some 2, .mv (.const (.int .i64 3)), none, false⟩])
       .ret)
      .skip))
    (.seq
     (.seq
      (.ops [⟨some 8, .mv (t 0), none, false⟩, ⟨some 9, .lenS (t 8), none, false⟩, ⟨some 10, .mv (.const (.int .i64 0)), none, false⟩])
      (.block 0
       (.loop
        (.seq
         (.ops [⟨some 11, .bin .lss (t 10) (t 9), none, false⟩])
         (.seq
          (.cond (t 11)
           .skip
           (.exit 0))
          (.seq
           (.block 1
            (.seq
             (.ops [⟨some 12, .idxS 7 (t 8) (t 10), none, false⟩, ⟨some 13, .ld true 7 (t 12), none, false⟩, ⟨some 4, .alloc 38 [.int .i64 0, .int .i64 0, .int .i64 0, .int .i64 0, .int .i64 0, .int .i64 0, .int .i64 0], none, false⟩, ⟨none, .st 7 (t 4) (t 13), none, false⟩])
             (.seq
              (.ops [⟨some 14, .ld true 7 (t 4), none, false⟩, ⟨some 15, .mv (t 0), none, false⟩, ⟨some 16, .lenS (t 15), none, false⟩, ⟨some 17, .call 31 [(t 14), (t 16)], none, false⟩, ⟨some 18, .not (t 17), none, false⟩])
              (.cond (t 18)
               (.seq
                (.ops [⟨some 2, .mv (.const (.int .i64 2)), none, false⟩])
                .ret)
               .skip))))
           (.ops [⟨some 19, .bin .add (t 10) (.const (.int .i64 1)), none, false⟩, ⟨some 10, .mv (t 19), none, false⟩])))))))
     (.seq
      (.ops [⟨some 2, .mv (.const (.int .i64 0)), none, false⟩])
      .ret))))
theorem comp12 : Try.f12.body.bind (comp Try.prog Try.f12.ntmps) = some pc12 := by kernel_rfl
theorem in12 {a0 : Value} {H : Heap} {k : Value → Heap → Prop} (h : H.Wf → pexec Try.prog pc12 ⟨Rt Try.prog Try.f12 H k, noEx⟩ (Rt Try.prog Try.f12 H k) (upd U 0 a0) H) : CallQ Try.prog 12 [a0] H k := call_in Try.func12 comp12 (by kernel_rfl) (by kernel_rfl) (env1 a0) h
theorem ret13 (H0 H : Heap) (k : Value → Heap → Prop) (A : Env) : Rt Try.prog Try.f13 H0 k A H = Ret H0 k (A 2) H := rt_1 (by kernel_rfl) (by kernel_rfl)
/-- linotype/linotyperef27.Check -/
noncomputable def pc13 : PC :=
  (.seq
   (.ops [⟨some 2, .mv (.const (.int .i64 0)), none, false⟩])
   (.seq
    (.seq
     (.ops [⟨some 4, .mv (t 0), none, false⟩, ⟨some 5, .lenS (t 4), none, false⟩, ⟨some 6, .bin .gtr (t 5) (.const (.int .i64 20000)), none, false⟩])
     (.cond (t 6)
      (.seq
       (.ops [⟨some 2, .mv (.const (.int .i64 3)), none, false⟩])
       .ret)
      .skip))
    (.seq
     (.seq
      (.ops [⟨some 3, .mv (.const (.int .i64 0)), none, false⟩])
      (.block 0
       (.loop
        (.seq
         (.seq
          (.ops [⟨some 7, .mv (t 3), none, false⟩, ⟨some 8, .mv (t 0), none, false⟩, ⟨some 9, .lenS (t 8), none, false⟩, ⟨some 10, .bin .lss (t 7) (t 9), none, false⟩])
          (.cond (t 10)
           .skip
           (.exit 0)))
         (.seq
          (.block 1
           (.seq
            (.ops [⟨some 13, .mv (t 0), none, false⟩, ⟨some 14, .mv (t 3), none, false⟩, ⟨some 15, .idxS 7 (t 13) (t 14), none, false⟩, ⟨some 16, .ld true 7 (t 15), none, false⟩, ⟨some 17, .mv (t 0), none, false⟩, ⟨some 18, .lenS (t 17), none, false⟩, ⟨some 19, .call 32 [(t 16), (t 18)], none, false⟩, ⟨some 20, .not (t 19), none, false⟩])
            (.cond (t 20)
             (.seq
              (.ops [⟨some 2, .mv (.const (.int .i64 2)), none, false⟩])
              .ret)
             .skip)))
          (.ops [⟨some 11, .mv (t 3), none, false⟩, ⟨some 12, .bin .add (t 11) (.const (.int .i64 1)), none, false⟩, ⟨some 3, .mv (t 12), none, false⟩]))))))
     (.seq
      (.ops [⟨some 2, .mv (.const (.int .i64 0)), none, false⟩])
      .ret))))
theorem comp13 : Try.f13.body.bind (comp Try.prog Try.f13.ntmps) = some pc13 := by kernel_rfl
theorem in13 {a0 : Value} {H : Heap} {k : Value → Heap → Prop} (h : H.Wf → pexec Try.prog pc13 ⟨Rt Try.prog Try.f13 H k, noEx⟩ (Rt Try.prog Try.f13 H k) (upd U 0 a0) H) : CallQ Try.prog 13 [a0] H k := call_in Try.func13 comp13 (by kernel_rfl) (by kernel_rfl) (env1 a0) h
theorem ret14 (H0 H : Heap) (k : Value → Heap → Prop) (A : Env) : Rt Try.prog Try.f14 H0 k A H = Ret H0 k (A 4) H := rt_1 (by kernel_rfl) (by kernel_rfl)
/-- linotype/linotypekit.SamePieces -/
noncomputable def pc14 : PC :=
  (.seq
   (.ops [⟨some 4, .mv (.const (.bool false)), none, false⟩])
   (.seq
    (.seq
     (.ops [⟨some 6, .mv (t 0), none, false⟩, ⟨some 7, .lenS (t 6), none, false⟩, ⟨some 8, .mv (t 1), none, false⟩, ⟨some 9, .lenS (t 8), none, false⟩, ⟨some 10, .bin .neq (t 7) (t 9), none, false⟩])
     (.cond (t 10)
      (.seq
       (.ops [⟨some 4, .mv (.const (.bool false)), none, false⟩])
       .ret)
      .skip))
    (.seq
     (.seq
      (.ops [⟨some 5, .mv (.const (.int .i64 0)), none, false⟩])
      (.block 0
       (.loop
        (.seq
         (.seq
          (.ops [⟨some 11, .mv (t 5), none, false⟩, ⟨some 12, .mv (t 0), none, false⟩, ⟨some 13, .lenS (t 12), none, false⟩, ⟨some 14, .bin .lss (t 11) (t 13), none, false⟩])
          (.cond (t 14)
           .skip
           (.exit 0)))
         (.seq
          (.block 1
           (.seq
            (.ops [⟨some 17, .mv (t 0), none, false⟩, ⟨some 18, .mv (t 5), none, false⟩, ⟨some 19, .idxS 7 (t 17) (t 18), none, false⟩, ⟨some 20, .ld true 7 (t 19), none, false⟩, ⟨some 21, .mv (t 1), none, false⟩, ⟨some 22, .mv (t 5), none, false⟩, ⟨some 23, .idxS 7 (t 21) (t 22), none, false⟩, ⟨some 24, .ld true 7 (t 23), none, false⟩, ⟨some 25, .eqs true [.i, .i, .i, .i, .i, .i, .i] (t 20) (t 24), none, false⟩])
            (.cond (t 25)
             (.seq
              (.ops [⟨some 4, .mv (.const (.bool false)), none, false⟩])
              .ret)
             .skip)))
          (.ops [⟨some 15, .mv (t 5), none, false⟩, ⟨some 16, .bin .add (t 15) (.const (.int .i64 1)), none, false⟩, ⟨some 5, .mv (t 16), none, false⟩]))))))
     (.seq
      (.ops [⟨some 4, .mv (.const (.bool true)), none, false⟩])
      .ret))))
theorem comp14 : Try.f14.body.bind (comp Try.prog Try.f14.ntmps) = some pc14 := by kernel_rfl
theorem in14 {a0 a1 : Value} {H : Heap} {k : Value → Heap → Prop} (h : H.Wf → pexec Try.prog pc14 ⟨Rt Try.prog Try.f14 H k, noEx⟩ (Rt Try.prog Try.f14 H k) (upd (upd U 0 a0) 1 a1) H) : CallQ Try.prog 14 [a0, a1] H k := call_in Try.func14 comp14 (by kernel_rfl) (by kernel_rfl) (env2 a0 a1) h
theorem ret15 (H0 H : Heap) (k : Value → Heap → Prop) (A : Env) : Rt Try.prog Try.f15 H0 k A H = Ret H0 k (.tuple #[]) H := rt_0 (by kernel_rfl)
/-- linotype/linotypekit.OverPlan -/
noncomputable def pc15 : PC :=
  (.seq
   (.ops [⟨some 1, .box 27 (t 0), none, false⟩])
   (.seq
    (.ops [⟨some 3, .fldA 0 (t 1), none, false⟩, ⟨some 4, .ld false 1 (t 3), none, false⟩, ⟨some 5, .call 33 [(t 4)], none, false⟩])
    (.seq
     (.ops [⟨some 2, .mv (.const (.int .i64 0)), none, false⟩])
     (.block 0
      (.loop
       (.seq
        (.seq
         (.ops [⟨some 6, .mv (t 2), none, false⟩, ⟨some 7, .fldA 1 (t 1), none, false⟩, ⟨some 8, .ld false 1 (t 7), none, false⟩, ⟨some 9, .lenS (t 8), none, false⟩, ⟨some 10, .bin .lss (t 6) (t 9), none, false⟩])
         (.cond (t 10)
          .skip
          (.exit 0)))
        (.seq
         (.block 1
          (.ops [⟨some 13, .fldA 1 (t 1), none, false⟩, ⟨some 14, .ld false 1 (t 13), none, false⟩, ⟨some 15, .mv (t 2), none, false⟩, ⟨some 16, .fldA 1 (t 1), none, false⟩, ⟨some 17, .ld false 1 (t 16), none, false⟩, ⟨some 18, .mv (t 2), none, false⟩, ⟨some 19, .idxS 1 (t 17) (t 18), none, false⟩, ⟨some 20, .ld false 1 (t 19), none, false⟩, ⟨some 21, .not (t 20), none, false⟩, ⟨some 22, .idxS 1 (t 14) (t 15), none, false⟩, ⟨none, .st 1 (t 22) (t 21), none, false⟩]))
         (.ops [⟨some 11, .mv (t 2), none, false⟩, ⟨some 12, .bin .add (t 11) (.const (.int .i64 1)), none, false⟩, ⟨some 2, .mv (t 12), none, false⟩]))))))))
theorem comp15 : Try.f15.body.bind (comp Try.prog Try.f15.ntmps) = some pc15 := by kernel_rfl
theorem in15 {a0 : Value} {H : Heap} {k : Value → Heap → Prop} (h : H.Wf → pexec Try.prog pc15 ⟨Rt Try.prog Try.f15 H k, noEx⟩ (Rt Try.prog Try.f15 H k) (upd U 0 a0) H) : CallQ Try.prog 15 [a0] H k := call_in Try.func15 comp15 (by kernel_rfl) (by kernel_rfl) (env1 a0) h
theorem ret16 (H0 H : Heap) (k : Value → Heap → Prop) (A : Env) : Rt Try.prog Try.f16 H0 k A H = Ret H0 k (A 0) H := rt_1 (by kernel_rfl) (by kernel_rfl)
/-- linotype/linotypelaw27.awake -/
noncomputable def pc16 : PC :=
  (.seq
   (.ops [⟨some 0, .mv (.const (.bool false)), none, false⟩])
   (.seq
    (.ops [⟨some 1, .call 21 [(.const (.int .i64 2))], none, false⟩, ⟨some 2, .call 19 [(.const (.int .i64 127))], none, false⟩, ⟨some 3, .bslice 38 7 2 [.int .i64 0, .int .i64 0, .int .i64 0, .int .i64 0, .int .i64 0, .int .i64 0, .int .i64 0, .int .i64 0, .int .i64 0, .int .i64 0, .int .i64 0, .int .i64 0, .int .i64 0, .int .i64 0] [(0, (t 1)), (1, (t 2))], none, false⟩, ⟨some 4, .bslice 4 1 2 [.bool false, .bool false] [(0, (.const (.bool false))), (1, (.const (.bool false)))], none, false⟩, ⟨some 5, .bslice 3 1 3 [.int .i64 0, .int .i64 0, .int .i64 0] [(0, (.const (.int .i64 0))), (1, (.const (.int .i64 2))), (2, (.const (.int .i64 129)))], none, false⟩, ⟨some 6, .call 22 [(.const (.int .i64 0)), (t 3), (t 4), (.const (.int .i64 1)), (t 5)], none, false⟩, ⟨some 7, .mv (t 6), none, false⟩, ⟨some 8, .call 21 [(.const (.int .i64 2))], some (7, true), false⟩, ⟨some 9, .call 19 [(.const (.int .i64 128))], some (7, true), false⟩, ⟨some 10, .bslice 38 7 2 [.int .i64 0, .int .i64 0, .int .i64 0, .int .i64 0, .int .i64 0, .int .i64 0, .int .i64 0, .int .i64 0, .int .i64 0, .int .i64 0, .int .i64 0, .int .i64 0, .int .i64 0, .int .i64 0] [(0, (t 8)), (1, (t 9))], some (7, true), false⟩, ⟨some 11, .bslice 4 1 2 [.bool false, .bool false] [(0, (.const (.bool true))), (1, (.const (.bool false)))], some (7, true), false⟩, ⟨some 12, .bslice 3 1 3 [.int .i64 0, .int .i64 0, .int .i64 0] [(0, (.const (.int .i64 0))), (1, (.const (.int .i64 5))), (2, (.const (.int .i64 133)))], some (7, true), false⟩, ⟨some 13, .call 22 [(.const (.int .i64 0)), (t 10), (t 11), (.const (.int .i64 2)), (t 12)], some (7, true), false⟩, ⟨some 14, .pick (t 7) (t 13) (.const (.bool false)), none, false⟩, ⟨some 0, .mv (t 14), none, false⟩])
    .ret))
theorem comp16 : Try.f16.body.bind (comp Try.prog Try.f16.ntmps) = some pc16 := by kernel_rfl
theorem in16 {H : Heap} {k : Value → Heap → Prop} (h : H.Wf → pexec Try.prog pc16 ⟨Rt Try.prog Try.f16 H k, noEx⟩ (Rt Try.prog Try.f16 H k) U H) : CallQ Try.prog 16 [] H k := call_in Try.func16 comp16 (by kernel_rfl) (by kernel_rfl) env0 h
theorem ret17 (H0 H : Heap) (k : Value → Heap → Prop) (A : Env) : Rt Try.prog Try.f17 H0 k A H = Ret H0 k (A 4) H := rt_1 (by kernel_rfl) (by kernel_rfl)
/-- linotype/linotypekit.Pick -/
noncomputable def pc17 : PC :=
  (.seq
   (.ops [⟨some 4, .mv (.const (.int .i64 0)), none, false⟩])
   (.seq
    (.seq
     (.ops [⟨some 5, .mv (t 1), none, false⟩, ⟨some 6, .bin .lss (t 5) (.const (.int .i64 1)), none, false⟩])
     (.cond (t 6)
      (.seq
       (.ops [⟨some 4, .mv (.const (.int .i64 0)), none, false⟩])
       .ret)
      .skip))
    (.seq
     (.ops [⟨some 7, .mv (t 0), none, false⟩, ⟨some 8, .mv (t 1), none, false⟩, ⟨some 9, .bin .rem (t 7) (t 8), none, false⟩, ⟨some 0, .mv (t 9), none, false⟩])
     (.seq
      (.seq
       (.ops [⟨some 10, .mv (t 0), none, false⟩, ⟨some 11, .bin .lss (t 10) (.const (.int .i64 0)), none, false⟩])
       (.cond (t 11)
        (.ops [⟨some 12, .mv (t 0), none, false⟩, ⟨some 13, .mv (t 1), none, false⟩, ⟨some 14, .bin .add (t 12) (t 13), none, false⟩, ⟨some 0, .mv (t 14), none, false⟩])
        .skip))
      (.seq
       (.ops [⟨some 15, .mv (t 0), none, false⟩, ⟨some 4, .mv (t 15), none, false⟩])
       .ret)))))
theorem comp17 : Try.f17.body.bind (comp Try.prog Try.f17.ntmps) = some pc17 := by kernel_rfl
theorem in17 {a0 a1 : Value} {H : Heap} {k : Value → Heap → Prop} (h : H.Wf → pexec Try.prog pc17 ⟨Rt Try.prog Try.f17 H k, noEx⟩ (Rt Try.prog Try.f17 H k) (upd (upd U 0 a0) 1 a1) H) : CallQ Try.prog 17 [a0, a1] H k := call_in Try.func17 comp17 (by kernel_rfl) (by kernel_rfl) (env2 a0 a1) h
theorem ret18 (H0 H : Heap) (k : Value → Heap → Prop) (A : Env) : Rt Try.prog Try.f18 H0 k A H = Ret H0 k (A 4) H := rt_1 (by kernel_rfl) (by kernel_rfl)
/-- linotype/linotypekit.SameBools -/
noncomputable def pc18 : PC :=
  (.seq
   (.ops [⟨some 4, .mv (.const (.bool false)), none, false⟩])
   (.seq
    (.seq
     (.ops [⟨some 6, .mv (t 0), none, false⟩, ⟨some 7, .lenS (t 6), none, false⟩, ⟨some 8, .mv (t 1), none, false⟩, ⟨some 9, .lenS (t 8), none, false⟩, ⟨some 10, .bin .neq (t 7) (t 9), none, false⟩])
     (.cond (t 10)
      (.seq
       (.ops [⟨some 4, .mv (.const (.bool false)), none, false⟩])
       .ret)
      .skip))
    (.seq
     (.seq
      (.ops [⟨some 5, .mv (.const (.int .i64 0)), none, false⟩])
      (.block 0
       (.loop
        (.seq
         (.seq
          (.ops [⟨some 11, .mv (t 5), none, false⟩, ⟨some 12, .mv (t 0), none, false⟩, ⟨some 13, .lenS (t 12), none, false⟩, ⟨some 14, .bin .lss (t 11) (t 13), none, false⟩])
          (.cond (t 14)
           .skip
           (.exit 0)))
         (.seq
          (.block 1
           (.seq
            (.ops [⟨some 17, .mv (t 0), none, false⟩, ⟨some 18, .mv (t 5), none, false⟩, ⟨some 19, .idxS 1 (t 17) (t 18), none, false⟩, ⟨some 20, .ld false 1 (t 19), none, false⟩, ⟨some 21, .mv (t 1), none, false⟩, ⟨some 22, .mv (t 5), none, false⟩, ⟨some 23, .idxS 1 (t 21) (t 22), none, false⟩, ⟨some 24, .ld false 1 (t 23), none, false⟩, ⟨some 25, .beq true (t 20) (t 24), none, false⟩])
            (.cond (t 25)
             (.seq
              (.ops [⟨some 4, .mv (.const (.bool false)), none, false⟩])
              .ret)
             .skip)))
          (.ops [⟨some 15, .mv (t 5), none, false⟩, ⟨some 16, .bin .add (t 15) (.const (.int .i64 1)), none, false⟩, ⟨some 5, .mv (t 16), none, false⟩]))))))
     (.seq
      (.ops [⟨some 4, .mv (.const (.bool true)), none, false⟩])
      .ret))))
theorem comp18 : Try.f18.body.bind (comp Try.prog Try.f18.ntmps) = some pc18 := by kernel_rfl
theorem in18 {a0 a1 : Value} {H : Heap} {k : Value → Heap → Prop} (h : H.Wf → pexec Try.prog pc18 ⟨Rt Try.prog Try.f18 H k, noEx⟩ (Rt Try.prog Try.f18 H k) (upd (upd U 0 a0) 1 a1) H) : CallQ Try.prog 18 [a0, a1] H k := call_in Try.func18 comp18 (by kernel_rfl) (by kernel_rfl) (env2 a0 a1) h
theorem ret19 (H0 H : Heap) (k : Value → Heap → Prop) (A : Env) : Rt Try.prog Try.f19 H0 k A H = ldR true 7 (A 2) H fun v => Ret H0 k v H := rt_c (ty := 38) (by kernel_rfl) (by kernel_rfl) (by kernel_rfl)
/-- linotype/linotypelaw27.fixed -/
noncomputable def pc19 : PC :=
  (.seq
   (.ops [⟨some 2, .alloc 38 [.int .i64 0, .int .i64 0, .int .i64 0, .int .i64 0, .int .i64 0, .int .i64 0, .int .i64 0], none, false⟩])
   (.seq
    (.ops [⟨some 3, .mv (t 0), none, false⟩, ⟨some 4, .build [.int .i64 0, .int .i64 0, .int .i64 0, .int .i64 0, .int .i64 0, .int .i64 0, .int .i64 0] [(0, 1, (.const (.int .i64 1))), (1, 1, (t 3))], none, false⟩, ⟨none, .st 7 (t 2) (t 4), none, false⟩])
    .ret))
theorem comp19 : Try.f19.body.bind (comp Try.prog Try.f19.ntmps) = some pc19 := by kernel_rfl
theorem in19 {a0 : Value} {H : Heap} {k : Value → Heap → Prop} (h : H.Wf → pexec Try.prog pc19 ⟨Rt Try.prog Try.f19 H k, noEx⟩ (Rt Try.prog Try.f19 H k) (upd U 0 a0) H) : CallQ Try.prog 19 [a0] H k := call_in Try.func19 comp19 (by kernel_rfl) (by kernel_rfl) (env1 a0) h
theorem ret20 (H0 H : Heap) (k : Value → Heap → Prop) (A : Env) : Rt Try.prog Try.f20 H0 k A H = ldR true 7 (A 2) H fun v => Ret H0 k v H := rt_c (ty := 38) (by kernel_rfl) (by kernel_rfl) (by kernel_rfl)
/-- linotype/linotypelaw27.align -/
noncomputable def pc20 : PC :=
  (.seq
   (.ops [⟨some 2, .alloc 38 [.int .i64 0, .int .i64 0, .int .i64 0, .int .i64 0, .int .i64 0, .int .i64 0, .int .i64 0], none, false⟩])
   (.seq
    (.ops [⟨some 3, .mv (t 0), none, false⟩, ⟨some 4, .build [.int .i64 0, .int .i64 0, .int .i64 0, .int .i64 0, .int .i64 0, .int .i64 0, .int .i64 0] [(0, 1, (.const (.int .i64 3))), (6, 1, (t 3))], none, false⟩, ⟨none, .st 7 (t 2) (t 4), none, false⟩])
    .ret))
theorem comp20 : Try.f20.body.bind (comp Try.prog Try.f20.ntmps) = some pc20 := by kernel_rfl
theorem in20 {a0 : Value} {H : Heap} {k : Value → Heap → Prop} (h : H.Wf → pexec Try.prog pc20 ⟨Rt Try.prog Try.f20 H k, noEx⟩ (Rt Try.prog Try.f20 H k) (upd U 0 a0) H) : CallQ Try.prog 20 [a0] H k := call_in Try.func20 comp20 (by kernel_rfl) (by kernel_rfl) (env1 a0) h
theorem ret21 (H0 H : Heap) (k : Value → Heap → Prop) (A : Env) : Rt Try.prog Try.f21 H0 k A H = ldR true 7 (A 2) H fun v => Ret H0 k v H := rt_c (ty := 38) (by kernel_rfl) (by kernel_rfl) (by kernel_rfl)
/-- linotype/linotypelaw27.branch -/
noncomputable def pc21 : PC :=
  (.seq
   (.ops [⟨some 2, .alloc 38 [.int .i64 0, .int .i64 0, .int .i64 0, .int .i64 0, .int .i64 0, .int .i64 0, .int .i64 0], none, false⟩])
   (.seq
    (.ops [⟨some 3, .mv (t 0), none, false⟩, ⟨some 4, .build [.int .i64 0, .int .i64 0, .int .i64 0, .int .i64 0, .int .i64 0, .int .i64 0, .int .i64 0] [(0, 1, (.const (.int .i64 2))), (2, 1, (.const (.int .i64 2))), (3, 1, (.const (.int .i64 5))), (4, 1, (t 3))], none, false⟩, ⟨none, .st 7 (t 2) (t 4), none, false⟩])
    .ret))
theorem comp21 : Try.f21.body.bind (comp Try.prog Try.f21.ntmps) = some pc21 := by kernel_rfl
theorem in21 {a0 : Value} {H : Heap} {k : Value → Heap → Prop} (h : H.Wf → pexec Try.prog pc21 ⟨Rt Try.prog Try.f21 H k, noEx⟩ (Rt Try.prog Try.f21 H k) (upd U 0 a0) H) : CallQ Try.prog 21 [a0] H k := call_in Try.func21 comp21 (by kernel_rfl) (by kernel_rfl) (env1 a0) h
theorem ret22 (H0 H : Heap) (k : Value → Heap → Prop) (A : Env) : Rt Try.prog Try.f22 H0 k A H = Ret H0 k (A 10) H := rt_1 (by kernel_rfl) (by kernel_rfl)
/-- linotype/linotypelaw27.lies -/
noncomputable def pc22 : PC :=
  (.seq
   (.ops [⟨some 10, .mv (.const (.bool false)), none, false⟩])
   (.seq
    (.ops [⟨some 14, .mv (t 1), none, false⟩, ⟨some 15, .mv (t 0), none, false⟩, ⟨some 16, .call 9 [(t 14), (t 15)], none, false⟩, ⟨some 13, .mv (t 16), none, false⟩, ⟨some 17, .ext (t 13) 0, none, false⟩, ⟨some 18, .ext (t 13) 1, none, false⟩, ⟨some 11, .alloc 27 [.slice none 0 0, .slice none 0 0, .int .i64 0], none, false⟩, ⟨none, .st 3 (t 11) (t 17), none, false⟩, ⟨some 12, .mv (t 18), none, false⟩])
    (.seq
     (.ops [⟨some 19, .mv (t 12), none, false⟩, ⟨some 20, .bin .eql (t 19) (.const (.int .i64 0)), none, false⟩, ⟨some 21, .mv (t 20), none, false⟩, ⟨some 22, .ld true 3 (t 11), some (21, true), false⟩, ⟨some 23, .mv (t 4), some (21, true), false⟩, ⟨some 24, .mv (t 2), some (21, true), false⟩, ⟨some 25, .mv (t 3), some (21, true), false⟩, ⟨some 26, .build [.slice none 0 0, .slice none 0 0, .int .i64 0] [(0, 1, (t 23)), (1, 1, (t 24)), (2, 1, (t 25))], some (21, true), false⟩, ⟨some 27, .call 11 [(t 22), (t 26)], some (21, true), false⟩, ⟨some 28, .pick (t 21) (t 27) (.const (.bool false)), none, false⟩, ⟨some 10, .mv (t 28), none, false⟩])
     .ret)))
theorem comp22 : Try.f22.body.bind (comp Try.prog Try.f22.ntmps) = some pc22 := by kernel_rfl
theorem in22 {a0 a1 a2 a3 a4 : Value} {H : Heap} {k : Value → Heap → Prop} (h : H.Wf → pexec Try.prog pc22 ⟨Rt Try.prog Try.f22 H k, noEx⟩ (Rt Try.prog Try.f22 H k) (upd (upd (upd (upd (upd U 0 a0) 1 a1) 2 a2) 3 a3) 4 a4) H) : CallQ Try.prog 22 [a0, a1, a2, a3, a4] H k := call_in Try.func22 comp22 (by kernel_rfl) (by kernel_rfl) (env5 a0 a1 a2 a3 a4) h
theorem ret23 (H0 H : Heap) (k : Value → Heap → Prop) (A : Env) : Rt Try.prog Try.f23 H0 k A H = Ret H0 k (A 6) H := rt_1 (by kernel_rfl) (by kernel_rfl)
/-- linotype/layout.Fits -/
noncomputable def pc23 : PC :=
  (.seq
   (.ops [⟨some 6, .mv (.const (.bool false)), none, false⟩])
   (.seq
    (.seq
     (.ops [⟨some 14, .mv (t 0), none, false⟩, ⟨some 15, .call 12 [(t 14)], none, false⟩, ⟨some 16, .bin .neq (t 15) (.const (.int .i64 0)), none, false⟩, ⟨some 17, .mv (t 16), none, false⟩, ⟨some 18, .mv (t 1), some (17, false), false⟩, ⟨some 19, .bin .lss (t 18) (.const (.int .i64 0)), some (17, false), false⟩, ⟨some 20, .pick (t 17) (.const (.bool true)) (t 19), none, false⟩, ⟨some 21, .mv (t 20), none, false⟩, ⟨some 22, .mv (t 1), some (21, false), false⟩, ⟨some 23, .bin .gtr (t 22) (.const (.int .i64 140737488355328)), some (21, false), false⟩, ⟨some 24, .pick (t 21) (.const (.bool true)) (t 23), none, false⟩, ⟨some 25, .mv (t 24), none, false⟩, ⟨some 26, .mv (t 2), some (25, false), false⟩, ⟨some 27, .lenS (t 26), some (25, false), false⟩, ⟨some 28, .mv (t 0), some (25, false), false⟩, ⟨some 29, .lenS (t 28), some (25, false), false⟩, ⟨some 30, .bin .neq (t 27) (t 29), some (25, false), false⟩, ⟨some 31, .pick (t 25) (.const (.bool true)) (t 30), none, false⟩])
     (.cond (t 31)
      (.seq
       (.ops [⟨some 6, .mv (.const (.bool false)), none, false⟩])
       .ret)
      .skip))
    (.seq
     (.ops [⟨some 32, .mv (t 0), none, false⟩, ⟨some 33, .call 24 [(t 32)], none, false⟩, ⟨some 7, .mv (t 33), none, false⟩])
     (.seq
      (.ops [⟨some 34, .mv (t 0), none, false⟩, ⟨some 35, .lenS (t 34), none, false⟩, ⟨some 36, .bin .add (t 35) (.const (.int .i64 1)), none, false⟩, ⟨some 37, .mkSl 3 1 8 [.int .i64 0] (t 36) (t 36), none, false⟩, ⟨some 8, .mv (t 37), none, false⟩])
      (.seq
       (.ops [⟨some 38, .mv (t 8), none, false⟩, ⟨some 39, .mv (t 7), none, false⟩, ⟨some 40, .mv (t 1), none, false⟩, ⟨some 41, .mv (t 2), none, false⟩, ⟨some 42, .call 25 [(t 38), (t 39), (t 40), (t 41)], none, false⟩])
       (.seq
        (.seq
         (.ops [⟨some 43, .mv (t 7), none, false⟩, ⟨some 44, .lenS (t 43), none, false⟩, ⟨some 45, .mv (.const (.int .i64 0)), none, false⟩])
         (.block 0
          (.loop
           (.seq
            (.ops [⟨some 46, .bin .lss (t 45) (t 44), none, false⟩])
            (.seq
             (.cond (t 46)
              .skip
              (.exit 0))
             (.seq
              (.block 1
               (.seq
                (.ops [⟨some 47, .mv (t 45), none, false⟩, ⟨some 48, .idxS 1 (t 43) (t 45), none, false⟩, ⟨some 49, .ld false 1 (t 48), none, false⟩, ⟨some 9, .mv (t 47), none, false⟩, ⟨some 10, .mv (t 49), none, false⟩])
                (.seq
                 (.ops [⟨some 51, .mv (t 10), none, false⟩, ⟨some 52, .asrt 51 (.agg #[.int .i64 0, .int .i64 0, .int .i64 0, .int .i64 0]) true (t 51), none, false⟩, ⟨some 50, .mv (t 52), none, false⟩, ⟨some 53, .ext (t 50) 0, none, false⟩, ⟨some 54, .ext (t 50) 1, none, false⟩, ⟨some 11, .alloc 51 [.int .i64 0, .int .i64 0, .int .i64 0, .int .i64 0], none, false⟩, ⟨none, .st 4 (t 11) (t 53), none, false⟩, ⟨some 12, .mv (t 54), none, false⟩])
                 (.seq
                  (.seq
                   (.ops [⟨some 55, .mv (t 12), none, false⟩, ⟨some 56, .not (t 55), none, false⟩])
                   (.cond (t 56)
                    (.exit 1)
                    .skip))
                  (.seq
                   (.ops [⟨some 13, .mv (.const (.int .i64 8)), none, false⟩])
                   (.seq
                    (.seq
                     (.ops [⟨some 57, .mv (t 2), none, false⟩, ⟨some 58, .mv (t 9), none, false⟩, ⟨some 59, .idxS 1 (t 57) (t 58), none, false⟩, ⟨some 60, .ld false 1 (t 59), none, false⟩])
                     (.cond (t 60)
                      (.ops [⟨some 13, .mv (.const (.int .i64 32)), none, false⟩])
                      .skip))
                    (.seq
                     (.ops [⟨some 61, .mv (t 8), none, false⟩, ⟨some 62, .mv (t 9), none, false⟩, ⟨some 63, .ld true 4 (t 11), none, false⟩, ⟨some 64, .mv (t 13), none, false⟩, ⟨some 65, .call 26 [(t 61), (t 62), (t 63), (t 64)], none, false⟩, ⟨some 66, .not (t 65), none, false⟩])
                     (.cond (t 66)
                      (.seq
                       (.ops [⟨some 6, .mv (.const (.bool false)), none, false⟩])
                       .ret)
                      .skip))))))))
              (.ops [⟨some 67, .bin .add (t 45) (.const (.int .i64 1)), none, false⟩, ⟨some 45, .mv (t 67), none, false⟩])))))))
        (.seq
         (.ops [⟨some 6, .mv (.const (.bool true)), none, false⟩])
         .ret)))))))
theorem comp23 : Try.f23.body.bind (comp Try.prog Try.f23.ntmps) = some pc23 := by kernel_rfl
theorem in23 {a0 a1 a2 : Value} {H : Heap} {k : Value → Heap → Prop} (h : H.Wf → pexec Try.prog pc23 ⟨Rt Try.prog Try.f23 H k, noEx⟩ (Rt Try.prog Try.f23 H k) (upd (upd (upd U 0 a0) 1 a1) 2 a2) H) : CallQ Try.prog 23 [a0, a1, a2] H k := call_in Try.func23 comp23 (by kernel_rfl) (by kernel_rfl) (env3 a0 a1 a2) h
theorem ret24 (H0 H : Heap) (k : Value → Heap → Prop) (A : Env) : Rt Try.prog Try.f24 H0 k A H = Ret H0 k (A 2) H := rt_1 (by kernel_rfl) (by kernel_rfl)
/-- linotype/layout.parts -/
noncomputable def pc24 : PC :=
  (.seq
   (.ops [⟨some 2, .mv (.const (.slice none 0 0)), none, false⟩])
   (.seq
    (.ops [⟨some 6, .mv (t 0), none, false⟩, ⟨some 7, .lenS (t 6), none, false⟩, ⟨some 8, .mkSl 49 1 16 [.nilIface] (.const (.int .i64 0)) (t 7), none, false⟩, ⟨some 3, .mv (t 8), none, false⟩])
    (.seq
     (.seq
      (.ops [⟨some 9, .mv (t 0), none, false⟩, ⟨some 10, .lenS (t 9), none, false⟩, ⟨some 11, .mv (.const (.int .i64 0)), none, false⟩])
      (.block 0
       (.loop
        (.seq
         (.ops [⟨some 12, .bin .lss (t 11) (t 10), none, false⟩])
         (.seq
          (.cond (t 12)
           .skip
           (.exit 0))
          (.seq
           (.block 1
            (.seq
             (.ops [⟨some 13, .idxS 7 (t 9) (t 11), none, false⟩, ⟨some 14, .ld true 7 (t 13), none, false⟩, ⟨some 5, .alloc 38 [.int .i64 0, .int .i64 0, .int .i64 0, .int .i64 0, .int .i64 0, .int .i64 0, .int .i64 0], none, false⟩, ⟨none, .st 7 (t 5) (t 14), none, false⟩])
             (.seq
              (.ops [⟨some 15, .fldA 0 (t 5), none, false⟩, ⟨some 16, .ld false 1 (t 15), none, false⟩])
              (.block 2
               (.seq
                (.ops [⟨some 25, .bin .eql (t 16) (.const (.int .i64 1)), none, false⟩, ⟨some 24, .mv (t 25), none, false⟩])
                (.cond (t 24)
                 (.ops [⟨some 26, .mv (t 3), none, false⟩, ⟨some 27, .fldA 1 (t 5), none, false⟩, ⟨some 28, .ld false 1 (t 27), none, false⟩, ⟨some 29, .build [.int .i64 0] [(0, 1, (t 28))], none, false⟩, ⟨some 30, .mkIf 61 (t 29), none, false⟩, ⟨some 31, .bslice 49 1 1 [.nilIface] [(0, (t 30))], none, false⟩, ⟨some 32, .app 49 1 16 (t 26) (t 31), none, false⟩, ⟨some 3, .mv (t 32), none, false⟩])
                 (.seq
                  (.ops [⟨some 34, .bin .eql (t 16) (.const (.int .i64 2)), none, false⟩, ⟨some 33, .mv (t 34), none, false⟩])
                  (.cond (t 33)
                   (.ops [⟨some 35, .mv (t 3), none, false⟩, ⟨some 36, .fldA 2 (t 5), none, false⟩, ⟨some 37, .ld false 1 (t 36), none, false⟩, ⟨some 38, .fldA 3 (t 5), none, false⟩, ⟨some 39, .ld false 1 (t 38), none, false⟩, ⟨some 40, .fldA 4 (t 5), none, false⟩, ⟨some 41, .ld false 1 (t 40), none, false⟩, ⟨some 42, .fldA 5 (t 5), none, false⟩, ⟨some 43, .ld false 1 (t 42), none, false⟩, ⟨some 44, .build [.int .i64 0, .int .i64 0, .int .i64 0, .int .i64 0] [(0, 1, (t 37)), (1, 1, (t 39)), (2, 1, (t 41)), (3, 1, (t 43))], none, false⟩, ⟨some 45, .mkIf 51 (t 44), none, false⟩, ⟨some 46, .bslice 49 1 1 [.nilIface] [(0, (t 45))], none, false⟩, ⟨some 47, .app 49 1 16 (t 35) (t 46), none, false⟩, ⟨some 3, .mv (t 47), none, false⟩])
                   (.ops [⟨some 17, .mv (t 3), none, false⟩, ⟨some 18, .fldA 6 (t 5), none, false⟩, ⟨some 19, .ld false 1 (t 18), none, false⟩, ⟨some 20, .build [.int .i64 0] [(0, 1, (t 19))], none, false⟩, ⟨some 21, .mkIf 63 (t 20), none, false⟩, ⟨some 22, .bslice 49 1 1 [.nilIface] [(0, (t 21))], none, false⟩, ⟨some 23, .app 49 1 16 (t 17) (t 22), none, false⟩, ⟨some 3, .mv (t 23), none, false⟩])))))))))
           (.ops [⟨some 48, .bin .add (t 11) (.const (.int .i64 1)), none, false⟩, ⟨some 11, .mv (t 48), none, false⟩])))))))
     (.seq
      (.ops [⟨some 49, .mv (t 3), none, false⟩, ⟨some 2, .mv (t 49), none, false⟩])
      .ret))))
theorem comp24 : Try.f24.body.bind (comp Try.prog Try.f24.ntmps) = some pc24 := by kernel_rfl
theorem in24 {a0 : Value} {H : Heap} {k : Value → Heap → Prop} (h : H.Wf → pexec Try.prog pc24 ⟨Rt Try.prog Try.f24 H k, noEx⟩ (Rt Try.prog Try.f24 H k) (upd U 0 a0) H) : CallQ Try.prog 24 [a0] H k := call_in Try.func24 comp24 (by kernel_rfl) (by kernel_rfl) (env1 a0) h
theorem ret25 (H0 H : Heap) (k : Value → Heap → Prop) (A : Env) : Rt Try.prog Try.f25 H0 k A H = Ret H0 k (.tuple #[]) H := rt_0 (by kernel_rfl)
/-- linotype/layout.lay -/
noncomputable def pc25 : PC :=
  (.seq
   (.ops [⟨some 14, .mv (t 2), none, false⟩, ⟨some 8, .mv (t 14), none, false⟩])
   (.seq
    (.seq
     (.ops [⟨some 15, .mv (t 1), none, false⟩, ⟨some 16, .lenS (t 15), none, false⟩, ⟨some 17, .mv (.const (.int .i64 0)), none, false⟩])
     (.block 0
      (.loop
       (.seq
        (.ops [⟨some 18, .bin .lss (t 17) (t 16), none, false⟩])
        (.seq
         (.cond (t 18)
          .skip
          (.exit 0))
         (.seq
          (.block 1
           (.seq
            (.ops [⟨some 19, .mv (t 17), none, false⟩, ⟨some 20, .idxS 1 (t 15) (t 17), none, false⟩, ⟨some 21, .ld false 1 (t 20), none, false⟩, ⟨some 9, .mv (t 19), none, false⟩, ⟨some 10, .mv (t 21), none, false⟩])
            (.seq
             (.ops [⟨some 22, .mv (t 0), none, false⟩, ⟨some 23, .mv (t 9), none, false⟩, ⟨some 24, .mv (t 8), none, false⟩, ⟨some 25, .idxS 1 (t 22) (t 23), none, false⟩, ⟨none, .st 1 (t 25) (t 24), none, false⟩])
             (.seq
              (.ops [⟨some 26, .mv (t 10), none, false⟩])
              (.block 2
               (.seq
                (.ops [⟨some 27, .asrt 61 (.agg #[.int .i64 0]) true (t 26), none, false⟩, ⟨some 28, .ext (t 27) 1, none, false⟩, ⟨some 29, .ext (t 27) 0, none, false⟩])
                (.cond (t 28)
                 (.seq
                  (.ops [⟨some 11, .alloc 61 [.int .i64 0], none, false⟩, ⟨none, .st 1 (t 11) (t 29), none, false⟩])
                  (.ops [⟨some 30, .mv (t 8), none, false⟩, ⟨some 31, .fldA 0 (t 11), none, false⟩, ⟨some 32, .ld false 1 (t 31), none, false⟩, ⟨some 33, .bin .add (t 30) (t 32), none, false⟩, ⟨some 8, .mv (t 33), none, false⟩]))
                 (.seq
                  (.ops [⟨some 34, .asrt 51 (.agg #[.int .i64 0, .int .i64 0, .int .i64 0, .int .i64 0]) true (t 26), none, false⟩, ⟨some 35, .ext (t 34) 1, none, false⟩, ⟨some 36, .ext (t 34) 0, none, false⟩])
                  (.cond (t 35)
                   (.seq
                    (.ops [⟨some 12, .alloc 51 [.int .i64 0, .int .i64 0, .int .i64 0, .int .i64 0], none, false⟩, ⟨none, .st 4 (t 12) (t 36), none, false⟩])
                    (.seq
                     (.ops [⟨some 37, .mv (t 3), none, false⟩, ⟨some 38, .mv (t 9), none, false⟩, ⟨some 39, .idxS 1 (t 37) (t 38), none, false⟩, ⟨some 40, .ld false 1 (t 39), none, false⟩])
                     (.cond (t 40)
                      (.ops [⟨some 41, .mv (t 8), none, false⟩, ⟨some 42, .fldA 1 (t 12), none, false⟩, ⟨some 43, .ld false 1 (t 42), none, false⟩, ⟨some 44, .bin .add (t 41) (t 43), none, false⟩, ⟨some 8, .mv (t 44), none, false⟩])
                      (.ops [⟨some 45, .mv (t 8), none, false⟩, ⟨some 46, .fldA 0 (t 12), none, false⟩, ⟨some 47, .ld false 1 (t 46), none, false⟩, ⟨some 48, .bin .add (t 45) (t 47), none, false⟩, ⟨some 8, .mv (t 48), none, false⟩]))))
                   (.seq
                    (.ops [⟨some 49, .asrt 63 (.agg #[.int .i64 0]) true (t 26), none, false⟩, ⟨some 50, .ext (t 49) 1, none, false⟩, ⟨some 51, .ext (t 49) 0, none, false⟩])
                    (.cond (t 50)
                     (.seq
                      (.ops [⟨some 13, .alloc 63 [.int .i64 0], none, false⟩, ⟨none, .st 1 (t 13) (t 51), none, false⟩])
                      (.ops [⟨some 52, .mv (t 8), none, false⟩, ⟨some 53, .fldA 0 (t 13), none, false⟩, ⟨some 54, .ld false 1 (t 53), none, false⟩, ⟨some 55, .mv (t 8), none, false⟩, ⟨some 56, .fldA 0 (t 13), none, false⟩, ⟨some 57, .ld false 1 (t 56), none, false⟩, ⟨some 58, .bin .sub (t 57) (.const (.int .i64 1)), none, false⟩, ⟨some 59, .bin .and (t 55) (t 58), none, false⟩, ⟨some 60, .bin .sub (t 54) (t 59), none, false⟩, ⟨some 61, .fldA 0 (t 13), none, false⟩, ⟨some 62, .ld false 1 (t 61), none, false⟩, ⟨some 63, .bin .sub (t 62) (.const (.int .i64 1)), none, false⟩, ⟨some 64, .bin .and (t 60) (t 63), none, false⟩, ⟨some 65, .bin .add (t 52) (t 64), none, false⟩, ⟨some 8, .mv (t 65), none, false⟩]))
                     .skip)))))))))))
          (.ops [⟨some 66, .bin .add (t 17) (.const (.int .i64 1)), none, false⟩, ⟨some 17, .mv (t 66), none, false⟩])))))))
    (.ops [⟨some 67, .mv (t 0), none, false⟩, ⟨some 68, .mv (t 1), none, false⟩, ⟨some 69, .lenS (t 68), none, false⟩, ⟨some 70, .mv (t 8), none, false⟩, ⟨some 71, .idxS 1 (t 67) (t 69), none, false⟩, ⟨none, .st 1 (t 71) (t 70), none, false⟩])))
theorem comp25 : Try.f25.body.bind (comp Try.prog Try.f25.ntmps) = some pc25 := by kernel_rfl
theorem in25 {a0 a1 a2 a3 : Value} {H : Heap} {k : Value → Heap → Prop} (h : H.Wf → pexec Try.prog pc25 ⟨Rt Try.prog Try.f25 H k, noEx⟩ (Rt Try.prog Try.f25 H k) (upd (upd (upd (upd U 0 a0) 1 a1) 2 a2) 3 a3) H) : CallQ Try.prog 25 [a0, a1, a2, a3] H k := call_in Try.func25 comp25 (by kernel_rfl) (by kernel_rfl) (env4 a0 a1 a2 a3) h
theorem ret26 (H0 H : Heap) (k : Value → Heap → Prop) (A : Env) : Rt Try.prog Try.f26 H0 k A H = Ret H0 k (A 8) H := rt_1 (by kernel_rfl) (by kernel_rfl)
/-- linotype/layout.reaches -/
noncomputable def pc26 : PC :=
  (.seq
   (.ops [⟨some 6, .box 51 (t 2), none, false⟩, ⟨some 8, .mv (.const (.bool false)), none, false⟩])
   (.seq
    (.ops [⟨some 9, .mv (t 0), none, false⟩, ⟨some 10, .fldA 2 (t 6), none, false⟩, ⟨some 11, .ld false 1 (t 10), none, false⟩, ⟨some 12, .idxS 1 (t 9) (t 11), none, false⟩, ⟨some 13, .ld false 1 (t 12), none, false⟩, ⟨some 14, .fldA 3 (t 6), none, false⟩, ⟨some 15, .ld false 1 (t 14), none, false⟩, ⟨some 16, .bin .add (t 13) (t 15), none, false⟩, ⟨some 17, .mv (t 0), none, false⟩, ⟨some 18, .mv (t 1), none, false⟩, ⟨some 19, .bin .add (t 18) (.const (.int .i64 1)), none, false⟩, ⟨some 20, .idxS 1 (t 17) (t 19), none, false⟩, ⟨some 21, .ld false 1 (t 20), none, false⟩, ⟨some 22, .bin .sub (t 16) (t 21), none, false⟩, ⟨some 23, .mv (t 3), none, false⟩, ⟨some 24, .call 34 [(t 22), (t 23)], none, false⟩, ⟨some 8, .mv (t 24), none, false⟩])
    .ret))
theorem comp26 : Try.f26.body.bind (comp Try.prog Try.f26.ntmps) = some pc26 := by kernel_rfl
theorem in26 {a0 a1 a2 a3 : Value} {H : Heap} {k : Value → Heap → Prop} (h : H.Wf → pexec Try.prog pc26 ⟨Rt Try.prog Try.f26 H k, noEx⟩ (Rt Try.prog Try.f26 H k) (upd (upd (upd (upd U 0 a0) 1 a1) 2 a2) 3 a3) H) : CallQ Try.prog 26 [a0, a1, a2, a3] H k := call_in Try.func26 comp26 (by kernel_rfl) (by kernel_rfl) (env4 a0 a1 a2 a3) h
theorem ret27 (H0 H : Heap) (k : Value → Heap → Prop) (A : Env) : Rt Try.prog Try.f27 H0 k A H = Ret H0 k (A 6) H := rt_1 (by kernel_rfl) (by kernel_rfl)
/-- linotype/linotyperef27.within -/
noncomputable def pc27 : PC :=
  (.seq
   (.ops [⟨some 6, .mv (.const (.bool false)), none, false⟩])
   (.seq
    (.ops [⟨some 7, .mv (t 0), none, false⟩, ⟨some 8, .mv (t 1), none, false⟩, ⟨some 9, .bin .geq (t 7) (t 8), none, false⟩, ⟨some 10, .mv (t 9), none, false⟩, ⟨some 11, .mv (t 0), some (10, true), false⟩, ⟨some 12, .mv (t 2), some (10, true), false⟩, ⟨some 13, .bin .leq (t 11) (t 12), some (10, true), false⟩, ⟨some 14, .pick (t 10) (t 13) (.const (.bool false)), none, false⟩, ⟨some 6, .mv (t 14), none, false⟩])
    .ret))
theorem comp27 : Try.f27.body.bind (comp Try.prog Try.f27.ntmps) = some pc27 := by kernel_rfl
theorem in27 {a0 a1 a2 : Value} {H : Heap} {k : Value → Heap → Prop} (h : H.Wf → pexec Try.prog pc27 ⟨Rt Try.prog Try.f27 H k, noEx⟩ (Rt Try.prog Try.f27 H k) (upd (upd (upd U 0 a0) 1 a1) 2 a2) H) : CallQ Try.prog 27 [a0, a1, a2] H k := call_in Try.func27 comp27 (by kernel_rfl) (by kernel_rfl) (env3 a0 a1 a2) h
theorem ret28 (H0 H : Heap) (k : Value → Heap → Prop) (A : Env) : Rt Try.prog Try.f28 H0 k A H = Ret H0 k (.tuple #[A 6, A 7]) H := rt_2 (by kernel_rfl) (by kernel_rfl)
/-- linotype/linotyperef27.pass -/
noncomputable def pc28 : PC :=
  (.seq
   (.ops [⟨some 6, .mv (.const (.slice none 0 0)), none, false⟩, ⟨some 7, .mv (.const (.bool false)), none, false⟩])
   (.seq
    (.ops [⟨some 11, .mv (t 0), none, false⟩, ⟨some 12, .mv (t 1), none, false⟩, ⟨some 13, .mv (t 2), none, false⟩, ⟨some 14, .call 35 [(t 11), (t 12), (t 13)], none, false⟩, ⟨some 8, .mv (t 14), none, false⟩])
    (.seq
     (.ops [⟨some 9, .mv (.const (.bool false)), none, false⟩])
     (.seq
      (.seq
       (.ops [⟨some 10, .mv (.const (.int .i64 0)), none, false⟩])
       (.block 0
        (.loop
         (.seq
          (.seq
           (.ops [⟨some 15, .mv (t 10), none, false⟩, ⟨some 16, .mv (t 0), none, false⟩, ⟨some 17, .lenS (t 16), none, false⟩, ⟨some 18, .bin .lss (t 15) (t 17), none, false⟩])
           (.cond (t 18)
            .skip
            (.exit 0)))
          (.seq
           (.block 1
            (.seq
             (.ops [⟨some 21, .mv (t 0), none, false⟩, ⟨some 22, .mv (t 10), none, false⟩, ⟨some 23, .idxS 7 (t 21) (t 22), none, false⟩, ⟨some 24, .fldA 0 (t 23), none, false⟩, ⟨some 25, .ld false 1 (t 24), none, false⟩, ⟨some 26, .bin .eql (t 25) (.const (.int .i64 2)), none, false⟩, ⟨some 27, .mv (t 26), none, false⟩, ⟨some 28, .mv (t 2), some (27, true), false⟩, ⟨some 29, .mv (t 10), some (27, true), false⟩, ⟨some 30, .idxS 1 (t 28) (t 29), some (27, true), false⟩, ⟨some 31, .ld false 1 (t 30), some (27, true), false⟩, ⟨some 32, .not (t 31), some (27, true), false⟩, ⟨some 33, .pick (t 27) (t 32) (.const (.bool false)), none, false⟩, ⟨some 34, .mv (t 33), none, false⟩, ⟨some 35, .mv (t 0), some (34, true), false⟩, ⟨some 36, .mv (t 10), some (34, true), false⟩, ⟨some 37, .idxS 7 (t 35) (t 36), some (34, true), false⟩, ⟨some 38, .ld true 7 (t 37), some (34, true), false⟩, ⟨some 39, .mv (t 8), some (34, true), false⟩, ⟨some 40, .mv (t 10), some (34, true), false⟩, ⟨some 41, .call 37 [(t 38), (t 39), (t 40)], some (34, true), false⟩, ⟨some 42, .call 36 [(t 41), (.const (.int .i64 8))], some (34, true), false⟩, ⟨some 43, .not (t 42), some (34, true), false⟩, ⟨some 44, .pick (t 34) (t 43) (.const (.bool false)), none, false⟩])
             (.cond (t 44)
              (.seq
               (.ops [⟨some 45, .mv (t 2), none, false⟩, ⟨some 46, .mv (t 10), none, false⟩, ⟨some 47, .idxS 1 (t 45) (t 46), none, false⟩, ⟨none, .st 1 (t 47) (.const (.bool true)), none, false⟩])
               (.ops [⟨some 9, .mv (.const (.bool true)), none, false⟩]))
              .skip)))
           (.ops [⟨some 19, .mv (t 10), none, false⟩, ⟨some 20, .bin .add (t 19) (.const (.int .i64 1)), none, false⟩, ⟨some 10, .mv (t 20), none, false⟩]))))))
      (.seq
       (.ops [⟨some 48, .mv (t 8), none, false⟩, ⟨some 49, .mv (t 9), none, false⟩, ⟨some 6, .mv (t 48), none, false⟩, ⟨some 7, .mv (t 49), none, false⟩])
       .ret)))))
theorem comp28 : Try.f28.body.bind (comp Try.prog Try.f28.ntmps) = some pc28 := by kernel_rfl
theorem in28 {a0 a1 a2 : Value} {H : Heap} {k : Value → Heap → Prop} (h : H.Wf → pexec Try.prog pc28 ⟨Rt Try.prog Try.f28 H k, noEx⟩ (Rt Try.prog Try.f28 H k) (upd (upd (upd U 0 a0) 1 a1) 2 a2) H) : CallQ Try.prog 28 [a0, a1, a2] H k := call_in Try.func28 comp28 (by kernel_rfl) (by kernel_rfl) (env3 a0 a1 a2) h
theorem ret29 (H0 H : Heap) (k : Value → Heap → Prop) (A : Env) : Rt Try.prog Try.f29 H0 k A H = Ret H0 k (A 6) H := rt_1 (by kernel_rfl) (by kernel_rfl)
/-- linotype/linotyperef27.Fits -/
noncomputable def pc29 : PC :=
  (.seq
   (.ops [⟨some 6, .mv (.const (.bool false)), none, false⟩])
   (.seq
    (.seq
     (.ops [⟨some 10, .mv (t 0), none, false⟩, ⟨some 11, .call 13 [(t 10)], none, false⟩, ⟨some 12, .bin .neq (t 11) (.const (.int .i64 0)), none, false⟩, ⟨some 13, .mv (t 12), none, false⟩, ⟨some 14, .mv (t 1), some (13, false), false⟩, ⟨some 15, .call 27 [(t 14), (.const (.int .i64 0)), (.const (.int .i64 140737488355328))], some (13, false), false⟩, ⟨some 16, .not (t 15), some (13, false), false⟩, ⟨some 17, .pick (t 13) (.const (.bool true)) (t 16), none, false⟩, ⟨some 18, .mv (t 17), none, false⟩, ⟨some 19, .mv (t 2), some (18, false), false⟩, ⟨some 20, .lenS (t 19), some (18, false), false⟩, ⟨some 21, .mv (t 0), some (18, false), false⟩, ⟨some 22, .lenS (t 21), some (18, false), false⟩, ⟨some 23, .bin .neq (t 20) (t 22), some (18, false), false⟩, ⟨some 24, .pick (t 18) (.const (.bool true)) (t 23), none, false⟩])
     (.cond (t 24)
      (.seq
       (.ops [⟨some 6, .mv (.const (.bool false)), none, false⟩])
       .ret)
      .skip))
    (.seq
     (.ops [⟨some 25, .mv (t 0), none, false⟩, ⟨some 26, .mv (t 1), none, false⟩, ⟨some 27, .mv (t 2), none, false⟩, ⟨some 28, .call 35 [(t 25), (t 26), (t 27)], none, false⟩, ⟨some 7, .mv (t 28), none, false⟩])
     (.seq
      (.seq
       (.ops [⟨some 8, .mv (.const (.int .i64 0)), none, false⟩])
       (.block 0
        (.loop
         (.seq
          (.seq
           (.ops [⟨some 29, .mv (t 8), none, false⟩, ⟨some 30, .mv (t 0), none, false⟩, ⟨some 31, .lenS (t 30), none, false⟩, ⟨some 32, .bin .lss (t 29) (t 31), none, false⟩])
           (.cond (t 32)
            .skip
            (.exit 0)))
          (.seq
           (.block 1
            (.seq
             (.ops [⟨some 9, .mv (.const (.int .i64 8)), none, false⟩])
             (.seq
              (.seq
               (.ops [⟨some 35, .mv (t 2), none, false⟩, ⟨some 36, .mv (t 8), none, false⟩, ⟨some 37, .idxS 1 (t 35) (t 36), none, false⟩, ⟨some 38, .ld false 1 (t 37), none, false⟩])
               (.cond (t 38)
                (.ops [⟨some 9, .mv (.const (.int .i64 32)), none, false⟩])
                .skip))
              (.seq
               (.ops [⟨some 39, .mv (t 0), none, false⟩, ⟨some 40, .mv (t 8), none, false⟩, ⟨some 41, .idxS 7 (t 39) (t 40), none, false⟩, ⟨some 42, .fldA 0 (t 41), none, false⟩, ⟨some 43, .ld false 1 (t 42), none, false⟩, ⟨some 44, .bin .eql (t 43) (.const (.int .i64 2)), none, false⟩, ⟨some 45, .mv (t 44), none, false⟩, ⟨some 46, .mv (t 0), some (45, true), false⟩, ⟨some 47, .mv (t 8), some (45, true), false⟩, ⟨some 48, .idxS 7 (t 46) (t 47), some (45, true), false⟩, ⟨some 49, .ld true 7 (t 48), some (45, true), false⟩, ⟨some 50, .mv (t 7), some (45, true), false⟩, ⟨some 51, .mv (t 8), some (45, true), false⟩, ⟨some 52, .call 37 [(t 49), (t 50), (t 51)], some (45, true), false⟩, ⟨some 53, .mv (t 9), some (45, true), false⟩, ⟨some 54, .call 36 [(t 52), (t 53)], some (45, true), false⟩, ⟨some 55, .not (t 54), some (45, true), false⟩, ⟨some 56, .pick (t 45) (t 55) (.const (.bool false)), none, false⟩])
               (.cond (t 56)
                (.seq
                 (.ops [⟨some 6, .mv (.const (.bool false)), none, false⟩])
                 .ret)
                .skip)))))
           (.ops [⟨some 33, .mv (t 8), none, false⟩, ⟨some 34, .bin .add (t 33) (.const (.int .i64 1)), none, false⟩, ⟨some 8, .mv (t 34), none, false⟩]))))))
      (.seq
       (.ops [⟨some 6, .mv (.const (.bool true)), none, false⟩])
       .ret)))))
theorem comp29 : Try.f29.body.bind (comp Try.prog Try.f29.ntmps) = some pc29 := by kernel_rfl
theorem in29 {a0 a1 a2 : Value} {H : Heap} {k : Value → Heap → Prop} (h : H.Wf → pexec Try.prog pc29 ⟨Rt Try.prog Try.f29 H k, noEx⟩ (Rt Try.prog Try.f29 H k) (upd (upd (upd U 0 a0) 1 a1) 2 a2) H) : CallQ Try.prog 29 [a0, a1, a2] H k := call_in Try.func29 comp29 (by kernel_rfl) (by kernel_rfl) (env3 a0 a1 a2) h
theorem ret30 (H0 H : Heap) (k : Value → Heap → Prop) (A : Env) : Rt Try.prog Try.f30 H0 k A H = Ret H0 k (A 4) H := rt_1 (by kernel_rfl) (by kernel_rfl)
/-- linotype/linotypekit.SameInts -/
noncomputable def pc30 : PC :=
  (.seq
   (.ops [⟨some 4, .mv (.const (.bool false)), none, false⟩])
   (.seq
    (.seq
     (.ops [⟨some 6, .mv (t 0), none, false⟩, ⟨some 7, .lenS (t 6), none, false⟩, ⟨some 8, .mv (t 1), none, false⟩, ⟨some 9, .lenS (t 8), none, false⟩, ⟨some 10, .bin .neq (t 7) (t 9), none, false⟩])
     (.cond (t 10)
      (.seq
       (.ops [⟨some 4, .mv (.const (.bool false)), none, false⟩])
       .ret)
      .skip))
    (.seq
     (.seq
      (.ops [⟨some 5, .mv (.const (.int .i64 0)), none, false⟩])
      (.block 0
       (.loop
        (.seq
         (.seq
          (.ops [⟨some 11, .mv (t 5), none, false⟩, ⟨some 12, .mv (t 0), none, false⟩, ⟨some 13, .lenS (t 12), none, false⟩, ⟨some 14, .bin .lss (t 11) (t 13), none, false⟩])
          (.cond (t 14)
           .skip
           (.exit 0)))
         (.seq
          (.block 1
           (.seq
            (.ops [⟨some 17, .mv (t 0), none, false⟩, ⟨some 18, .mv (t 5), none, false⟩, ⟨some 19, .idxS 1 (t 17) (t 18), none, false⟩, ⟨some 20, .ld false 1 (t 19), none, false⟩, ⟨some 21, .mv (t 1), none, false⟩, ⟨some 22, .mv (t 5), none, false⟩, ⟨some 23, .idxS 1 (t 21) (t 22), none, false⟩, ⟨some 24, .ld false 1 (t 23), none, false⟩, ⟨some 25, .bin .neq (t 20) (t 24), none, false⟩])
            (.cond (t 25)
             (.seq
              (.ops [⟨some 4, .mv (.const (.bool false)), none, false⟩])
              .ret)
             .skip)))
          (.ops [⟨some 15, .mv (t 5), none, false⟩, ⟨some 16, .bin .add (t 15) (.const (.int .i64 1)), none, false⟩, ⟨some 5, .mv (t 16), none, false⟩]))))))
     (.seq
      (.ops [⟨some 4, .mv (.const (.bool true)), none, false⟩])
      .ret))))
theorem comp30 : Try.f30.body.bind (comp Try.prog Try.f30.ntmps) = some pc30 := by kernel_rfl
theorem in30 {a0 a1 : Value} {H : Heap} {k : Value → Heap → Prop} (h : H.Wf → pexec Try.prog pc30 ⟨Rt Try.prog Try.f30 H k, noEx⟩ (Rt Try.prog Try.f30 H k) (upd (upd U 0 a0) 1 a1) H) : CallQ Try.prog 30 [a0, a1] H k := call_in Try.func30 comp30 (by kernel_rfl) (by kernel_rfl) (env2 a0 a1) h
theorem ret31 (H0 H : Heap) (k : Value → Heap → Prop) (A : Env) : Rt Try.prog Try.f31 H0 k A H = Ret H0 k (A 4) H := rt_1 (by kernel_rfl) (by kernel_rfl)
/-- linotype/layout.valid -/
noncomputable def pc31 : PC :=
  (.seq
   (.ops [⟨some 2, .box 38 (t 0), none, false⟩, ⟨some 4, .mv (.const (.bool false)), none, false⟩])
   (.seq
    (.seq
     (.ops [⟨some 5, .fldA 0 (t 2), none, false⟩, ⟨some 6, .ld false 1 (t 5), none, false⟩])
     (.block 0
      (.seq
       (.ops [⟨some 8, .bin .eql (t 6) (.const (.int .i64 1)), none, false⟩, ⟨some 7, .mv (t 8), none, false⟩])
       (.cond (t 7)
        (.seq
         (.ops [⟨some 9, .ld true 7 (t 2), none, false⟩, ⟨some 10, .fldA 0 (t 2), none, false⟩, ⟨some 11, .ld false 1 (t 10), none, false⟩, ⟨some 12, .fldA 1 (t 2), none, false⟩, ⟨some 13, .ld false 1 (t 12), none, false⟩, ⟨some 14, .build [.int .i64 0, .int .i64 0, .int .i64 0, .int .i64 0, .int .i64 0, .int .i64 0, .int .i64 0] [(0, 1, (t 11)), (1, 1, (t 13))], none, false⟩, ⟨some 15, .eqs false [.i, .i, .i, .i, .i, .i, .i] (t 9) (t 14), none, false⟩, ⟨some 16, .mv (t 15), none, false⟩, ⟨some 17, .fldA 1 (t 2), some (16, true), false⟩, ⟨some 18, .ld false 1 (t 17), some (16, true), false⟩, ⟨some 19, .bin .geq (t 18) (.const (.int .i64 0)), some (16, true), false⟩, ⟨some 20, .pick (t 16) (t 19) (.const (.bool false)), none, false⟩, ⟨some 21, .mv (t 20), none, false⟩, ⟨some 22, .fldA 1 (t 2), some (21, true), false⟩, ⟨some 23, .ld false 1 (t 22), some (21, true), false⟩, ⟨some 24, .bin .leq (t 23) (.const (.int .i64 1048576)), some (21, true), false⟩, ⟨some 25, .pick (t 21) (t 24) (.const (.bool false)), none, false⟩, ⟨some 4, .mv (t 25), none, false⟩])
         .ret)
        (.seq
         (.ops [⟨some 27, .bin .eql (t 6) (.const (.int .i64 2)), none, false⟩, ⟨some 26, .mv (t 27), none, false⟩])
         (.cond (t 26)
          (.seq
           (.ops [⟨some 28, .ld true 7 (t 2), none, false⟩, ⟨some 29, .fldA 0 (t 2), none, false⟩, ⟨some 30, .ld false 1 (t 29), none, false⟩, ⟨some 31, .fldA 2 (t 2), none, false⟩, ⟨some 32, .ld false 1 (t 31), none, false⟩, ⟨some 33, .fldA 3 (t 2), none, false⟩, ⟨some 34, .ld false 1 (t 33), none, false⟩, ⟨some 35, .fldA 4 (t 2), none, false⟩, ⟨some 36, .ld false 1 (t 35), none, false⟩, ⟨some 37, .fldA 5 (t 2), none, false⟩, ⟨some 38, .ld false 1 (t 37), none, false⟩, ⟨some 39, .build [.int .i64 0, .int .i64 0, .int .i64 0, .int .i64 0, .int .i64 0, .int .i64 0, .int .i64 0] [(0, 1, (t 30)), (2, 1, (t 32)), (3, 1, (t 34)), (4, 1, (t 36)), (5, 1, (t 38))], none, false⟩, ⟨some 40, .eqs false [.i, .i, .i, .i, .i, .i, .i] (t 28) (t 39), none, false⟩, ⟨some 41, .mv (t 40), none, false⟩, ⟨some 42, .fldA 2 (t 2), some (41, true), false⟩, ⟨some 43, .ld false 1 (t 42), some (41, true), false⟩, ⟨some 44, .bin .geq (t 43) (.const (.int .i64 1)), some (41, true), false⟩, ⟨some 45, .pick (t 41) (t 44) (.const (.bool false)), none, false⟩, ⟨some 46, .mv (t 45), none, false⟩, ⟨some 47, .fldA 3 (t 2), some (46, true), false⟩, ⟨some 48, .ld false 1 (t 47), some (46, true), false⟩, ⟨some 49, .fldA 2 (t 2), some (46, true), false⟩, ⟨some 50, .ld false 1 (t 49), some (46, true), false⟩, ⟨some 51, .bin .gtr (t 48) (t 50), some (46, true), false⟩, ⟨some 52, .pick (t 46) (t 51) (.const (.bool false)), none, false⟩, ⟨some 53, .mv (t 52), none, false⟩, ⟨some 54, .fldA 3 (t 2), some (53, true), false⟩, ⟨some 55, .ld false 1 (t 54), some (53, true), false⟩, ⟨some 56, .bin .leq (t 55) (.const (.int .i64 15)), some (53, true), false⟩, ⟨some 57, .pick (t 53) (t 56) (.const (.bool false)), none, false⟩, ⟨some 58, .mv (t 57), none, false⟩, ⟨some 59, .fldA 4 (t 2), some (58, true), false⟩, ⟨some 60, .ld false 1 (t 59), some (58, true), false⟩, ⟨some 61, .bin .geq (t 60) (.const (.int .i64 0)), some (58, true), false⟩, ⟨some 62, .pick (t 58) (t 61) (.const (.bool false)), none, false⟩, ⟨some 63, .mv (t 62), none, false⟩, ⟨some 64, .fldA 4 (t 2), some (63, true), false⟩, ⟨some 65, .ld false 1 (t 64), some (63, true), false⟩, ⟨some 66, .mv (t 1), some (63, true), false⟩, ⟨some 67, .bin .leq (t 65) (t 66), some (63, true), false⟩, ⟨some 68, .pick (t 63) (t 67) (.const (.bool false)), none, false⟩, ⟨some 69, .mv (t 68), none, false⟩, ⟨some 70, .fldA 5 (t 2), some (69, true), false⟩, ⟨some 71, .ld false 1 (t 70), some (69, true), false⟩, ⟨some 72, .call 34 [(t 71), (.const (.int .i64 32))], some (69, true), false⟩, ⟨some 73, .pick (t 69) (t 72) (.const (.bool false)), none, false⟩, ⟨some 4, .mv (t 73), none, false⟩])
           .ret)
          (.seq
           (.ops [⟨some 75, .bin .eql (t 6) (.const (.int .i64 3)), none, false⟩, ⟨some 74, .mv (t 75), none, false⟩])
           (.cond (t 74)
            (.seq
             (.ops [⟨some 76, .ld true 7 (t 2), none, false⟩, ⟨some 77, .fldA 0 (t 2), none, false⟩, ⟨some 78, .ld false 1 (t 77), none, false⟩, ⟨some 79, .fldA 6 (t 2), none, false⟩, ⟨some 80, .ld false 1 (t 79), none, false⟩, ⟨some 81, .build [.int .i64 0, .int .i64 0, .int .i64 0, .int .i64 0, .int .i64 0, .int .i64 0, .int .i64 0] [(0, 1, (t 78)), (6, 1, (t 80))], none, false⟩, ⟨some 82, .eqs false [.i, .i, .i, .i, .i, .i, .i] (t 76) (t 81), none, false⟩, ⟨some 83, .mv (t 82), none, false⟩, ⟨some 84, .fldA 6 (t 2), some (83, true), false⟩, ⟨some 85, .ld false 1 (t 84), some (83, true), false⟩, ⟨some 86, .bin .geq (t 85) (.const (.int .i64 1)), some (83, true), false⟩, ⟨some 87, .pick (t 83) (t 86) (.const (.bool false)), none, false⟩, ⟨some 88, .mv (t 87), none, false⟩, ⟨some 89, .fldA 6 (t 2), some (88, true), false⟩, ⟨some 90, .ld false 1 (t 89), some (88, true), false⟩, ⟨some 91, .bin .leq (t 90) (.const (.int .i64 4096)), some (88, true), false⟩, ⟨some 92, .pick (t 88) (t 91) (.const (.bool false)), none, false⟩, ⟨some 93, .mv (t 92), none, false⟩, ⟨some 94, .fldA 6 (t 2), some (93, true), false⟩, ⟨some 95, .ld false 1 (t 94), some (93, true), false⟩, ⟨some 96, .fldA 6 (t 2), some (93, true), false⟩, ⟨some 97, .ld false 1 (t 96), some (93, true), false⟩, ⟨some 98, .bin .sub (t 97) (.const (.int .i64 1)), some (93, true), false⟩, ⟨some 99, .bin .and (t 95) (t 98), some (93, true), false⟩, ⟨some 100, .bin .eql (t 99) (.const (.int .i64 0)), some (93, true), false⟩, ⟨some 101, .pick (t 93) (t 100) (.const (.bool false)), none, false⟩, ⟨some 4, .mv (t 101), none, false⟩])
             .ret)
            .skip))))))))
    (.seq
     (.ops [⟨some 4, .mv (.const (.bool false)), none, false⟩])
     .ret)))
theorem comp31 : Try.f31.body.bind (comp Try.prog Try.f31.ntmps) = some pc31 := by kernel_rfl
theorem in31 {a0 a1 : Value} {H : Heap} {k : Value → Heap → Prop} (h : H.Wf → pexec Try.prog pc31 ⟨Rt Try.prog Try.f31 H k, noEx⟩ (Rt Try.prog Try.f31 H k) (upd (upd U 0 a0) 1 a1) H) : CallQ Try.prog 31 [a0, a1] H k := call_in Try.func31 comp31 (by kernel_rfl) (by kernel_rfl) (env2 a0 a1) h
theorem ret32 (H0 H : Heap) (k : Value → Heap → Prop) (A : Env) : Rt Try.prog Try.f32 H0 k A H = Ret H0 k (A 4) H := rt_1 (by kernel_rfl) (by kernel_rfl)
/-- linotype/linotyperef27.one -/
noncomputable def pc32 : PC :=
  (.seq
   (.ops [⟨some 2, .box 38 (t 0), none, false⟩, ⟨some 4, .mv (.const (.bool false)), none, false⟩])
   (.seq
    (.ops [⟨some 6, .fldA 0 (t 2), none, false⟩, ⟨some 7, .ld false 1 (t 6), none, false⟩, ⟨some 8, .bin .eql (t 7) (.const (.int .i64 2)), none, false⟩, ⟨some 5, .mv (t 8), none, false⟩])
    (.seq
     (.seq
      (.ops [⟨some 9, .fldA 0 (t 2), none, false⟩, ⟨some 10, .ld false 1 (t 9), none, false⟩, ⟨some 11, .bin .neq (t 10) (.const (.int .i64 1)), none, false⟩, ⟨some 12, .mv (t 11), none, false⟩, ⟨some 13, .fldA 1 (t 2), some (12, true), false⟩, ⟨some 14, .ld false 1 (t 13), some (12, true), false⟩, ⟨some 15, .bin .neq (t 14) (.const (.int .i64 0)), some (12, true), false⟩, ⟨some 16, .pick (t 12) (t 15) (.const (.bool false)), none, false⟩, ⟨some 17, .mv (t 16), none, false⟩, ⟨some 18, .fldA 0 (t 2), some (17, false), false⟩, ⟨some 19, .ld false 1 (t 18), some (17, false), false⟩, ⟨some 20, .bin .neq (t 19) (.const (.int .i64 3)), some (17, false), false⟩, ⟨some 21, .mv (t 20), some (17, false), false⟩, ⟨some 22, .fldA 6 (t 2), some (21, true), false⟩, ⟨some 23, .ld false 1 (t 22), some (21, true), false⟩, ⟨some 24, .bin .neq (t 23) (.const (.int .i64 0)), some (21, true), false⟩, ⟨some 25, .pick (t 21) (t 24) (.const (.bool false)), some (17, false), false⟩, ⟨some 26, .pick (t 17) (.const (.bool true)) (t 25), none, false⟩, ⟨some 27, .mv (t 26), none, false⟩, ⟨some 28, .mv (t 5), some (27, false), false⟩, ⟨some 29, .not (t 28), some (27, false), false⟩, ⟨some 30, .mv (t 29), some (27, false), false⟩, ⟨some 31, .fldA 2 (t 2), some (30, true), false⟩, ⟨some 32, .ld false 1 (t 31), some (30, true), false⟩, ⟨some 33, .bin .neq (t 32) (.const (.int .i64 0)), some (30, true), false⟩, ⟨some 34, .mv (t 33), some (30, true), false⟩, ⟨some 35, .fldA 3 (t 2), some (34, false), false⟩, ⟨some 36, .ld false 1 (t 35), some (34, false), false⟩, ⟨some 37, .bin .neq (t 36) (.const (.int .i64 0)), some (34, false), false⟩, ⟨some 38, .pick (t 34) (.const (.bool true)) (t 37), some (30, true), false⟩, ⟨some 39, .mv (t 38), some (30, true), false⟩, ⟨some 40, .fldA 4 (t 2), some (39, false), false⟩, ⟨some 41, .ld false 1 (t 40), some (39, false), false⟩, ⟨some 42, .bin .neq (t 41) (.const (.int .i64 0)), some (39, false), false⟩, ⟨some 43, .pick (t 39) (.const (.bool true)) (t 42), some (30, true), false⟩, ⟨some 44, .mv (t 43), some (30, true), false⟩, ⟨some 45, .fldA 5 (t 2), some (44, false), false⟩, ⟨some 46, .ld false 1 (t 45), some (44, false), false⟩, ⟨some 47, .bin .neq (t 46) (.const (.int .i64 0)), some (44, false), false⟩, ⟨some 48, .pick (t 44) (.const (.bool true)) (t 47), some (30, true), false⟩, ⟨some 49, .pick (t 30) (t 48) (.const (.bool false)), some (27, false), false⟩, ⟨some 50, .pick (t 27) (.const (.bool true)) (t 49), none, false⟩])
      (.cond (t 50)
       (.seq
        (.ops [⟨some 4, .mv (.const (.bool false)), none, false⟩])
        .ret)
       .skip))
     (.seq
      (.seq
       (.ops [⟨some 51, .fldA 0 (t 2), none, false⟩, ⟨some 52, .ld false 1 (t 51), none, false⟩])
       (.block 0
        (.seq
         (.ops [⟨some 54, .bin .eql (t 52) (.const (.int .i64 1)), none, false⟩, ⟨some 53, .mv (t 54), none, false⟩])
         (.cond (t 53)
          (.seq
           (.ops [⟨some 55, .fldA 1 (t 2), none, false⟩, ⟨some 56, .ld false 1 (t 55), none, false⟩, ⟨some 57, .call 27 [(t 56), (.const (.int .i64 0)), (.const (.int .i64 1048576))], none, false⟩, ⟨some 4, .mv (t 57), none, false⟩])
           .ret)
          (.seq
           (.ops [⟨some 59, .bin .eql (t 52) (.const (.int .i64 3)), none, false⟩, ⟨some 58, .mv (t 59), none, false⟩])
           (.cond (t 58)
            (.seq
             (.ops [⟨some 60, .fldA 6 (t 2), none, false⟩, ⟨some 61, .ld false 1 (t 60), none, false⟩, ⟨some 62, .call 38 [(t 61)], none, false⟩, ⟨some 4, .mv (t 62), none, false⟩])
             .ret)
            .skip))))))
      (.seq
       (.ops [⟨some 63, .mv (t 5), none, false⟩, ⟨some 64, .mv (t 63), none, false⟩, ⟨some 65, .fldA 2 (t 2), some (64, true), false⟩, ⟨some 66, .ld false 1 (t 65), some (64, true), false⟩, ⟨some 67, .call 27 [(t 66), (.const (.int .i64 1)), (.const (.int .i64 15))], some (64, true), false⟩, ⟨some 68, .pick (t 64) (t 67) (.const (.bool false)), none, false⟩, ⟨some 69, .mv (t 68), none, false⟩, ⟨some 70, .fldA 3 (t 2), some (69, true), false⟩, ⟨some 71, .ld false 1 (t 70), some (69, true), false⟩, ⟨some 72, .fldA 2 (t 2), some (69, true), false⟩, ⟨some 73, .ld false 1 (t 72), some (69, true), false⟩, ⟨some 74, .bin .add (t 73) (.const (.int .i64 1)), some (69, true), false⟩, ⟨some 75, .call 27 [(t 71), (t 74), (.const (.int .i64 15))], some (69, true), false⟩, ⟨some 76, .pick (t 69) (t 75) (.const (.bool false)), none, false⟩, ⟨some 77, .mv (t 76), none, false⟩, ⟨some 78, .fldA 4 (t 2), some (77, true), false⟩, ⟨some 79, .ld false 1 (t 78), some (77, true), false⟩, ⟨some 80, .mv (t 1), some (77, true), false⟩, ⟨some 81, .call 27 [(t 79), (.const (.int .i64 0)), (t 80)], some (77, true), false⟩, ⟨some 82, .pick (t 77) (t 81) (.const (.bool false)), none, false⟩, ⟨some 83, .mv (t 82), none, false⟩, ⟨some 84, .fldA 5 (t 2), some (83, true), false⟩, ⟨some 85, .ld false 1 (t 84), some (83, true), false⟩, ⟨some 86, .call 36 [(t 85), (.const (.int .i64 32))], some (83, true), false⟩, ⟨some 87, .pick (t 83) (t 86) (.const (.bool false)), none, false⟩, ⟨some 4, .mv (t 87), none, false⟩])
       .ret)))))
theorem comp32 : Try.f32.body.bind (comp Try.prog Try.f32.ntmps) = some pc32 := by kernel_rfl
theorem in32 {a0 a1 : Value} {H : Heap} {k : Value → Heap → Prop} (h : H.Wf → pexec Try.prog pc32 ⟨Rt Try.prog Try.f32 H k, noEx⟩ (Rt Try.prog Try.f32 H k) (upd (upd U 0 a0) 1 a1) H) : CallQ Try.prog 32 [a0, a1] H k := call_in Try.func32 comp32 (by kernel_rfl) (by kernel_rfl) (env2 a0 a1) h
theorem ret33 (H0 H : Heap) (k : Value → Heap → Prop) (A : Env) : Rt Try.prog Try.f33 H0 k A H = Ret H0 k (.tuple #[]) H := rt_0 (by kernel_rfl)
/-- linotype/linotypekit.OverInts -/
noncomputable def pc33 : PC :=
  (.seq
   (.ops [⟨some 2, .mv (.const (.int .i64 0)), none, false⟩])
   (.block 0
    (.loop
     (.seq
      (.seq
       (.ops [⟨some 3, .mv (t 2), none, false⟩, ⟨some 4, .mv (t 0), none, false⟩, ⟨some 5, .lenS (t 4), none, false⟩, ⟨some 6, .bin .lss (t 3) (t 5), none, false⟩])
       (.cond (t 6)
        .skip
        (.exit 0)))
      (.seq
       (.block 1
        (.ops [⟨some 9, .mv (t 0), none, false⟩, ⟨some 10, .mv (t 2), none, false⟩, ⟨some 11, .idxS 1 (t 9) (t 10), none, false⟩, ⟨none, .st 1 (t 11) (.const (.int .i64 (-7))), none, false⟩]))
       (.ops [⟨some 7, .mv (t 2), none, false⟩, ⟨some 8, .bin .add (t 7) (.const (.int .i64 1)), none, false⟩, ⟨some 2, .mv (t 8), none, false⟩]))))))
theorem comp33 : Try.f33.body.bind (comp Try.prog Try.f33.ntmps) = some pc33 := by kernel_rfl
theorem in33 {a0 : Value} {H : Heap} {k : Value → Heap → Prop} (h : H.Wf → pexec Try.prog pc33 ⟨Rt Try.prog Try.f33 H k, noEx⟩ (Rt Try.prog Try.f33 H k) (upd U 0 a0) H) : CallQ Try.prog 33 [a0] H k := call_in Try.func33 comp33 (by kernel_rfl) (by kernel_rfl) (env1 a0) h
theorem ret34 (H0 H : Heap) (k : Value → Heap → Prop) (A : Env) : Rt Try.prog Try.f34 H0 k A H = Ret H0 k (A 4) H := rt_1 (by kernel_rfl) (by kernel_rfl)
/-- linotype/field.Fits -/
noncomputable def pc34 : PC :=
  (.seq
   (.ops [⟨some 4, .mv (.const (.bool false)), none, false⟩])
   (.seq
    (.ops [⟨some 5, .mv (t 1), none, false⟩, ⟨some 6, .call 39 [(t 5)], none, false⟩, ⟨some 7, .mv (t 6), none, false⟩, ⟨some 8, .mv (t 0), some (7, true), false⟩, ⟨some 9, .mv (t 1), some (7, true), false⟩, ⟨some 10, .call 40 [(t 8), (t 9)], some (7, true), false⟩, ⟨some 11, .mv (t 0), some (7, true), false⟩, ⟨some 12, .bin .eql (t 10) (t 11), some (7, true), false⟩, ⟨some 13, .pick (t 7) (t 12) (.const (.bool false)), none, false⟩, ⟨some 4, .mv (t 13), none, false⟩])
    .ret))
theorem comp34 : Try.f34.body.bind (comp Try.prog Try.f34.ntmps) = some pc34 := by kernel_rfl
theorem in34 {a0 a1 : Value} {H : Heap} {k : Value → Heap → Prop} (h : H.Wf → pexec Try.prog pc34 ⟨Rt Try.prog Try.f34 H k, noEx⟩ (Rt Try.prog Try.f34 H k) (upd (upd U 0 a0) 1 a1) H) : CallQ Try.prog 34 [a0, a1] H k := call_in Try.func34 comp34 (by kernel_rfl) (by kernel_rfl) (env2 a0 a1) h
theorem ret35 (H0 H : Heap) (k : Value → Heap → Prop) (A : Env) : Rt Try.prog Try.f35 H0 k A H = Ret H0 k (A 6) H := rt_1 (by kernel_rfl) (by kernel_rfl)
/-- linotype/linotyperef27.lie -/
noncomputable def pc35 : PC :=
  (.seq
   (.ops [⟨some 6, .mv (.const (.slice none 0 0)), none, false⟩])
   (.seq
    (.ops [⟨some 9, .mv (t 1), none, false⟩, ⟨some 10, .bslice 3 1 1 [.int .i64 0] [(0, (t 9))], none, false⟩, ⟨some 7, .mv (t 10), none, false⟩])
    (.seq
     (.seq
      (.ops [⟨some 8, .mv (.const (.int .i64 0)), none, false⟩])
      (.block 0
       (.loop
        (.seq
         (.seq
          (.ops [⟨some 11, .mv (t 8), none, false⟩, ⟨some 12, .mv (t 0), none, false⟩, ⟨some 13, .lenS (t 12), none, false⟩, ⟨some 14, .bin .lss (t 11) (t 13), none, false⟩])
          (.cond (t 14)
           .skip
           (.exit 0)))
         (.seq
          (.block 1
           (.ops [⟨some 17, .mv (t 7), none, false⟩, ⟨some 18, .mv (t 7), none, false⟩, ⟨some 19, .mv (t 8), none, false⟩, ⟨some 20, .idxS 1 (t 18) (t 19), none, false⟩, ⟨some 21, .ld false 1 (t 20), none, true⟩, ⟨some 22, .mv (t 0), none, false⟩, ⟨some 23, .mv (t 8), none, false⟩, ⟨some 24, .idxS 7 (t 22) (t 23), none, false⟩, ⟨some 25, .ld true 7 (t 24), none, false⟩, ⟨some 26, .mv (t 7), none, false⟩, ⟨some 27, .mv (t 8), none, false⟩, ⟨some 28, .idxS 1 (t 26) (t 27), none, false⟩, ⟨some 29, .ld false 1 (t 28), none, false⟩, ⟨some 30, .mv (t 2), none, false⟩, ⟨some 31, .mv (t 8), none, false⟩, ⟨some 32, .idxS 1 (t 30) (t 31), none, false⟩, ⟨some 33, .ld false 1 (t 32), none, false⟩, ⟨some 34, .call 41 [(t 25), (t 29), (t 33)], none, true⟩, ⟨some 35, .bin .add (t 21) (t 34), none, false⟩, ⟨some 36, .bslice 3 1 1 [.int .i64 0] [(0, (t 35))], none, false⟩, ⟨some 37, .app 3 1 8 (t 17) (t 36), none, false⟩, ⟨some 7, .mv (t 37), none, false⟩]))
          (.ops [⟨some 15, .mv (t 8), none, false⟩, ⟨some 16, .bin .add (t 15) (.const (.int .i64 1)), none, false⟩, ⟨some 8, .mv (t 16), none, false⟩]))))))
     (.seq
      (.ops [⟨some 38, .mv (t 7), none, false⟩, ⟨some 6, .mv (t 38), none, false⟩])
      .ret))))
theorem comp35 : Try.f35.body.bind (comp Try.prog Try.f35.ntmps) = some pc35 := by kernel_rfl
theorem in35 {a0 a1 a2 : Value} {H : Heap} {k : Value → Heap → Prop} (h : H.Wf → pexec Try.prog pc35 ⟨Rt Try.prog Try.f35 H k, noEx⟩ (Rt Try.prog Try.f35 H k) (upd (upd (upd U 0 a0) 1 a1) 2 a2) H) : CallQ Try.prog 35 [a0, a1, a2] H k := call_in Try.func35 comp35 (by kernel_rfl) (by kernel_rfl) (env3 a0 a1 a2) h
theorem ret36 (H0 H : Heap) (k : Value → Heap → Prop) (A : Env) : Rt Try.prog Try.f36 H0 k A H = Ret H0 k (A 4) H := rt_1 (by kernel_rfl) (by kernel_rfl)
/-- linotype/linotyperef01.Fits -/
noncomputable def pc36 : PC :=
  (.seq
   (.ops [⟨some 4, .mv (.const (.bool false)), none, false⟩])
   (.seq
    (.seq
     (.ops [⟨some 5, .mv (t 1), none, false⟩, ⟨some 6, .bin .lss (t 5) (.const (.int .i64 1)), none, false⟩, ⟨some 7, .mv (t 6), none, false⟩, ⟨some 8, .mv (t 1), some (7, false), false⟩, ⟨some 9, .bin .gtr (t 8) (.const (.int .i64 64)), some (7, false), false⟩, ⟨some 10, .pick (t 7) (.const (.bool true)) (t 9), none, false⟩])
     (.cond (t 10)
      (.seq
       (.ops [⟨some 4, .mv (.const (.bool false)), none, false⟩])
       .ret)
      .skip))
    (.seq
     (.ops [⟨some 11, .mv (t 0), none, false⟩, ⟨some 12, .mv (t 1), none, false⟩, ⟨some 13, .bin .sub (t 12) (.const (.int .i64 1)), none, false⟩, ⟨some 14, .bin .shr (t 11) (t 13), none, false⟩, ⟨some 15, .bin .eql (t 14) (.const (.int .i64 0)), none, false⟩, ⟨some 16, .mv (t 15), none, false⟩, ⟨some 17, .mv (t 0), some (16, false), false⟩, ⟨some 18, .mv (t 1), some (16, false), false⟩, ⟨some 19, .bin .sub (t 18) (.const (.int .i64 1)), some (16, false), false⟩, ⟨some 20, .bin .shr (t 17) (t 19), some (16, false), false⟩, ⟨some 21, .bin .eql (t 20) (.const (.int .i64 (-1))), some (16, false), false⟩, ⟨some 22, .pick (t 16) (.const (.bool true)) (t 21), none, false⟩, ⟨some 4, .mv (t 22), none, false⟩])
     .ret)))
theorem comp36 : Try.f36.body.bind (comp Try.prog Try.f36.ntmps) = some pc36 := by kernel_rfl
theorem in36 {a0 a1 : Value} {H : Heap} {k : Value → Heap → Prop} (h : H.Wf → pexec Try.prog pc36 ⟨Rt Try.prog Try.f36 H k, noEx⟩ (Rt Try.prog Try.f36 H k) (upd (upd U 0 a0) 1 a1) H) : CallQ Try.prog 36 [a0, a1] H k := call_in Try.func36 comp36 (by kernel_rfl) (by kernel_rfl) (env2 a0 a1) h
theorem ret37 (H0 H : Heap) (k : Value → Heap → Prop) (A : Env) : Rt Try.prog Try.f37 H0 k A H = Ret H0 k (A 6) H := rt_1 (by kernel_rfl) (by kernel_rfl)
/-- linotype/linotyperef27.distance -/
noncomputable def pc37 : PC :=
  (.seq
   (.ops [⟨some 3, .box 38 (t 0), none, false⟩, ⟨some 6, .mv (.const (.int .i64 0)), none, false⟩])
   (.seq
    (.ops [⟨some 7, .mv (t 1), none, false⟩, ⟨some 8, .fldA 4 (t 3), none, false⟩, ⟨some 9, .ld false 1 (t 8), none, false⟩, ⟨some 10, .idxS 1 (t 7) (t 9), none, false⟩, ⟨some 11, .ld false 1 (t 10), none, false⟩, ⟨some 12, .fldA 5 (t 3), none, false⟩, ⟨some 13, .ld false 1 (t 12), none, false⟩, ⟨some 14, .bin .add (t 11) (t 13), none, false⟩, ⟨some 15, .mv (t 1), none, false⟩, ⟨some 16, .mv (t 2), none, false⟩, ⟨some 17, .bin .add (t 16) (.const (.int .i64 1)), none, false⟩, ⟨some 18, .idxS 1 (t 15) (t 17), none, false⟩, ⟨some 19, .ld false 1 (t 18), none, false⟩, ⟨some 20, .bin .sub (t 14) (t 19), none, false⟩, ⟨some 6, .mv (t 20), none, false⟩])
    .ret))
theorem comp37 : Try.f37.body.bind (comp Try.prog Try.f37.ntmps) = some pc37 := by kernel_rfl
theorem in37 {a0 a1 a2 : Value} {H : Heap} {k : Value → Heap → Prop} (h : H.Wf → pexec Try.prog pc37 ⟨Rt Try.prog Try.f37 H k, noEx⟩ (Rt Try.prog Try.f37 H k) (upd (upd (upd U 0 a0) 1 a1) 2 a2) H) : CallQ Try.prog 37 [a0, a1, a2] H k := call_in Try.func37 comp37 (by kernel_rfl) (by kernel_rfl) (env3 a0 a1 a2) h
theorem ret38 (H0 H : Heap) (k : Value → Heap → Prop) (A : Env) : Rt Try.prog Try.f38 H0 k A H = Ret H0 k (A 2) H := rt_1 (by kernel_rfl) (by kernel_rfl)
/-- linotype/linotyperef27.power -/
noncomputable def pc38 : PC :=
  (.seq
   (.ops [⟨some 2, .mv (.const (.bool false)), none, false⟩])
   (.seq
    (.seq
     (.ops [⟨some 3, .mv (.const (.int .i64 1)), none, false⟩])
     (.block 0
      (.loop
       (.seq
        (.seq
         (.ops [⟨some 4, .mv (t 3), none, false⟩, ⟨some 5, .bin .leq (t 4) (.const (.int .i64 4096)), none, false⟩])
         (.cond (t 5)
          .skip
          (.exit 0)))
        (.seq
         (.block 1
          (.seq
           (.ops [⟨some 8, .mv (t 3), none, false⟩, ⟨some 9, .mv (t 0), none, false⟩, ⟨some 10, .bin .eql (t 8) (t 9), none, false⟩])
           (.cond (t 10)
            (.seq
             (.ops [⟨some 2, .mv (.const (.bool true)), none, false⟩])
             .ret)
            .skip)))
         (.ops [⟨some 6, .mv (t 3), none, false⟩, ⟨some 7, .bin .mul (.const (.int .i64 2)) (t 6), none, false⟩, ⟨some 3, .mv (t 7), none, false⟩]))))))
    (.seq
     (.ops [⟨some 2, .mv (.const (.bool false)), none, false⟩])
     .ret)))
theorem comp38 : Try.f38.body.bind (comp Try.prog Try.f38.ntmps) = some pc38 := by kernel_rfl
theorem in38 {a0 : Value} {H : Heap} {k : Value → Heap → Prop} (h : H.Wf → pexec Try.prog pc38 ⟨Rt Try.prog Try.f38 H k, noEx⟩ (Rt Try.prog Try.f38 H k) (upd U 0 a0) H) : CallQ Try.prog 38 [a0] H k := call_in Try.func38 comp38 (by kernel_rfl) (by kernel_rfl) (env1 a0) h
theorem ret39 (H0 H : Heap) (k : Value → Heap → Prop) (A : Env) : Rt Try.prog Try.f39 H0 k A H = Ret H0 k (A 2) H := rt_1 (by kernel_rfl) (by kernel_rfl)
/-- linotype/field.counted -/
noncomputable def pc39 : PC :=
  (.seq
   (.ops [⟨some 2, .mv (.const (.bool false)), none, false⟩])
   (.seq
    (.ops [⟨some 3, .mv (t 0), none, false⟩, ⟨some 4, .bin .geq (t 3) (.const (.int .i64 1)), none, false⟩, ⟨some 5, .mv (t 4), none, false⟩, ⟨some 6, .mv (t 0), some (5, true), false⟩, ⟨some 7, .bin .leq (t 6) (.const (.int .i64 64)), some (5, true), false⟩, ⟨some 8, .pick (t 5) (t 7) (.const (.bool false)), none, false⟩, ⟨some 2, .mv (t 8), none, false⟩])
    .ret))
theorem comp39 : Try.f39.body.bind (comp Try.prog Try.f39.ntmps) = some pc39 := by kernel_rfl
theorem in39 {a0 : Value} {H : Heap} {k : Value → Heap → Prop} (h : H.Wf → pexec Try.prog pc39 ⟨Rt Try.prog Try.f39 H k, noEx⟩ (Rt Try.prog Try.f39 H k) (upd U 0 a0) H) : CallQ Try.prog 39 [a0] H k := call_in Try.func39 comp39 (by kernel_rfl) (by kernel_rfl) (env1 a0) h
theorem ret40 (H0 H : Heap) (k : Value → Heap → Prop) (A : Env) : Rt Try.prog Try.f40 H0 k A H = Ret H0 k (A 4) H := rt_1 (by kernel_rfl) (by kernel_rfl)
/-- linotype/field.Sign -/
noncomputable def pc40 : PC :=
  (.seq
   (.ops [⟨some 4, .mv (.const (.int .i64 0)), none, false⟩])
   (.seq
    (.seq
     (.ops [⟨some 6, .mv (t 1), none, false⟩, ⟨some 7, .call 39 [(t 6)], none, false⟩, ⟨some 8, .not (t 7), none, false⟩])
     (.cond (t 8)
      (.seq
       (.ops [⟨some 4, .mv (.const (.int .i64 0)), none, false⟩])
       .ret)
      .skip))
    (.seq
     (.ops [⟨some 9, .mv (t 1), none, false⟩, ⟨some 10, .bin .sub (.const (.int .i64 64)) (t 9), none, false⟩, ⟨some 5, .mv (t 10), none, false⟩])
     (.seq
      (.ops [⟨some 11, .mv (t 0), none, false⟩, ⟨some 12, .toInt .u64 (t 11), none, false⟩, ⟨some 13, .mv (t 5), none, false⟩, ⟨some 14, .bin .shl (t 12) (t 13), none, false⟩, ⟨some 15, .toInt .i64 (t 14), none, false⟩, ⟨some 16, .mv (t 5), none, false⟩, ⟨some 17, .bin .shr (t 15) (t 16), none, false⟩, ⟨some 4, .mv (t 17), none, false⟩])
      .ret))))
theorem comp40 : Try.f40.body.bind (comp Try.prog Try.f40.ntmps) = some pc40 := by kernel_rfl
theorem in40 {a0 a1 : Value} {H : Heap} {k : Value → Heap → Prop} (h : H.Wf → pexec Try.prog pc40 ⟨Rt Try.prog Try.f40 H k, noEx⟩ (Rt Try.prog Try.f40 H k) (upd (upd U 0 a0) 1 a1) H) : CallQ Try.prog 40 [a0, a1] H k := call_in Try.func40 comp40 (by kernel_rfl) (by kernel_rfl) (env2 a0 a1) h
theorem ret41 (H0 H : Heap) (k : Value → Heap → Prop) (A : Env) : Rt Try.prog Try.f41 H0 k A H = Ret H0 k (A 6) H := rt_1 (by kernel_rfl) (by kernel_rfl)
/-- linotype/linotyperef27.size -/
noncomputable def pc41 : PC :=
  (.seq
   (.ops [⟨some 3, .box 38 (t 0), none, false⟩, ⟨some 6, .mv (.const (.int .i64 0)), none, false⟩])
   (.seq
    (.block 0
     (.seq
      (.ops [⟨some 8, .fldA 0 (t 3), none, false⟩, ⟨some 9, .ld false 1 (t 8), none, false⟩, ⟨some 10, .bin .eql (t 9) (.const (.int .i64 1)), none, false⟩, ⟨some 7, .mv (t 10), none, false⟩])
      (.cond (t 7)
       (.seq
        (.ops [⟨some 11, .fldA 1 (t 3), none, false⟩, ⟨some 12, .ld false 1 (t 11), none, false⟩, ⟨some 6, .mv (t 12), none, false⟩])
        .ret)
       (.seq
        (.ops [⟨some 14, .fldA 0 (t 3), none, false⟩, ⟨some 15, .ld false 1 (t 14), none, false⟩, ⟨some 16, .bin .eql (t 15) (.const (.int .i64 3)), none, false⟩, ⟨some 13, .mv (t 16), none, false⟩])
        (.cond (t 13)
         (.seq
          (.ops [⟨some 17, .fldA 6 (t 3), none, false⟩, ⟨some 18, .ld false 1 (t 17), none, false⟩, ⟨some 19, .mv (t 1), none, false⟩, ⟨some 20, .fldA 6 (t 3), none, false⟩, ⟨some 21, .ld false 1 (t 20), none, false⟩, ⟨some 22, .bin .rem (t 19) (t 21), none, false⟩, ⟨some 23, .bin .sub (t 18) (t 22), none, false⟩, ⟨some 24, .fldA 6 (t 3), none, false⟩, ⟨some 25, .ld false 1 (t 24), none, false⟩, ⟨some 26, .bin .rem (t 23) (t 25), none, false⟩, ⟨some 6, .mv (t 26), none, false⟩])
          .ret)
         (.seq
          (.ops [⟨some 28, .mv (t 2), none, false⟩, ⟨some 27, .mv (t 28), none, false⟩])
          (.cond (t 27)
           (.seq
            (.ops [⟨some 29, .fldA 3 (t 3), none, false⟩, ⟨some 30, .ld false 1 (t 29), none, false⟩, ⟨some 6, .mv (t 30), none, false⟩])
            .ret)
           .skip)))))))
    (.seq
     (.ops [⟨some 31, .fldA 2 (t 3), none, false⟩, ⟨some 32, .ld false 1 (t 31), none, false⟩, ⟨some 6, .mv (t 32), none, false⟩])
     .ret)))
theorem comp41 : Try.f41.body.bind (comp Try.prog Try.f41.ntmps) = some pc41 := by kernel_rfl
theorem in41 {a0 a1 a2 : Value} {H : Heap} {k : Value → Heap → Prop} (h : H.Wf → pexec Try.prog pc41 ⟨Rt Try.prog Try.f41 H k, noEx⟩ (Rt Try.prog Try.f41 H k) (upd (upd (upd U 0 a0) 1 a1) 2 a2) H) : CallQ Try.prog 41 [a0, a1, a2] H k := call_in Try.func41 comp41 (by kernel_rfl) (by kernel_rfl) (env3 a0 a1 a2) h
end Go.Proofs.Ytgoafcanccbflaa.lay
