/- The code of the functions that are reached, resolved. -/
import Derived.Test.YtfdeejmibgpbhaaDoorProg
import Derived.KernelRfl
import Derived.Test.YtfdeejmibgpbhaaDoorAbSx
set_option linter.unusedVariables false
set_option maxRecDepth 100000
namespace Go.Proofs.YtfdeejmibgpbhaaDoor.bits
open Go.Ab
theorem ret4 (H0 H : Heap) (k : Value → Heap → Prop) (A : Env) : Rt Tryd.prog Tryd.f4 H0 k A H = Ret H0 k (A 2) H := rt_1 (by kernel_rfl) (by kernel_rfl)
/-- linotype/linotypelaw16.BitsOf -/
noncomputable def pc4 : PC :=
  (.seq
   (.ops [⟨some 2, .mv (.const (.bool false)), none, false⟩])
   (.seq
    (.ops [⟨some 3, .call 9 [], none, false⟩, ⟨some 4, .mv (t 0), none, false⟩, ⟨some 5, .call 14 [(t 3), (t 4)], none, false⟩, ⟨some 6, .call 11 [], none, false⟩, ⟨some 7, .mv (t 0), none, false⟩, ⟨some 8, .call 14 [(t 6), (t 7)], none, false⟩, ⟨some 9, .call 10 [(t 5), (t 8)], none, false⟩, ⟨some 10, .mv (t 9), none, false⟩, ⟨some 11, .call 13 [], some (10, true), false⟩, ⟨some 12, .pick (t 10) (t 11) (.const (.bool false)), none, false⟩, ⟨some 2, .mv (t 12), none, false⟩])
    .ret))
theorem comp4 : Tryd.f4.body.bind (comp Tryd.prog Tryd.f4.ntmps) = some pc4 := by kernel_rfl
theorem in4 {a0 : Value} {H : Heap} {k : Value → Heap → Prop} (h : H.Wf → pexec Tryd.prog pc4 ⟨Rt Tryd.prog Tryd.f4 H k, noEx⟩ (Rt Tryd.prog Tryd.f4 H k) (upd U 0 a0) H) : CallQ Tryd.prog 4 [a0] H k := call_in Tryd.func4 comp4 (by kernel_rfl) (by kernel_rfl) (env1 a0) h
theorem ret7 (H0 H : Heap) (k : Value → Heap → Prop) (A : Env) : Rt Tryd.prog Tryd.f7 H0 k A H = Ret H0 k (A 2) H := rt_1 (by kernel_rfl) (by kernel_rfl)
/-- linotype/linotypelaw16.BitsPairs -/
noncomputable def pc7 : PC :=
  (.seq
   (.ops [⟨some 2, .mv (.const (.bool false)), none, false⟩])
   (.seq
    (.ops [⟨some 9, .call 13 [], none, false⟩, ⟨some 3, .mv (t 9), none, false⟩])
    (.seq
     (.ops [⟨some 10, .call 9 [], none, false⟩, ⟨some 4, .mv (t 10), none, false⟩])
     (.seq
      (.seq
       (.ops [⟨some 11, .mv (t 4), none, false⟩, ⟨some 12, .lenS (t 11), none, false⟩, ⟨some 13, .bin .lss (t 12) (.const (.int .i64 2)), none, false⟩])
       (.cond (t 13)
        (.seq
         (.ops [⟨some 2, .mv (.const (.bool false)), none, false⟩])
         .ret)
        .skip))
      (.seq
       (.ops [⟨some 14, .mv (t 0), none, false⟩, ⟨some 15, .mv (t 4), none, false⟩, ⟨some 16, .lenS (t 15), none, false⟩, ⟨some 17, .bin .sub (t 16) (.const (.int .i64 1)), none, false⟩, ⟨some 18, .call 15 [(t 14), (t 17)], none, false⟩, ⟨some 19, .bin .add (.const (.int .i64 1)) (t 18), none, false⟩, ⟨some 5, .mv (t 19), none, false⟩])
       (.seq
        (.ops [⟨some 20, .mv (t 4), none, false⟩, ⟨some 21, .mv (t 5), none, false⟩, ⟨some 22, .idxS 10 (t 20) (t 21), none, false⟩, ⟨some 23, .ld true 10 (t 22), none, false⟩, ⟨some 6, .alloc 32 [.int .i64 0, .slice none 0 0, .slice none 0 0, .int .i64 0, .int .i64 0, .int .i64 0, .int .i64 0, .int .i64 0, .bool false, .int .i64 0], none, false⟩, ⟨none, .st 10 (t 6) (t 23), none, false⟩])
        (.seq
         (.seq
          (.ops [⟨some 24, .fldA 8 (t 6), none, false⟩, ⟨some 25, .ld false 1 (t 24), none, false⟩, ⟨some 26, .not (t 25), none, false⟩, ⟨some 27, .mv (t 26), none, false⟩, ⟨some 28, .fldA 7 (t 6), some (27, false), false⟩, ⟨some 29, .ld false 1 (t 28), some (27, false), false⟩, ⟨some 30, .bin .neq (t 29) (.const (.int .i64 1)), some (27, false), false⟩, ⟨some 31, .pick (t 27) (.const (.bool true)) (t 30), none, false⟩])
          (.cond (t 31)
           (.seq
            (.ops [⟨some 32, .mv (t 3), none, false⟩, ⟨some 2, .mv (t 32), none, false⟩])
            .ret)
           .skip))
         (.seq
          (.ops [⟨some 33, .mv (t 4), none, false⟩, ⟨some 34, .mv (t 5), none, false⟩, ⟨some 35, .bin .sub (t 34) (.const (.int .i64 1)), none, false⟩, ⟨some 36, .idxS 10 (t 33) (t 35), none, false⟩, ⟨some 37, .ld true 10 (t 36), none, false⟩, ⟨some 38, .call 16 [(t 37)], none, false⟩, ⟨some 7, .alloc 32 [.int .i64 0, .slice none 0 0, .slice none 0 0, .int .i64 0, .int .i64 0, .int .i64 0, .int .i64 0, .int .i64 0, .bool false, .int .i64 0], none, false⟩, ⟨none, .st 10 (t 7) (t 38), none, false⟩])
          (.seq
           (.ops [⟨some 39, .fldA 7 (t 7), none, false⟩, ⟨none, .st 1 (t 39) (.const (.int .i64 1)), none, false⟩])
           (.seq
            (.seq
             (.ops [⟨some 8, .mv (.const (.int .i64 0)), none, false⟩])
             (.block 0
              (.loop
               (.seq
                (.seq
                 (.ops [⟨some 40, .mv (t 8), none, false⟩, ⟨some 41, .fldA 1 (t 7), none, false⟩, ⟨some 42, .ld false 1 (t 41), none, false⟩, ⟨some 43, .lenS (t 42), none, false⟩, ⟨some 44, .bin .lss (t 40) (t 43), none, false⟩])
                 (.cond (t 44)
                  .skip
                  (.exit 0)))
                (.seq
                 (.block 1
                  (.seq
                   (.ops [⟨some 47, .fldA 1 (t 7), none, false⟩, ⟨some 48, .ld false 1 (t 47), none, false⟩, ⟨some 49, .mv (t 8), none, false⟩, ⟨some 50, .idxS 1 (t 48) (t 49), none, false⟩, ⟨some 51, .ld false 1 (t 50), none, false⟩, ⟨some 52, .bin .neq (t 51) (.const (.int .i64 20)), none, false⟩])
                   (.cond (t 52)
                    (.ops [⟨some 53, .fldA 1 (t 7), none, false⟩, ⟨some 54, .ld false 1 (t 53), none, false⟩, ⟨some 55, .mv (t 8), none, false⟩, ⟨some 56, .idxS 1 (t 54) (t 55), none, false⟩, ⟨some 57, .ld false 1 (t 56), none, false⟩, ⟨some 58, .bin .add (t 57) (.const (.int .i64 1)), none, false⟩, ⟨some 59, .idxS 1 (t 54) (t 55), none, false⟩, ⟨none, .st 1 (t 59) (t 58), none, false⟩])
                    .skip)))
                 (.ops [⟨some 45, .mv (t 8), none, false⟩, ⟨some 46, .bin .add (t 45) (.const (.int .i64 1)), none, false⟩, ⟨some 8, .mv (t 46), none, false⟩]))))))
            (.seq
             (.ops [⟨some 60, .mv (t 3), none, false⟩, ⟨some 61, .mv (t 60), none, false⟩, ⟨some 62, .mv (t 4), some (61, true), false⟩, ⟨some 63, .mv (t 5), some (61, true), false⟩, ⟨some 64, .bin .sub (t 63) (.const (.int .i64 1)), some (61, true), false⟩, ⟨some 65, .idxS 10 (t 62) (t 64), some (61, true), false⟩, ⟨some 66, .fldA 7 (t 65), some (61, true), false⟩, ⟨some 67, .ld false 1 (t 66), some (61, true), false⟩, ⟨some 68, .bin .eql (t 67) (.const (.int .i64 0)), some (61, true), false⟩, ⟨some 69, .pick (t 61) (t 68) (.const (.bool false)), none, false⟩, ⟨some 70, .mv (t 69), none, false⟩, ⟨some 71, .ld true 10 (t 7), some (70, true), false⟩, ⟨some 72, .ld true 10 (t 6), some (70, true), false⟩, ⟨some 73, .call 17 [(t 71), (t 72)], some (70, true), false⟩, ⟨some 74, .pick (t 70) (t 73) (.const (.bool false)), none, false⟩, ⟨some 2, .mv (t 74), none, false⟩])
             .ret)))))))))))
theorem comp7 : Tryd.f7.body.bind (comp Tryd.prog Tryd.f7.ntmps) = some pc7 := by kernel_rfl
theorem in7 {a0 : Value} {H : Heap} {k : Value → Heap → Prop} (h : H.Wf → pexec Tryd.prog pc7 ⟨Rt Tryd.prog Tryd.f7 H k, noEx⟩ (Rt Tryd.prog Tryd.f7 H k) (upd U 0 a0) H) : CallQ Tryd.prog 7 [a0] H k := call_in Tryd.func7 comp7 (by kernel_rfl) (by kernel_rfl) (env1 a0) h
theorem ret8 (H0 H : Heap) (k : Value → Heap → Prop) (A : Env) : Rt Tryd.prog Tryd.f8 H0 k A H = Ret H0 k (A 2) H := rt_1 (by kernel_rfl) (by kernel_rfl)
/-- linotype/linotypelaw16.BitsMay -/
noncomputable def pc8 : PC :=
  (.seq
   (.ops [⟨some 2, .mv (.const (.bool false)), none, false⟩])
   (.seq
    (.ops [⟨some 6, .call 5 [], none, false⟩, ⟨some 3, .mv (t 6), none, false⟩])
    (.seq
     (.ops [⟨some 7, .call 9 [], none, false⟩, ⟨some 4, .mv (t 7), none, false⟩])
     (.seq
      (.seq
       (.ops [⟨some 8, .mv (t 4), none, false⟩, ⟨some 9, .lenS (t 8), none, false⟩, ⟨some 10, .bin .eql (t 9) (.const (.int .i64 0)), none, false⟩])
       (.cond (t 10)
        (.seq
         (.ops [⟨some 2, .mv (.const (.bool false)), none, false⟩])
         .ret)
        .skip))
      (.seq
       (.ops [⟨some 11, .mv (t 4), none, false⟩, ⟨some 12, .mv (t 0), none, false⟩, ⟨some 13, .mv (t 4), none, false⟩, ⟨some 14, .lenS (t 13), none, false⟩, ⟨some 15, .call 15 [(t 12), (t 14)], none, false⟩, ⟨some 16, .idxS 10 (t 11) (t 15), none, false⟩, ⟨some 17, .ld true 10 (t 16), none, false⟩, ⟨some 5, .alloc 32 [.int .i64 0, .slice none 0 0, .slice none 0 0, .int .i64 0, .int .i64 0, .int .i64 0, .int .i64 0, .int .i64 0, .bool false, .int .i64 0], none, false⟩, ⟨none, .st 10 (t 5) (t 17), none, false⟩])
       (.seq
        (.ops [⟨some 18, .mv (t 3), none, false⟩, ⟨some 19, .mv (t 18), none, false⟩, ⟨some 20, .ld true 10 (t 5), some (19, true), false⟩, ⟨some 21, .call 18 [(t 20)], some (19, true), false⟩, ⟨some 22, .bin .eql (t 21) (.const (.int .i64 0)), some (19, true), false⟩, ⟨some 23, .pick (t 19) (t 22) (.const (.bool false)), none, false⟩, ⟨some 24, .mv (t 23), none, false⟩, ⟨some 25, .fldA 0 (t 5), some (24, true), false⟩, ⟨some 26, .ld false 1 (t 25), some (24, true), false⟩, ⟨some 27, .bin .geq (t 26) (.const (.int .i64 116)), some (24, true), false⟩, ⟨some 28, .pick (t 24) (t 27) (.const (.bool false)), none, false⟩, ⟨some 29, .mv (t 28), none, false⟩, ⟨some 30, .fldA 0 (t 5), some (29, true), false⟩, ⟨some 31, .ld false 1 (t 30), some (29, true), false⟩, ⟨some 32, .bin .leq (t 31) (.const (.int .i64 135)), some (29, true), false⟩, ⟨some 33, .pick (t 29) (t 32) (.const (.bool false)), none, false⟩, ⟨some 2, .mv (t 33), none, false⟩])
        .ret))))))
theorem comp8 : Tryd.f8.body.bind (comp Tryd.prog Tryd.f8.ntmps) = some pc8 := by kernel_rfl
theorem in8 {a0 : Value} {H : Heap} {k : Value → Heap → Prop} (h : H.Wf → pexec Tryd.prog pc8 ⟨Rt Tryd.prog Tryd.f8 H k, noEx⟩ (Rt Tryd.prog Tryd.f8 H k) (upd U 0 a0) H) : CallQ Tryd.prog 8 [a0] H k := call_in Tryd.func8 comp8 (by kernel_rfl) (by kernel_rfl) (env1 a0) h
theorem ret10 (H0 H : Heap) (k : Value → Heap → Prop) (A : Env) : Rt Tryd.prog Tryd.f10 H0 k A H = Ret H0 k (A 4) H := rt_1 (by kernel_rfl) (by kernel_rfl)
/-- linotype/linotypekit.SameForms -/
noncomputable def pc10 : PC :=
  (.seq
   (.ops [⟨some 4, .mv (.const (.bool false)), none, false⟩])
   (.seq
    (.seq
     (.ops [⟨some 6, .mv (t 0), none, false⟩, ⟨some 7, .lenS (t 6), none, false⟩, ⟨some 8, .mv (t 1), none, false⟩, ⟨some 9, .lenS (t 8), none, false⟩, ⟨some 10, .bin .neq (t 7) (t 9), none, false⟩])
     (.cond (t 10)
      (.seq
       (.ops [⟨some 4, .mv (.const (.bool false)), none, false⟩])
       .ret)
      .skip))
    (.seq
     (.seq
      (.ops [⟨some 5, .mv (.const (.int .i64 0)), none, false⟩])
      (.block 0
       (.loop
        (.seq
         (.seq
          (.ops [⟨some 11, .mv (t 5), none, false⟩, ⟨some 12, .mv (t 0), none, false⟩, ⟨some 13, .lenS (t 12), none, false⟩, ⟨some 14, .bin .lss (t 11) (t 13), none, false⟩])
          (.cond (t 14)
           .skip
           (.exit 0)))
         (.seq
          (.block 1
           (.seq
            (.ops [⟨some 17, .mv (t 0), none, false⟩, ⟨some 18, .mv (t 5), none, false⟩, ⟨some 19, .idxS 10 (t 17) (t 18), none, false⟩, ⟨some 20, .ld true 10 (t 19), none, false⟩, ⟨some 21, .mv (t 1), none, false⟩, ⟨some 22, .mv (t 5), none, false⟩, ⟨some 23, .idxS 10 (t 21) (t 22), none, false⟩, ⟨some 24, .ld true 10 (t 23), none, false⟩, ⟨some 25, .call 17 [(t 20), (t 24)], none, false⟩, ⟨some 26, .not (t 25), none, false⟩])
            (.cond (t 26)
             (.seq
              (.ops [⟨some 4, .mv (.const (.bool false)), none, false⟩])
              .ret)
             .skip)))
          (.ops [⟨some 15, .mv (t 5), none, false⟩, ⟨some 16, .bin .add (t 15) (.const (.int .i64 1)), none, false⟩, ⟨some 5, .mv (t 16), none, false⟩]))))))
     (.seq
      (.ops [⟨some 4, .mv (.const (.bool true)), none, false⟩])
      .ret))))
theorem comp10 : Tryd.f10.body.bind (comp Tryd.prog Tryd.f10.ntmps) = some pc10 := by kernel_rfl
theorem in10 {a0 a1 : Value} {H : Heap} {k : Value → Heap → Prop} (h : H.Wf → pexec Tryd.prog pc10 ⟨Rt Tryd.prog Tryd.f10 H k, noEx⟩ (Rt Tryd.prog Tryd.f10 H k) (upd (upd U 0 a0) 1 a1) H) : CallQ Tryd.prog 10 [a0, a1] H k := call_in Tryd.func10 comp10 (by kernel_rfl) (by kernel_rfl) (env2 a0 a1) h
theorem ret14 (H0 H : Heap) (k : Value → Heap → Prop) (A : Env) : Rt Tryd.prog Tryd.f14 H0 k A H = Ret H0 k (A 4) H := rt_1 (by kernel_rfl) (by kernel_rfl)
/-- linotype/linotypekit.FormsOf -/
noncomputable def pc14 : PC :=
  (.seq
   (.ops [⟨some 4, .mv (.const (.slice none 0 0)), none, false⟩])
   (.seq
    (.ops [⟨some 5, .mv (.const (.slice none 0 0)), none, false⟩])
    (.seq
     (.seq
      (.ops [⟨some 6, .mv (.const (.int .i64 0)), none, false⟩])
      (.block 0
       (.loop
        (.seq
         (.seq
          (.ops [⟨some 7, .mv (t 6), none, false⟩, ⟨some 8, .mv (t 0), none, false⟩, ⟨some 9, .lenS (t 8), none, false⟩, ⟨some 10, .bin .lss (t 7) (t 9), none, false⟩])
          (.cond (t 10)
           .skip
           (.exit 0)))
         (.seq
          (.block 1
           (.seq
            (.ops [⟨some 13, .mv (t 0), none, false⟩, ⟨some 14, .mv (t 6), none, false⟩, ⟨some 15, .idxS 10 (t 13) (t 14), none, false⟩, ⟨some 16, .fldA 0 (t 15), none, false⟩, ⟨some 17, .ld false 1 (t 16), none, false⟩, ⟨some 18, .mv (t 1), none, false⟩, ⟨some 19, .bin .eql (t 17) (t 18), none, false⟩])
            (.cond (t 19)
             (.ops [⟨some 20, .mv (t 5), none, false⟩, ⟨some 21, .mv (t 0), none, false⟩, ⟨some 22, .mv (t 6), none, false⟩, ⟨some 23, .idxS 10 (t 21) (t 22), none, false⟩, ⟨some 24, .ld true 10 (t 23), none, false⟩, ⟨some 25, .bslice 32 10 1 [.int .i64 0, .slice none 0 0, .slice none 0 0, .int .i64 0, .int .i64 0, .int .i64 0, .int .i64 0, .int .i64 0, .bool false, .int .i64 0] [(0, (t 24))], none, false⟩, ⟨some 26, .app 32 10 112 (t 20) (t 25), none, false⟩, ⟨some 5, .mv (t 26), none, false⟩])
             .skip)))
          (.ops [⟨some 11, .mv (t 6), none, false⟩, ⟨some 12, .bin .add (t 11) (.const (.int .i64 1)), none, false⟩, ⟨some 6, .mv (t 12), none, false⟩]))))))
     (.seq
      (.ops [⟨some 27, .mv (t 5), none, false⟩, ⟨some 4, .mv (t 27), none, false⟩])
      .ret))))
theorem comp14 : Tryd.f14.body.bind (comp Tryd.prog Tryd.f14.ntmps) = some pc14 := by kernel_rfl
theorem in14 {a0 a1 : Value} {H : Heap} {k : Value → Heap → Prop} (h : H.Wf → pexec Tryd.prog pc14 ⟨Rt Tryd.prog Tryd.f14 H k, noEx⟩ (Rt Tryd.prog Tryd.f14 H k) (upd (upd U 0 a0) 1 a1) H) : CallQ Tryd.prog 14 [a0, a1] H k := call_in Tryd.func14 comp14 (by kernel_rfl) (by kernel_rfl) (env2 a0 a1) h
theorem ret15 (H0 H : Heap) (k : Value → Heap → Prop) (A : Env) : Rt Tryd.prog Tryd.f15 H0 k A H = Ret H0 k (A 4) H := rt_1 (by kernel_rfl) (by kernel_rfl)
/-- linotype/linotypekit.Pick -/
noncomputable def pc15 : PC :=
  (.seq
   (.ops [⟨some 4, .mv (.const (.int .i64 0)), none, false⟩])
   (.seq
    (.seq
     (.ops [⟨some 5, .mv (t 1), none, false⟩, ⟨some 6, .bin .lss (t 5) (.const (.int .i64 1)), none, false⟩])
     (.cond (t 6)
      (.seq
       (.ops [⟨some 4, .mv (.const (.int .i64 0)), none, false⟩])
       .ret)
      .skip))
    (.seq
     (.ops [⟨some 7, .mv (t 0), none, false⟩, ⟨some 8, .mv (t 1), none, false⟩, ⟨some 9, .bin .rem (t 7) (t 8), none, false⟩, ⟨some 0, .mv (t 9), none, false⟩])
     (.seq
      (.seq
       (.ops [⟨some 10, .mv (t 0), none, false⟩, ⟨some 11, .bin .lss (t 10) (.const (.int .i64 0)), none, false⟩])
       (.cond (t 11)
        (.ops [⟨some 12, .mv (t 0), none, false⟩, ⟨some 13, .mv (t 1), none, false⟩, ⟨some 14, .bin .add (t 12) (t 13), none, false⟩, ⟨some 0, .mv (t 14), none, false⟩])
        .skip))
      (.seq
       (.ops [⟨some 15, .mv (t 0), none, false⟩, ⟨some 4, .mv (t 15), none, false⟩])
       .ret)))))
theorem comp15 : Tryd.f15.body.bind (comp Tryd.prog Tryd.f15.ntmps) = some pc15 := by kernel_rfl
theorem in15 {a0 a1 : Value} {H : Heap} {k : Value → Heap → Prop} (h : H.Wf → pexec Tryd.prog pc15 ⟨Rt Tryd.prog Tryd.f15 H k, noEx⟩ (Rt Tryd.prog Tryd.f15 H k) (upd (upd U 0 a0) 1 a1) H) : CallQ Tryd.prog 15 [a0, a1] H k := call_in Tryd.func15 comp15 (by kernel_rfl) (by kernel_rfl) (env2 a0 a1) h
theorem ret16 (H0 H : Heap) (k : Value → Heap → Prop) (A : Env) : Rt Tryd.prog Tryd.f16 H0 k A H = ldR true 10 (A 2) H fun v => Ret H0 k v H := rt_c (ty := 32) (by kernel_rfl) (by kernel_rfl) (by kernel_rfl)
/-- linotype/linotypekit.CopyForm -/
noncomputable def pc16 : PC :=
  (.seq
   (.ops [⟨some 1, .box 32 (t 0), none, false⟩, ⟨some 2, .alloc 32 [.int .i64 0, .slice none 0 0, .slice none 0 0, .int .i64 0, .int .i64 0, .int .i64 0, .int .i64 0, .int .i64 0, .bool false, .int .i64 0], none, false⟩])
   (.seq
    (.ops [⟨some 3, .bslice 3 1 0 [] [], none, false⟩, ⟨some 4, .fldA 1 (t 1), none, false⟩, ⟨some 5, .ld false 1 (t 4), none, false⟩, ⟨some 6, .app 3 1 8 (t 3) (t 5), none, false⟩, ⟨some 7, .fldA 1 (t 1), none, false⟩, ⟨none, .st 1 (t 7) (t 6), none, false⟩])
    (.seq
     (.ops [⟨some 8, .bslice 3 1 0 [] [], none, false⟩, ⟨some 9, .fldA 2 (t 1), none, false⟩, ⟨some 10, .ld false 1 (t 9), none, false⟩, ⟨some 11, .app 3 1 8 (t 8) (t 10), none, false⟩, ⟨some 12, .fldA 2 (t 1), none, false⟩, ⟨none, .st 1 (t 12) (t 11), none, false⟩])
     (.seq
      (.ops [⟨some 13, .ld true 10 (t 1), none, false⟩, ⟨none, .st 10 (t 2) (t 13), none, false⟩])
      .ret))))
theorem comp16 : Tryd.f16.body.bind (comp Tryd.prog Tryd.f16.ntmps) = some pc16 := by kernel_rfl
theorem in16 {a0 : Value} {H : Heap} {k : Value → Heap → Prop} (h : H.Wf → pexec Tryd.prog pc16 ⟨Rt Tryd.prog Tryd.f16 H k, noEx⟩ (Rt Tryd.prog Tryd.f16 H k) (upd U 0 a0) H) : CallQ Tryd.prog 16 [a0] H k := call_in Tryd.func16 comp16 (by kernel_rfl) (by kernel_rfl) (env1 a0) h
theorem ret17 (H0 H : Heap) (k : Value → Heap → Prop) (A : Env) : Rt Tryd.prog Tryd.f17 H0 k A H = Ret H0 k (A 4) H := rt_1 (by kernel_rfl) (by kernel_rfl)
/-- linotype/linotypekit.SameForm -/
noncomputable def pc17 : PC :=
  (.seq
   (.ops [⟨some 2, .box 32 (t 0), none, false⟩, ⟨some 3, .box 32 (t 1), none, false⟩, ⟨some 4, .mv (.const (.bool false)), none, false⟩])
   (.seq
    (.ops [⟨some 5, .fldA 0 (t 2), none, false⟩, ⟨some 6, .ld false 1 (t 5), none, false⟩, ⟨some 7, .fldA 0 (t 3), none, false⟩, ⟨some 8, .ld false 1 (t 7), none, false⟩, ⟨some 9, .bin .eql (t 6) (t 8), none, false⟩, ⟨some 10, .mv (t 9), none, false⟩, ⟨some 11, .fldA 1 (t 2), some (10, true), false⟩, ⟨some 12, .ld false 1 (t 11), some (10, true), false⟩, ⟨some 13, .fldA 1 (t 3), some (10, true), false⟩, ⟨some 14, .ld false 1 (t 13), some (10, true), false⟩, ⟨some 15, .call 35 [(t 12), (t 14)], some (10, true), false⟩, ⟨some 16, .pick (t 10) (t 15) (.const (.bool false)), none, false⟩, ⟨some 17, .mv (t 16), none, false⟩, ⟨some 18, .fldA 2 (t 2), some (17, true), false⟩, ⟨some 19, .ld false 1 (t 18), some (17, true), false⟩, ⟨some 20, .fldA 2 (t 3), some (17, true), false⟩, ⟨some 21, .ld false 1 (t 20), some (17, true), false⟩, ⟨some 22, .call 35 [(t 19), (t 21)], some (17, true), false⟩, ⟨some 23, .pick (t 17) (t 22) (.const (.bool false)), none, false⟩, ⟨some 24, .mv (t 23), none, false⟩, ⟨some 25, .fldA 3 (t 2), some (24, true), false⟩, ⟨some 26, .ld false 1 (t 25), some (24, true), false⟩, ⟨some 27, .fldA 3 (t 3), some (24, true), false⟩, ⟨some 28, .ld false 1 (t 27), some (24, true), false⟩, ⟨some 29, .bin .eql (t 26) (t 28), some (24, true), false⟩, ⟨some 30, .pick (t 24) (t 29) (.const (.bool false)), none, false⟩, ⟨some 31, .mv (t 30), none, false⟩, ⟨some 32, .fldA 4 (t 2), some (31, true), false⟩, ⟨some 33, .ld false 1 (t 32), some (31, true), false⟩, ⟨some 34, .fldA 4 (t 3), some (31, true), false⟩, ⟨some 35, .ld false 1 (t 34), some (31, true), false⟩, ⟨some 36, .bin .eql (t 33) (t 35), some (31, true), false⟩, ⟨some 37, .pick (t 31) (t 36) (.const (.bool false)), none, false⟩, ⟨some 38, .mv (t 37), none, false⟩, ⟨some 39, .fldA 5 (t 2), some (38, true), false⟩, ⟨some 40, .ld false 1 (t 39), some (38, true), false⟩, ⟨some 41, .fldA 5 (t 3), some (38, true), false⟩, ⟨some 42, .ld false 1 (t 41), some (38, true), false⟩, ⟨some 43, .bin .eql (t 40) (t 42), some (38, true), false⟩, ⟨some 44, .pick (t 38) (t 43) (.const (.bool false)), none, false⟩, ⟨some 45, .mv (t 44), none, false⟩, ⟨some 46, .fldA 6 (t 2), some (45, true), false⟩, ⟨some 47, .ld false 1 (t 46), some (45, true), false⟩, ⟨some 48, .fldA 6 (t 3), some (45, true), false⟩, ⟨some 49, .ld false 1 (t 48), some (45, true), false⟩, ⟨some 50, .bin .eql (t 47) (t 49), some (45, true), false⟩, ⟨some 51, .pick (t 45) (t 50) (.const (.bool false)), none, false⟩, ⟨some 52, .mv (t 51), none, false⟩, ⟨some 53, .fldA 7 (t 2), some (52, true), false⟩, ⟨some 54, .ld false 1 (t 53), some (52, true), false⟩, ⟨some 55, .fldA 7 (t 3), some (52, true), false⟩, ⟨some 56, .ld false 1 (t 55), some (52, true), false⟩, ⟨some 57, .bin .eql (t 54) (t 56), some (52, true), false⟩, ⟨some 58, .pick (t 52) (t 57) (.const (.bool false)), none, false⟩, ⟨some 59, .mv (t 58), none, false⟩, ⟨some 60, .fldA 8 (t 2), some (59, true), false⟩, ⟨some 61, .ld false 1 (t 60), some (59, true), false⟩, ⟨some 62, .fldA 8 (t 3), some (59, true), false⟩, ⟨some 63, .ld false 1 (t 62), some (59, true), false⟩, ⟨some 64, .beq false (t 61) (t 63), some (59, true), false⟩, ⟨some 65, .pick (t 59) (t 64) (.const (.bool false)), none, false⟩, ⟨some 66, .mv (t 65), none, false⟩, ⟨some 67, .fldA 9 (t 2), some (66, true), false⟩, ⟨some 68, .ld false 1 (t 67), some (66, true), false⟩, ⟨some 69, .fldA 9 (t 3), some (66, true), false⟩, ⟨some 70, .ld false 1 (t 69), some (66, true), false⟩, ⟨some 71, .bin .eql (t 68) (t 70), some (66, true), false⟩, ⟨some 72, .pick (t 66) (t 71) (.const (.bool false)), none, false⟩, ⟨some 4, .mv (t 72), none, false⟩])
    .ret))
theorem comp17 : Tryd.f17.body.bind (comp Tryd.prog Tryd.f17.ntmps) = some pc17 := by kernel_rfl
theorem in17 {a0 a1 : Value} {H : Heap} {k : Value → Heap → Prop} (h : H.Wf → pexec Tryd.prog pc17 ⟨Rt Tryd.prog Tryd.f17 H k, noEx⟩ (Rt Tryd.prog Tryd.f17 H k) (upd (upd U 0 a0) 1 a1) H) : CallQ Tryd.prog 17 [a0, a1] H k := call_in Tryd.func17 comp17 (by kernel_rfl) (by kernel_rfl) (env2 a0 a1) h
theorem ret35 (H0 H : Heap) (k : Value → Heap → Prop) (A : Env) : Rt Tryd.prog Tryd.f35 H0 k A H = Ret H0 k (A 4) H := rt_1 (by kernel_rfl) (by kernel_rfl)
/-- linotype/linotypekit.SameInts -/
noncomputable def pc35 : PC :=
  (.seq
   (.ops [⟨some 4, .mv (.const (.bool false)), none, false⟩])
   (.seq
    (.seq
     (.ops [⟨some 6, .mv (t 0), none, false⟩, ⟨some 7, .lenS (t 6), none, false⟩, ⟨some 8, .mv (t 1), none, false⟩, ⟨some 9, .lenS (t 8), none, false⟩, ⟨some 10, .bin .neq (t 7) (t 9), none, false⟩])
     (.cond (t 10)
      (.seq
       (.ops [⟨some 4, .mv (.const (.bool false)), none, false⟩])
       .ret)
      .skip))
    (.seq
     (.seq
      (.ops [⟨some 5, .mv (.const (.int .i64 0)), none, false⟩])
      (.block 0
       (.loop
        (.seq
         (.seq
          (.ops [⟨some 11, .mv (t 5), none, false⟩, ⟨some 12, .mv (t 0), none, false⟩, ⟨some 13, .lenS (t 12), none, false⟩, ⟨some 14, .bin .lss (t 11) (t 13), none, false⟩])
          (.cond (t 14)
           .skip
           (.exit 0)))
         (.seq
          (.block 1
           (.seq
            (.ops [⟨some 17, .mv (t 0), none, false⟩, ⟨some 18, .mv (t 5), none, false⟩, ⟨some 19, .idxS 1 (t 17) (t 18), none, false⟩, ⟨some 20, .ld false 1 (t 19), none, false⟩, ⟨some 21, .mv (t 1), none, false⟩, ⟨some 22, .mv (t 5), none, false⟩, ⟨some 23, .idxS 1 (t 21) (t 22), none, false⟩, ⟨some 24, .ld false 1 (t 23), none, false⟩, ⟨some 25, .bin .neq (t 20) (t 24), none, false⟩])
            (.cond (t 25)
             (.seq
              (.ops [⟨some 4, .mv (.const (.bool false)), none, false⟩])
              .ret)
             .skip)))
          (.ops [⟨some 15, .mv (t 5), none, false⟩, ⟨some 16, .bin .add (t 15) (.const (.int .i64 1)), none, false⟩, ⟨some 5, .mv (t 16), none, false⟩]))))))
     (.seq
      (.ops [⟨some 4, .mv (.const (.bool true)), none, false⟩])
      .ret))))
theorem comp35 : Tryd.f35.body.bind (comp Tryd.prog Tryd.f35.ntmps) = some pc35 := by kernel_rfl
theorem in35 {a0 a1 : Value} {H : Heap} {k : Value → Heap → Prop} (h : H.Wf → pexec Tryd.prog pc35 ⟨Rt Tryd.prog Tryd.f35 H k, noEx⟩ (Rt Tryd.prog Tryd.f35 H k) (upd (upd U 0 a0) 1 a1) H) : CallQ Tryd.prog 35 [a0, a1] H k := call_in Tryd.func35 comp35 (by kernel_rfl) (by kernel_rfl) (env2 a0 a1) h
end Go.Proofs.YtfdeejmibgpbhaaDoor.bits
