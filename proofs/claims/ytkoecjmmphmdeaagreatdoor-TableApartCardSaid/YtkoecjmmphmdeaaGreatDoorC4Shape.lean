/- The code of the functions that are reached, resolved. -/
import Derived.Test.YtkoecjmmphmdeaaGreatDoorProg
import Derived.KernelRfl
import Derived.Test.YtkoecjmmphmdeaaGreatDoorC0Code
set_option linter.unusedVariables false
set_option maxRecDepth 100000
namespace Go.Proofs.YtkoecjmmphmdeaaGreatDoor.code
open Go.Ab
noncomputable abbrev F_shape_Check : Func := Tryz.f20
theorem ret_shape_Check (H0 H : Heap) (k : Value → Heap → Prop) (A : Env) : Rt prog Tryz.f20 H0 k A H = Ret H0 k (A 2) H := rt_1 (by kernel_rfl) (by kernel_rfl)
noncomputable def pc_shape_Check_1 : PC :=
  (.seq
   (.block 2
    (.seq
     (.ops [⟨some 64, .idxS 1 (t 60) (t 62), none, false⟩, ⟨some 65, .ld false 1 (t 64), none, false⟩, ⟨some 4, .mv (t 65), none, false⟩])
     (.seq
      (.ops [⟨some 66, .mv (t 4), none, false⟩, ⟨some 67, .not (t 66), none, false⟩])
      (.cond (t 67)
       (.seq
        (.ops [⟨some 2, .mv (.const (.int .i64 2)), none, false⟩])
        .ret)
       .skip))))
   (.ops [⟨some 68, .bin .add (t 62) (.const (.int .i64 1)), none, false⟩, ⟨some 62, .mv (t 68), none, false⟩]))
noncomputable def pc_shape_Check_2 : PC :=
  (.seq
   (.ops [⟨some 63, .bin .lss (t 62) (t 61), none, false⟩])
   (.seq
    (.cond (t 63)
     .skip
     (.exit 1))
    pc_shape_Check_1))
noncomputable def pc_shape_Check_3 : PC :=
  (.seq
   (.seq
    (.ops [⟨some 59, .ld true 10 (t 1), none, false⟩, ⟨some 60, .call f_shape_rules [(t 59)], none, false⟩, ⟨some 61, .lenS (t 60), none, false⟩, ⟨some 62, .mv (.const (.int .i64 0)), none, false⟩])
    (.block 1
     (.loop
      pc_shape_Check_2)))
   (.seq
    (.ops [⟨some 2, .mv (.const (.int .i64 0)), none, false⟩])
    .ret))
noncomputable def pc_shape_Check_4 : PC :=
  (.seq
   (.ops [⟨some 41, .fldA 5 (t 1), none, false⟩, ⟨some 42, .ld false 1 (t 41), none, false⟩, ⟨some 43, .bin .lss (t 42) (.const (.int .i64 0)), none, false⟩, ⟨some 44, .mv (t 43), none, false⟩, ⟨some 45, .fldA 5 (t 1), some (44, false), false⟩, ⟨some 46, .ld false 1 (t 45), some (44, false), false⟩, ⟨some 47, .bin .gtr (t 46) (.const (.int .i64 255)), some (44, false), false⟩, ⟨some 48, .pick (t 44) (.const (.bool true)) (t 47), none, false⟩, ⟨some 49, .mv (t 48), none, false⟩, ⟨some 50, .fldA 6 (t 1), some (49, false), false⟩, ⟨some 51, .ld false 1 (t 50), some (49, false), false⟩, ⟨some 52, .bin .lss (t 51) (.const (.int .i64 (-1))), some (49, false), false⟩, ⟨some 53, .pick (t 49) (.const (.bool true)) (t 52), none, false⟩, ⟨some 54, .mv (t 53), none, false⟩, ⟨some 55, .fldA 6 (t 1), some (54, false), false⟩, ⟨some 56, .ld false 1 (t 55), some (54, false), false⟩, ⟨some 57, .bin .gtr (t 56) (.const (.int .i64 7)), some (54, false), false⟩, ⟨some 58, .pick (t 54) (.const (.bool true)) (t 57), none, false⟩, ⟨some 40, .mv (t 58), none, false⟩])
   (.cond (t 40)
    (.seq
     (.ops [⟨some 2, .mv (.const (.int .i64 5)), none, false⟩])
     .ret)
    .skip))
noncomputable def pc_shape_Check_5 : PC :=
  (.seq
   (.ops [⟨some 22, .fldA 3 (t 1), none, false⟩, ⟨some 23, .ld false 1 (t 22), none, false⟩, ⟨some 24, .bin .lss (t 23) (.const (.int .i64 0)), none, false⟩, ⟨some 25, .mv (t 24), none, false⟩, ⟨some 26, .fldA 3 (t 1), some (25, false), false⟩, ⟨some 27, .ld false 1 (t 26), some (25, false), false⟩, ⟨some 28, .bin .gtr (t 27) (.const (.int .i64 5)), some (25, false), false⟩, ⟨some 29, .pick (t 25) (.const (.bool true)) (t 28), none, false⟩, ⟨some 30, .mv (t 29), none, false⟩, ⟨some 31, .fldA 4 (t 1), some (30, false), false⟩, ⟨some 32, .ld false 1 (t 31), some (30, false), false⟩, ⟨some 33, .bin .lss (t 32) (.const (.int .i64 0)), some (30, false), false⟩, ⟨some 34, .pick (t 30) (.const (.bool true)) (t 33), none, false⟩, ⟨some 35, .mv (t 34), none, false⟩, ⟨some 36, .fldA 4 (t 1), some (35, false), false⟩, ⟨some 37, .ld false 1 (t 36), some (35, false), false⟩, ⟨some 38, .bin .gtr (t 37) (.const (.int .i64 3)), some (35, false), false⟩, ⟨some 39, .pick (t 35) (.const (.bool true)) (t 38), none, false⟩, ⟨some 21, .mv (t 39), none, false⟩])
   (.cond (t 21)
    (.seq
     (.ops [⟨some 2, .mv (.const (.int .i64 5)), none, false⟩])
     .ret)
    pc_shape_Check_4))
noncomputable def pc_shape_Check_6 : PC :=
  (.seq
   (.ops [⟨some 11, .fldA 1 (t 1), none, false⟩, ⟨some 12, .ld false 1 (t 11), none, false⟩, ⟨some 13, .lenS (t 12), none, false⟩, ⟨some 14, .bin .gtr (t 13) (.const (.int .i64 4)), none, false⟩, ⟨some 15, .mv (t 14), none, false⟩, ⟨some 16, .fldA 2 (t 1), some (15, false), false⟩, ⟨some 17, .ld false 1 (t 16), some (15, false), false⟩, ⟨some 18, .lenS (t 17), some (15, false), false⟩, ⟨some 19, .bin .gtr (t 18) (.const (.int .i64 4)), some (15, false), false⟩, ⟨some 20, .pick (t 15) (.const (.bool true)) (t 19), none, false⟩, ⟨some 10, .mv (t 20), none, false⟩])
   (.cond (t 10)
    (.seq
     (.ops [⟨some 2, .mv (.const (.int .i64 3)), none, false⟩])
     .ret)
    pc_shape_Check_5))
noncomputable def pc_shape_Check : PC :=
  (.seq
   (.ops [⟨some 1, .box T_api_Form (t 0), none, false⟩, ⟨some 2, .mv (.const (.int .i64 0)), none, false⟩])
   (.seq
    (.block 0
     (.seq
      (.ops [⟨some 6, .fldA 0 (t 1), none, false⟩, ⟨some 7, .ld false 1 (t 6), none, false⟩, ⟨some 8, .call f_name_Valid [(t 7)], none, false⟩, ⟨some 9, .not (t 8), none, false⟩, ⟨some 5, .mv (t 9), none, false⟩])
      (.cond (t 5)
       (.seq
        (.ops [⟨some 2, .mv (.const (.int .i64 6)), none, false⟩])
        .ret)
       pc_shape_Check_6)))
    pc_shape_Check_3))
theorem comp_shape_Check : Tryz.f20.body.bind (comp prog Tryz.f20.ntmps) = some pc_shape_Check := by kernel_rfl
theorem in_shape_Check {a0 : Value} {H : Heap} {k : Value → Heap → Prop} (h : H.Wf → pexec prog pc_shape_Check ⟨Rt prog Tryz.f20 H k, noEx⟩ (Rt prog Tryz.f20 H k) (upd U 0 a0) H) : CallQ prog f_shape_Check [a0] H k := call_in Tryz.func20 comp_shape_Check (by kernel_rfl) (by kernel_rfl) (env1 a0) h
noncomputable abbrev F_name_Valid : Func := Tryz.f32
theorem ret_name_Valid (H0 H : Heap) (k : Value → Heap → Prop) (A : Env) : Rt prog Tryz.f32 H0 k A H = Ret H0 k (A 2) H := rt_1 (by kernel_rfl) (by kernel_rfl)
noncomputable def pc_name_Valid : PC :=
  (.seq
   (.ops [⟨some 2, .mv (.const (.bool false)), none, false⟩])
   (.seq
    (.ops [⟨some 3, .mv (t 0), none, false⟩, ⟨some 4, .bin .geq (t 3) (.const (.int .i64 1)), none, false⟩, ⟨some 5, .mv (t 4), none, false⟩, ⟨some 6, .mv (t 0), some (5, true), false⟩, ⟨some 7, .bin .leq (t 6) (.const (.int .i64 322)), some (5, true), false⟩, ⟨some 8, .pick (t 5) (t 7) (.const (.bool false)), none, false⟩, ⟨some 2, .mv (t 8), none, false⟩])
    .ret))
theorem comp_name_Valid : Tryz.f32.body.bind (comp prog Tryz.f32.ntmps) = some pc_name_Valid := by kernel_rfl
theorem in_name_Valid {a0 : Value} {H : Heap} {k : Value → Heap → Prop} (h : H.Wf → pexec prog pc_name_Valid ⟨Rt prog Tryz.f32 H k, noEx⟩ (Rt prog Tryz.f32 H k) (upd U 0 a0) H) : CallQ prog f_name_Valid [a0] H k := call_in Tryz.func32 comp_name_Valid (by kernel_rfl) (by kernel_rfl) (env1 a0) h
noncomputable abbrev F_shape_rules : Func := Tryz.f33
theorem ret_shape_rules (H0 H : Heap) (k : Value → Heap → Prop) (A : Env) : Rt prog Tryz.f33 H0 k A H = Ret H0 k (A 2) H := rt_1 (by kernel_rfl) (by kernel_rfl)
noncomputable def pc_shape_rules : PC :=
  (.seq
   (.ops [⟨some 1, .box T_api_Form (t 0), none, false⟩, ⟨some 2, .mv (.const (.slice none 0 0)), none, false⟩])
   (.seq
    (.ops [⟨some 7, .ld true 10 (t 1), none, false⟩, ⟨some 8, .callF f_shape_Slot [(t 7), (.const (.int .i64 1))] [(t 1), (t 1)], none, true⟩, ⟨some 9, .bin .geq (t 8) (.const (.int .i64 0)), none, false⟩, ⟨some 10, .ld true 10 (t 1), none, true⟩, ⟨some 11, .callF f_shape_Modrm [(t 10)] [(t 1)], none, true⟩, ⟨some 12, .ld true 10 (t 1), none, true⟩, ⟨some 13, .call f_shape_Slot [(t 12), (.const (.int .i64 4))], none, false⟩, ⟨some 14, .bin .geq (t 13) (.const (.int .i64 0)), none, false⟩, ⟨some 3, .mv (t 9), none, false⟩, ⟨some 4, .mv (t 11), none, false⟩, ⟨some 5, .mv (t 14), none, false⟩])
    (.seq
     (.ops [⟨some 15, .fldA 6 (t 1), none, false⟩, ⟨some 16, .ld false 1 (t 15), none, false⟩, ⟨some 17, .bin .geq (t 16) (.const (.int .i64 0)), none, false⟩, ⟨some 6, .mv (t 17), none, false⟩])
     (.seq
      (.ops [⟨some 18, .fldA 1 (t 1), none, false⟩, ⟨some 19, .ld false 1 (t 18), none, true⟩, ⟨some 20, .lenS (t 19), none, false⟩, ⟨some 21, .fldA 2 (t 1), none, false⟩, ⟨some 22, .ld false 1 (t 21), none, true⟩, ⟨some 23, .lenS (t 22), none, false⟩, ⟨some 24, .bin .eql (t 20) (t 23), none, false⟩, ⟨some 25, .ld true 10 (t 1), none, false⟩, ⟨some 26, .callF f_shape_prefixed [(t 25)] [(t 1), (t 1), (t 1)], none, true⟩, ⟨some 27, .fldA 2 (t 1), none, false⟩, ⟨some 28, .ld false 1 (t 27), none, true⟩, ⟨some 29, .callF f_shape_once [(t 28)] [(t 1), (t 1)], none, true⟩, ⟨some 30, .ld true 10 (t 1), none, true⟩, ⟨some 31, .callF f_shape_matched [(t 30)] [(t 1)], none, true⟩, ⟨some 32, .mv (t 5), none, false⟩, ⟨some 33, .not (t 32), none, false⟩, ⟨some 34, .mv (t 33), none, false⟩, ⟨some 35, .fldA 5 (t 1), some (34, false), false⟩, ⟨some 36, .ld false 1 (t 35), some (34, false), false⟩, ⟨some 37, .bin .and (t 36) (.const (.int .i64 7)), some (34, false), false⟩, ⟨some 38, .bin .eql (t 37) (.const (.int .i64 0)), some (34, false), false⟩, ⟨some 39, .mv (t 38), some (34, false), false⟩, ⟨some 40, .mv (t 3), some (39, true), false⟩, ⟨some 41, .not (t 40), some (39, true), false⟩, ⟨some 42, .pick (t 39) (t 41) (.const (.bool false)), some (34, false), false⟩, ⟨some 43, .mv (t 42), some (34, false), false⟩, ⟨some 44, .mv (t 4), some (43, true), false⟩, ⟨some 45, .not (t 44), some (43, true), false⟩, ⟨some 46, .pick (t 43) (t 45) (.const (.bool false)), some (34, false), false⟩, ⟨some 47, .mv (t 46), some (34, false), false⟩, ⟨some 48, .mv (t 6), some (47, true), false⟩, ⟨some 49, .not (t 48), some (47, true), false⟩, ⟨some 50, .pick (t 47) (t 49) (.const (.bool false)), some (34, false), false⟩, ⟨some 51, .pick (t 34) (.const (.bool true)) (t 50), none, false⟩, ⟨some 52, .mv (t 3), none, false⟩, ⟨some 53, .not (t 52), none, false⟩, ⟨some 54, .mv (t 53), none, false⟩, ⟨some 55, .mv (t 6), some (54, false), false⟩, ⟨some 56, .not (t 55), some (54, false), false⟩, ⟨some 57, .pick (t 54) (.const (.bool true)) (t 56), none, false⟩, ⟨some 58, .mv (t 4), none, false⟩, ⟨some 59, .not (t 58), none, false⟩, ⟨some 60, .mv (t 59), none, false⟩, ⟨some 61, .mv (t 3), some (60, false), false⟩, ⟨some 62, .pick (t 60) (.const (.bool true)) (t 61), none, false⟩, ⟨some 63, .mv (t 62), none, false⟩, ⟨some 64, .mv (t 6), some (63, false), false⟩, ⟨some 65, .pick (t 63) (.const (.bool true)) (t 64), none, false⟩, ⟨some 66, .mv (t 4), none, false⟩, ⟨some 67, .mv (t 66), none, false⟩, ⟨some 68, .mv (t 3), some (67, false), false⟩, ⟨some 69, .not (t 68), some (67, false), false⟩, ⟨some 70, .mv (t 69), some (67, false), false⟩, ⟨some 71, .mv (t 6), some (70, true), false⟩, ⟨some 72, .not (t 71), some (70, true), false⟩, ⟨some 73, .pick (t 70) (t 72) (.const (.bool false)), some (67, false), false⟩, ⟨some 74, .pick (t 67) (.const (.bool true)) (t 73), none, false⟩, ⟨some 75, .fldA 4 (t 1), none, false⟩, ⟨some 76, .ld false 1 (t 75), none, true⟩, ⟨some 77, .bin .neq (t 76) (.const (.int .i64 0)), none, false⟩, ⟨some 78, .mv (t 77), none, false⟩, ⟨some 79, .fldA 5 (t 1), some (78, false), false⟩, ⟨some 80, .ld false 1 (t 79), some (78, false), false⟩, ⟨some 81, .callF f_shape_taken [(t 80)] [], some (78, false), true⟩, ⟨some 82, .not (t 81), some (78, false), false⟩, ⟨some 83, .pick (t 78) (.const (.bool true)) (t 82), none, false⟩, ⟨some 84, .bslice 4 1 9 [.bool false, .bool false, .bool false, .bool false, .bool false, .bool false, .bool false, .bool false, .bool false] [(0, (t 24)), (1, (t 26)), (2, (t 29)), (3, (t 31)), (4, (t 51)), (5, (t 57)), (6, (t 65)), (7, (t 74)), (8, (t 83))], none, false⟩, ⟨some 2, .mv (t 84), none, false⟩])
      .ret))))
theorem comp_shape_rules : Tryz.f33.body.bind (comp prog Tryz.f33.ntmps) = some pc_shape_rules := by kernel_rfl
theorem in_shape_rules {a0 : Value} {H : Heap} {k : Value → Heap → Prop} (h : H.Wf → pexec prog pc_shape_rules ⟨Rt prog Tryz.f33 H k, noEx⟩ (Rt prog Tryz.f33 H k) (upd U 0 a0) H) : CallQ prog f_shape_rules [a0] H k := call_in Tryz.func33 comp_shape_rules (by kernel_rfl) (by kernel_rfl) (env1 a0) h
noncomputable abbrev F_shape_prefixed : Func := Tryz.f45
theorem ret_shape_prefixed (H0 H : Heap) (k : Value → Heap → Prop) (A : Env) : Rt prog Tryz.f45 H0 k A H = Ret H0 k (A 2) H := rt_1 (by kernel_rfl) (by kernel_rfl)
noncomputable def pc_shape_prefixed_1 : PC :=
  (.seq
   (.ops [⟨some 36, .fldA 4 (t 1), none, false⟩, ⟨some 37, .ld false 1 (t 36), none, false⟩, ⟨some 38, .bin .neq (t 37) (.const (.int .i64 0)), none, false⟩, ⟨some 39, .mv (t 38), none, false⟩, ⟨some 40, .fldA 7 (t 1), some (39, true), false⟩, ⟨some 41, .ld false 1 (t 40), some (39, true), false⟩, ⟨some 42, .bin .geq (t 41) (.const (.int .i64 (-1))), some (39, true), false⟩, ⟨some 43, .pick (t 39) (t 42) (.const (.bool false)), none, false⟩, ⟨some 44, .mv (t 43), none, false⟩, ⟨some 45, .fldA 7 (t 1), some (44, true), false⟩, ⟨some 46, .ld false 1 (t 45), some (44, true), false⟩, ⟨some 47, .bin .leq (t 46) (.const (.int .i64 1)), some (44, true), false⟩, ⟨some 48, .pick (t 44) (t 47) (.const (.bool false)), none, false⟩, ⟨some 49, .mv (t 48), none, false⟩, ⟨some 50, .fldA 9 (t 1), some (49, true), false⟩, ⟨some 51, .ld false 1 (t 50), some (49, true), false⟩, ⟨some 52, .bin .eql (t 51) (.const (.int .i64 0)), some (49, true), false⟩, ⟨some 53, .mv (t 52), some (49, true), false⟩, ⟨some 54, .fldA 9 (t 1), some (53, false), false⟩, ⟨some 55, .ld false 1 (t 54), some (53, false), false⟩, ⟨some 56, .bin .eql (t 55) (.const (.int .i64 1)), some (53, false), false⟩, ⟨some 57, .pick (t 53) (.const (.bool true)) (t 56), some (49, true), false⟩, ⟨some 58, .pick (t 49) (t 57) (.const (.bool false)), none, false⟩, ⟨some 2, .mv (t 58), none, false⟩])
   .ret)
noncomputable def pc_shape_prefixed_2 : PC :=
  (.seq
   (.ops [⟨some 33, .bin .eql (t 30) (.const (.int .i64 1)), none, false⟩, ⟨some 31, .mv (t 33), none, false⟩])
   (.cond (t 31)
    .skip
    (.seq
     (.ops [⟨some 34, .bin .eql (t 30) (.const (.int .i64 2)), none, false⟩, ⟨some 31, .mv (t 34), none, false⟩])
     (.cond (t 31)
      .skip
      (.ops [⟨some 35, .bin .eql (t 30) (.const (.int .i64 4)), none, false⟩, ⟨some 31, .mv (t 35), none, false⟩])))))
noncomputable def pc_shape_prefixed_3 : PC :=
  (.seq
   (.seq
    (.ops [⟨some 29, .fldA 3 (t 1), none, false⟩, ⟨some 30, .ld false 1 (t 29), none, false⟩])
    (.block 0
     (.seq
      (.seq
       (.ops [⟨some 32, .bin .eql (t 30) (.const (.int .i64 0)), none, false⟩, ⟨some 31, .mv (t 32), none, false⟩])
       (.cond (t 31)
        .skip
        pc_shape_prefixed_2))
      (.cond (t 31)
       .skip
       (.seq
        (.ops [⟨some 2, .mv (.const (.bool false)), none, false⟩])
        .ret)))))
   pc_shape_prefixed_1)
noncomputable def pc_shape_prefixed_4 : PC :=
  (.seq
   (.ops [⟨some 6, .fldA 7 (t 1), none, false⟩, ⟨some 7, .ld false 1 (t 6), none, false⟩, ⟨some 8, .bin .eql (t 7) (.const (.int .i64 0)), none, false⟩, ⟨some 9, .mv (t 8), none, false⟩, ⟨some 10, .fldA 7 (t 1), some (9, false), false⟩, ⟨some 11, .ld false 1 (t 10), some (9, false), false⟩, ⟨some 12, .bin .eql (t 11) (.const (.int .i64 1)), some (9, false), false⟩, ⟨some 13, .pick (t 9) (.const (.bool true)) (t 12), none, false⟩, ⟨some 14, .mv (t 13), none, false⟩, ⟨some 15, .fldA 9 (t 1), some (14, true), false⟩, ⟨some 16, .ld false 1 (t 15), some (14, true), false⟩, ⟨some 17, .bin .eql (t 16) (.const (.int .i64 0)), some (14, true), false⟩, ⟨some 18, .pick (t 14) (t 17) (.const (.bool false)), none, false⟩, ⟨some 19, .mv (t 18), none, false⟩, ⟨some 20, .ld true 10 (t 1), some (19, true), false⟩, ⟨some 21, .call f_shape_Slot [(t 20), (.const (.int .i64 3))], some (19, true), false⟩, ⟨some 22, .bin .lss (t 21) (.const (.int .i64 0)), some (19, true), false⟩, ⟨some 23, .pick (t 19) (t 22) (.const (.bool false)), none, false⟩, ⟨some 24, .mv (t 23), none, false⟩, ⟨some 25, .ld true 10 (t 1), some (24, true), false⟩, ⟨some 26, .call f_shape_Slot [(t 25), (.const (.int .i64 7))], some (24, true), false⟩, ⟨some 27, .bin .lss (t 26) (.const (.int .i64 0)), some (24, true), false⟩, ⟨some 28, .pick (t 24) (t 27) (.const (.bool false)), none, false⟩, ⟨some 2, .mv (t 28), none, false⟩])
   .ret)
noncomputable def pc_shape_prefixed : PC :=
  (.seq
   (.ops [⟨some 1, .box T_api_Form (t 0), none, false⟩, ⟨some 2, .mv (.const (.bool false)), none, false⟩])
   (.seq
    (.seq
     (.ops [⟨some 3, .fldA 8 (t 1), none, false⟩, ⟨some 4, .ld false 1 (t 3), none, false⟩, ⟨some 5, .not (t 4), none, false⟩])
     (.cond (t 5)
      pc_shape_prefixed_4
      .skip))
    pc_shape_prefixed_3))
theorem comp_shape_prefixed : Tryz.f45.body.bind (comp prog Tryz.f45.ntmps) = some pc_shape_prefixed := by kernel_rfl
theorem in_shape_prefixed {a0 : Value} {H : Heap} {k : Value → Heap → Prop} (h : H.Wf → pexec prog pc_shape_prefixed ⟨Rt prog Tryz.f45 H k, noEx⟩ (Rt prog Tryz.f45 H k) (upd U 0 a0) H) : CallQ prog f_shape_prefixed [a0] H k := call_in Tryz.func45 comp_shape_prefixed (by kernel_rfl) (by kernel_rfl) (env1 a0) h
noncomputable abbrev F_shape_once : Func := Tryz.f46
theorem ret_shape_once (H0 H : Heap) (k : Value → Heap → Prop) (A : Env) : Rt prog Tryz.f46 H0 k A H = Ret H0 k (A 2) H := rt_1 (by kernel_rfl) (by kernel_rfl)
noncomputable def pc_shape_once : PC :=
  (.seq
   (.ops [⟨some 2, .mv (.const (.bool false)), none, false⟩])
   (.seq
    (.seq
     (.ops [⟨some 5, .mv (t 0), none, false⟩, ⟨some 6, .lenS (t 5), none, false⟩, ⟨some 7, .mv (.const (.int .i64 0)), none, false⟩])
     (.block 0
      (.loop
       (.seq
        (.ops [⟨some 8, .bin .lss (t 7) (t 6), none, false⟩])
        (.seq
         (.cond (t 8)
          .skip
          (.exit 0))
         (.seq
          (.block 1
           (.seq
            (.ops [⟨some 9, .mv (t 7), none, false⟩, ⟨some 10, .idxS 1 (t 5) (t 7), none, false⟩, ⟨some 11, .ld false 1 (t 10), none, false⟩, ⟨some 3, .mv (t 9), none, false⟩, ⟨some 4, .mv (t 11), none, false⟩])
            (.seq
             (.ops [⟨some 12, .mv (t 4), none, false⟩, ⟨some 13, .bin .neq (t 12) (.const (.int .i64 6)), none, false⟩, ⟨some 14, .mv (t 13), none, false⟩, ⟨some 15, .mv (t 0), some (14, true), false⟩, ⟨some 16, .mv (t 3), some (14, true), false⟩, ⟨some 17, .slS 1 (t 15) none (some (t 16)), some (14, true), false⟩, ⟨some 18, .mv (t 4), some (14, true), false⟩, ⟨some 19, .call f_slices_Contains_int_int [(t 17), (t 18)], some (14, true), false⟩, ⟨some 20, .pick (t 14) (t 19) (.const (.bool false)), none, false⟩])
             (.cond (t 20)
              (.seq
               (.ops [⟨some 2, .mv (.const (.bool false)), none, false⟩])
               .ret)
              .skip))))
          (.ops [⟨some 21, .bin .add (t 7) (.const (.int .i64 1)), none, false⟩, ⟨some 7, .mv (t 21), none, false⟩])))))))
    (.seq
     (.ops [⟨some 2, .mv (.const (.bool true)), none, false⟩])
     .ret)))
theorem comp_shape_once : Tryz.f46.body.bind (comp prog Tryz.f46.ntmps) = some pc_shape_once := by kernel_rfl
theorem in_shape_once {a0 : Value} {H : Heap} {k : Value → Heap → Prop} (h : H.Wf → pexec prog pc_shape_once ⟨Rt prog Tryz.f46 H k, noEx⟩ (Rt prog Tryz.f46 H k) (upd U 0 a0) H) : CallQ prog f_shape_once [a0] H k := call_in Tryz.func46 comp_shape_once (by kernel_rfl) (by kernel_rfl) (env1 a0) h
noncomputable abbrev F_shape_matched : Func := Tryz.f47
theorem ret_shape_matched (H0 H : Heap) (k : Value → Heap → Prop) (A : Env) : Rt prog Tryz.f47 H0 k A H = Ret H0 k (A 2) H := rt_1 (by kernel_rfl) (by kernel_rfl)
noncomputable def pc_shape_matched : PC :=
  (.seq
   (.ops [⟨some 1, .box T_api_Form (t 0), none, false⟩, ⟨some 2, .mv (.const (.bool false)), none, false⟩])
   (.seq
    (.seq
     (.ops [⟨some 5, .fldA 1 (t 1), none, false⟩, ⟨some 6, .ld false 1 (t 5), none, false⟩, ⟨some 7, .lenS (t 6), none, false⟩, ⟨some 8, .fldA 2 (t 1), none, false⟩, ⟨some 9, .ld false 1 (t 8), none, false⟩, ⟨some 10, .lenS (t 9), none, false⟩, ⟨some 11, .bin .neq (t 7) (t 10), none, false⟩])
     (.cond (t 11)
      (.seq
       (.ops [⟨some 2, .mv (.const (.bool false)), none, false⟩])
       .ret)
      .skip))
    (.seq
     (.seq
      (.ops [⟨some 12, .fldA 2 (t 1), none, false⟩, ⟨some 13, .ld false 1 (t 12), none, false⟩, ⟨some 14, .lenS (t 13), none, false⟩, ⟨some 15, .mv (.const (.int .i64 0)), none, false⟩])
      (.block 0
       (.loop
        (.seq
         (.ops [⟨some 16, .bin .lss (t 15) (t 14), none, false⟩])
         (.seq
          (.cond (t 16)
           .skip
           (.exit 0))
          (.seq
           (.block 1
            (.seq
             (.ops [⟨some 17, .mv (t 15), none, false⟩, ⟨some 18, .idxS 1 (t 13) (t 15), none, false⟩, ⟨some 19, .ld false 1 (t 18), none, false⟩, ⟨some 3, .mv (t 17), none, false⟩, ⟨some 4, .mv (t 19), none, false⟩])
             (.seq
              (.ops [⟨some 20, .fldA 1 (t 1), none, false⟩, ⟨some 21, .ld false 1 (t 20), none, false⟩, ⟨some 22, .mv (t 3), none, false⟩, ⟨some 23, .idxS 1 (t 21) (t 22), none, false⟩, ⟨some 24, .ld false 1 (t 23), none, false⟩, ⟨some 25, .mv (t 4), none, false⟩, ⟨some 26, .call f_shape_goes [(t 24), (t 25)], none, false⟩, ⟨some 27, .not (t 26), none, false⟩])
              (.cond (t 27)
               (.seq
                (.ops [⟨some 2, .mv (.const (.bool false)), none, false⟩])
                .ret)
               .skip))))
           (.ops [⟨some 28, .bin .add (t 15) (.const (.int .i64 1)), none, false⟩, ⟨some 15, .mv (t 28), none, false⟩])))))))
     (.seq
      (.ops [⟨some 2, .mv (.const (.bool true)), none, false⟩])
      .ret))))
theorem comp_shape_matched : Tryz.f47.body.bind (comp prog Tryz.f47.ntmps) = some pc_shape_matched := by kernel_rfl
theorem in_shape_matched {a0 : Value} {H : Heap} {k : Value → Heap → Prop} (h : H.Wf → pexec prog pc_shape_matched ⟨Rt prog Tryz.f47 H k, noEx⟩ (Rt prog Tryz.f47 H k) (upd U 0 a0) H) : CallQ prog f_shape_matched [a0] H k := call_in Tryz.func47 comp_shape_matched (by kernel_rfl) (by kernel_rfl) (env1 a0) h
noncomputable abbrev F_shape_taken : Func := Tryz.f48
theorem ret_shape_taken (H0 H : Heap) (k : Value → Heap → Prop) (A : Env) : Rt prog Tryz.f48 H0 k A H = Ret H0 k (A 2) H := rt_1 (by kernel_rfl) (by kernel_rfl)
noncomputable def pc_shape_taken : PC :=
  (.seq
   (.ops [⟨some 2, .mv (.const (.bool false)), none, false⟩])
   (.seq
    (.block 0
     (.seq
      (.ops [⟨some 4, .mv (t 0), none, false⟩, ⟨some 5, .bin .geq (t 4) (.const (.int .i64 64)), none, false⟩, ⟨some 6, .mv (t 5), none, false⟩, ⟨some 7, .mv (t 0), some (6, true), false⟩, ⟨some 8, .bin .leq (t 7) (.const (.int .i64 79)), some (6, true), false⟩, ⟨some 9, .pick (t 6) (t 8) (.const (.bool false)), none, false⟩, ⟨some 3, .mv (t 9), none, false⟩])
      (.cond (t 3)
       (.seq
        (.ops [⟨some 2, .mv (.const (.bool true)), none, false⟩])
        .ret)
       (.seq
        (.ops [⟨some 11, .mv (t 0), none, false⟩, ⟨some 12, .bin .eql (t 11) (.const (.int .i64 15)), none, false⟩, ⟨some 13, .mv (t 12), none, false⟩, ⟨some 14, .mv (t 0), some (13, false), false⟩, ⟨some 15, .bin .eql (t 14) (.const (.int .i64 102)), some (13, false), false⟩, ⟨some 16, .pick (t 13) (.const (.bool true)) (t 15), none, false⟩, ⟨some 17, .mv (t 16), none, false⟩, ⟨some 18, .mv (t 0), some (17, false), false⟩, ⟨some 19, .bin .eql (t 18) (.const (.int .i64 196)), some (17, false), false⟩, ⟨some 20, .pick (t 17) (.const (.bool true)) (t 19), none, false⟩, ⟨some 21, .mv (t 20), none, false⟩, ⟨some 22, .mv (t 0), some (21, false), false⟩, ⟨some 23, .bin .eql (t 22) (.const (.int .i64 197)), some (21, false), false⟩, ⟨some 24, .pick (t 21) (.const (.bool true)) (t 23), none, false⟩, ⟨some 25, .mv (t 24), none, false⟩, ⟨some 26, .mv (t 0), some (25, false), false⟩, ⟨some 27, .bin .eql (t 26) (.const (.int .i64 242)), some (25, false), false⟩, ⟨some 28, .pick (t 25) (.const (.bool true)) (t 27), none, false⟩, ⟨some 29, .mv (t 28), none, false⟩, ⟨some 30, .mv (t 0), some (29, false), false⟩, ⟨some 31, .bin .eql (t 30) (.const (.int .i64 243)), some (29, false), false⟩, ⟨some 32, .pick (t 29) (.const (.bool true)) (t 31), none, false⟩, ⟨some 10, .mv (t 32), none, false⟩])
        (.cond (t 10)
         (.seq
          (.ops [⟨some 2, .mv (.const (.bool true)), none, false⟩])
          .ret)
         .skip)))))
    (.seq
     (.ops [⟨some 2, .mv (.const (.bool false)), none, false⟩])
     .ret)))
theorem comp_shape_taken : Tryz.f48.body.bind (comp prog Tryz.f48.ntmps) = some pc_shape_taken := by kernel_rfl
theorem in_shape_taken {a0 : Value} {H : Heap} {k : Value → Heap → Prop} (h : H.Wf → pexec prog pc_shape_taken ⟨Rt prog Tryz.f48 H k, noEx⟩ (Rt prog Tryz.f48 H k) (upd U 0 a0) H) : CallQ prog f_shape_taken [a0] H k := call_in Tryz.func48 comp_shape_taken (by kernel_rfl) (by kernel_rfl) (env1 a0) h
noncomputable abbrev F_slices_Contains_int_int : Func := Tryz.f95
theorem ret_slices_Contains_int_int (H0 H : Heap) (k : Value → Heap → Prop) (A : Env) : Rt prog Tryz.f95 H0 k A H = Ret H0 k (A 4) H := rt_1 (by kernel_rfl) (by kernel_rfl)
noncomputable def pc_slices_Contains_int_int : PC :=
  (.seq
   (.ops [⟨some 4, .mv (.const (.bool false)), none, false⟩])
   (.seq
    (.ops [⟨some 5, .mv (t 0), none, false⟩, ⟨some 6, .mv (t 1), none, false⟩, ⟨some 7, .call f_slices_Index_int_int [(t 5), (t 6)], none, false⟩, ⟨some 8, .bin .geq (t 7) (.const (.int .i64 0)), none, false⟩, ⟨some 4, .mv (t 8), none, false⟩])
    .ret))
theorem comp_slices_Contains_int_int : Tryz.f95.body.bind (comp prog Tryz.f95.ntmps) = some pc_slices_Contains_int_int := by kernel_rfl
theorem in_slices_Contains_int_int {a0 a1 : Value} {H : Heap} {k : Value → Heap → Prop} (h : H.Wf → pexec prog pc_slices_Contains_int_int ⟨Rt prog Tryz.f95 H k, noEx⟩ (Rt prog Tryz.f95 H k) (upd (upd U 0 a0) 1 a1) H) : CallQ prog f_slices_Contains_int_int [a0, a1] H k := call_in Tryz.func95 comp_slices_Contains_int_int (by kernel_rfl) (by kernel_rfl) (env2 a0 a1) h
noncomputable abbrev F_shape_goes : Func := Tryz.f96
theorem ret_shape_goes (H0 H : Heap) (k : Value → Heap → Prop) (A : Env) : Rt prog Tryz.f96 H0 k A H = Ret H0 k (A 4) H := rt_1 (by kernel_rfl) (by kernel_rfl)
noncomputable def pc_shape_goes_1 : PC :=
  (.seq
   (.ops [⟨some 34, .bin .eql (t 5) (.const (.int .i64 2)), none, false⟩, ⟨some 33, .mv (t 34), none, false⟩])
   (.cond (t 33)
    (.seq
     (.ops [⟨some 35, .mv (t 0), none, false⟩, ⟨some 36, .bin .geq (t 35) (.const (.int .i64 1)), none, false⟩, ⟨some 37, .mv (t 36), none, false⟩, ⟨some 38, .mv (t 0), some (37, true), false⟩, ⟨some 39, .bin .leq (t 38) (.const (.int .i64 19)), some (37, true), false⟩, ⟨some 40, .pick (t 37) (t 39) (.const (.bool false)), none, false⟩, ⟨some 41, .mv (t 40), none, false⟩, ⟨some 42, .mv (t 0), some (41, false), false⟩, ⟨some 43, .bin .eql (t 42) (.const (.int .i64 34)), some (41, false), false⟩, ⟨some 44, .pick (t 41) (.const (.bool true)) (t 43), none, false⟩, ⟨some 4, .mv (t 44), none, false⟩])
     .ret)
    .skip))
noncomputable def pc_shape_goes_2 : PC :=
  (.cond (t 22)
   (.seq
    (.ops [⟨some 27, .mv (t 0), none, false⟩, ⟨some 28, .bin .geq (t 27) (.const (.int .i64 1)), none, false⟩, ⟨some 29, .mv (t 28), none, false⟩, ⟨some 30, .mv (t 0), some (29, true), false⟩, ⟨some 31, .bin .leq (t 30) (.const (.int .i64 6)), some (29, true), false⟩, ⟨some 32, .pick (t 29) (t 31) (.const (.bool false)), none, false⟩, ⟨some 4, .mv (t 32), none, false⟩])
    .ret)
   pc_shape_goes_1)
noncomputable def pc_shape_goes_3 : PC :=
  (.seq
   (.ops [⟨some 24, .bin .eql (t 5) (.const (.int .i64 3)), none, false⟩, ⟨some 22, .mv (t 24), none, false⟩])
   (.cond (t 22)
    .skip
    (.seq
     (.ops [⟨some 25, .bin .eql (t 5) (.const (.int .i64 4)), none, false⟩, ⟨some 22, .mv (t 25), none, false⟩])
     (.cond (t 22)
      .skip
      (.ops [⟨some 26, .bin .eql (t 5) (.const (.int .i64 7)), none, false⟩, ⟨some 22, .mv (t 26), none, false⟩])))))
noncomputable def pc_shape_goes_4 : PC :=
  (.seq
   (.seq
    (.ops [⟨some 23, .bin .eql (t 5) (.const (.int .i64 1)), none, false⟩, ⟨some 22, .mv (t 23), none, false⟩])
    (.cond (t 22)
     .skip
     pc_shape_goes_3))
   pc_shape_goes_2)
noncomputable def pc_shape_goes_5 : PC :=
  (.seq
   (.ops [⟨some 15, .bin .eql (t 5) (.const (.int .i64 5)), none, false⟩, ⟨some 14, .mv (t 15), none, false⟩])
   (.cond (t 14)
    (.seq
     (.ops [⟨some 16, .mv (t 0), none, false⟩, ⟨some 17, .bin .geq (t 16) (.const (.int .i64 20)), none, false⟩, ⟨some 18, .mv (t 17), none, false⟩, ⟨some 19, .mv (t 0), some (18, true), false⟩, ⟨some 20, .bin .leq (t 19) (.const (.int .i64 27)), some (18, true), false⟩, ⟨some 21, .pick (t 18) (t 20) (.const (.bool false)), none, false⟩, ⟨some 4, .mv (t 21), none, false⟩])
     .ret)
    pc_shape_goes_4))
noncomputable def pc_shape_goes : PC :=
  (.seq
   (.ops [⟨some 4, .mv (.const (.bool false)), none, false⟩])
   (.seq
    (.seq
     (.ops [⟨some 5, .mv (t 1), none, false⟩])
     (.block 0
      (.seq
       (.ops [⟨some 7, .bin .eql (t 5) (.const (.int .i64 6)), none, false⟩, ⟨some 6, .mv (t 7), none, false⟩])
       (.cond (t 6)
        (.seq
         (.ops [⟨some 8, .mv (t 0), none, false⟩, ⟨some 9, .bin .geq (t 8) (.const (.int .i64 28)), none, false⟩, ⟨some 10, .mv (t 9), none, false⟩, ⟨some 11, .mv (t 0), some (10, true), false⟩, ⟨some 12, .bin .leq (t 11) (.const (.int .i64 33)), some (10, true), false⟩, ⟨some 13, .pick (t 10) (t 12) (.const (.bool false)), none, false⟩, ⟨some 4, .mv (t 13), none, false⟩])
         .ret)
        pc_shape_goes_5))))
    (.seq
     (.ops [⟨some 4, .mv (.const (.bool false)), none, false⟩])
     .ret)))
theorem comp_shape_goes : Tryz.f96.body.bind (comp prog Tryz.f96.ntmps) = some pc_shape_goes := by kernel_rfl
theorem in_shape_goes {a0 a1 : Value} {H : Heap} {k : Value → Heap → Prop} (h : H.Wf → pexec prog pc_shape_goes ⟨Rt prog Tryz.f96 H k, noEx⟩ (Rt prog Tryz.f96 H k) (upd (upd U 0 a0) 1 a1) H) : CallQ prog f_shape_goes [a0, a1] H k := call_in Tryz.func96 comp_shape_goes (by kernel_rfl) (by kernel_rfl) (env2 a0 a1) h
end Go.Proofs.YtkoecjmmphmdeaaGreatDoor.code
