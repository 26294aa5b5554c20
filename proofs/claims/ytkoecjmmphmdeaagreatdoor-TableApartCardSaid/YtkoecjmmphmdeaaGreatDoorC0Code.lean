/- The code of the functions that are reached, resolved. -/
import Derived.Test.YtkoecjmmphmdeaaGreatDoorProg
import Derived.KernelRfl
import Derived.Test.YtkoecjmmphmdeaaGreatDoorAbH
set_option linter.unusedVariables false
set_option maxRecDepth 100000
namespace Go.Proofs.YtkoecjmmphmdeaaGreatDoor.code
open Go.Ab
noncomputable abbrev prog : Program := Tryz.prog
abbrev f_linotypelaw19_TableApart : FuncId := 6
abbrev f_linotypekit_SameForms : FuncId := 7
abbrev f_table_Of : FuncId := 8
abbrev f_linotyperef19_Of : FuncId := 9
abbrev f_table_Match : FuncId := 10
abbrev f_linotyperef19_Match : FuncId := 11
abbrev f_linotypelaw19_awake : FuncId := 12
abbrev f_table_Rows : FuncId := 13
abbrev f_linotypekit_SameInts : FuncId := 15
abbrev f_table_Meets : FuncId := 17
abbrev f_linotypekit_Pick : FuncId := 18
abbrev f_linotypekit_SameForm : FuncId := 19
abbrev f_shape_Check : FuncId := 20
abbrev f_table_collect : FuncId := 21
abbrev f_table_Of_1 : FuncId := 22
abbrev f_linotyperef19_Rows : FuncId := 23
abbrev f_table_Match_1 : FuncId := 24
abbrev f_table_may : FuncId := 25
abbrev f_linotyperef19_Stands : FuncId := 26
abbrev f_table_Rows_1 : FuncId := 27
abbrev f_table_opcode : FuncId := 28
abbrev f_shape_Modrm : FuncId := 29
abbrev f_table_register : FuncId := 30
abbrev f_table_place : FuncId := 31
abbrev f_name_Valid : FuncId := 32
abbrev f_shape_rules : FuncId := 33
abbrev f_table_lists : FuncId := 34
abbrev f_linotyperef13_Rows : FuncId := 35
abbrev f_linotyperef14_Rows : FuncId := 36
abbrev f_linotyperef15_Rows : FuncId := 37
abbrev f_linotyperef16_Rows : FuncId := 38
abbrev f_linotyperef17_Rows : FuncId := 39
abbrev f_linotyperef18_Rows : FuncId := 40
abbrev f_table_begins : FuncId := 41
abbrev f_linotyperef19_code : FuncId := 42
abbrev f_shape_Slot : FuncId := 43
abbrev f_table_low : FuncId := 44
abbrev f_shape_prefixed : FuncId := 45
abbrev f_shape_once : FuncId := 46
abbrev f_shape_matched : FuncId := 47
abbrev f_shape_taken : FuncId := 48
abbrev f_alu_Rows : FuncId := 49
abbrev f_unary_Rows : FuncId := 50
abbrev f_flow_Rows : FuncId := 51
abbrev f_bits_Rows : FuncId := 52
abbrev f_sse_Rows : FuncId := 53
abbrev f_avx_Rows : FuncId := 54
abbrev f_linotyperef12_Slot : FuncId := 93
abbrev f_slices_Index_int_int : FuncId := 94
abbrev f_slices_Contains_int_int : FuncId := 95
abbrev f_shape_goes : FuncId := 96
abbrev T_api_Key : TypeId := 23
abbrev T_api_Form : TypeId := 33
abbrev T_table_list : TypeId := 53
theorem ret_linotypelaw19_TableApart (H0 H : Heap) (k : Value → Heap → Prop) (A : Env) : Rt prog Tryz.f6 H0 k A H = Ret H0 k (A 4) H := rt_1 (by kernel_rfl) (by kernel_rfl)
noncomputable def pc_linotypelaw19_TableApart : PC :=
  (.seq
   (.ops [⟨some 4, .mv (.const (.bool false)), none, false⟩])
   (.seq
    (.ops [⟨some 7, .call f_linotypelaw19_awake [], none, false⟩, ⟨some 5, .mv (t 7), none, false⟩])
    (.seq
     (.ops [⟨some 8, .call f_table_Rows [], none, false⟩, ⟨some 6, .mv (t 8), none, false⟩])
     (.seq
      (.seq
       (.ops [⟨some 9, .mv (t 6), none, false⟩, ⟨some 10, .lenS (t 9), none, false⟩, ⟨some 11, .bin .eql (t 10) (.const (.int .i64 0)), none, false⟩])
       (.cond (t 11)
        (.seq
         (.ops [⟨some 4, .mv (.const (.bool false)), none, false⟩])
         .ret)
        .skip))
      (.seq
       (.ops [⟨some 12, .mv (t 0), none, false⟩, ⟨some 13, .mv (t 6), none, false⟩, ⟨some 14, .lenS (t 13), none, false⟩, ⟨some 15, .call f_linotypekit_Pick [(t 12), (t 14)], none, false⟩, ⟨some 16, .mv (t 1), none, false⟩, ⟨some 17, .mv (t 6), none, false⟩, ⟨some 18, .lenS (t 17), none, false⟩, ⟨some 19, .call f_linotypekit_Pick [(t 16), (t 18)], none, false⟩, ⟨some 0, .mv (t 15), none, false⟩, ⟨some 1, .mv (t 19), none, false⟩])
       (.seq
        (.ops [⟨some 20, .mv (t 5), none, false⟩, ⟨some 21, .mv (t 20), none, false⟩, ⟨some 22, .mv (t 6), some (21, true), false⟩, ⟨some 23, .mv (t 0), some (21, true), false⟩, ⟨some 24, .idxS 10 (t 22) (t 23), some (21, true), false⟩, ⟨some 25, .ld true 10 (t 24), some (21, true), false⟩, ⟨some 26, .call f_shape_Check [(t 25)], some (21, true), false⟩, ⟨some 27, .bin .eql (t 26) (.const (.int .i64 0)), some (21, true), false⟩, ⟨some 28, .pick (t 21) (t 27) (.const (.bool false)), none, false⟩, ⟨some 29, .mv (t 28), none, false⟩, ⟨some 30, .mv (t 6), some (29, true), false⟩, ⟨some 31, .mv (t 0), some (29, true), false⟩, ⟨some 32, .idxS 10 (t 30) (t 31), some (29, true), false⟩, ⟨some 33, .ld true 10 (t 32), some (29, true), false⟩, ⟨some 34, .mv (t 6), some (29, true), false⟩, ⟨some 35, .mv (t 1), some (29, true), false⟩, ⟨some 36, .idxS 10 (t 34) (t 35), some (29, true), false⟩, ⟨some 37, .ld true 10 (t 36), some (29, true), false⟩, ⟨some 38, .call f_table_Meets [(t 33), (t 37)], some (29, true), false⟩, ⟨some 39, .mv (t 0), some (29, true), false⟩, ⟨some 40, .mv (t 1), some (29, true), false⟩, ⟨some 41, .bin .eql (t 39) (t 40), some (29, true), false⟩, ⟨some 42, .beq false (t 38) (t 41), some (29, true), false⟩, ⟨some 43, .pick (t 29) (t 42) (.const (.bool false)), none, false⟩, ⟨some 44, .mv (t 43), none, false⟩, ⟨some 45, .mv (t 6), some (44, true), false⟩, ⟨some 46, .mv (t 1), some (44, true), false⟩, ⟨some 47, .idxS 10 (t 45) (t 46), some (44, true), false⟩, ⟨some 48, .ld true 10 (t 47), some (44, true), false⟩, ⟨some 49, .mv (t 6), some (44, true), false⟩, ⟨some 50, .mv (t 0), some (44, true), false⟩, ⟨some 51, .idxS 10 (t 49) (t 50), some (44, true), false⟩, ⟨some 52, .ld true 10 (t 51), some (44, true), false⟩, ⟨some 53, .call f_table_Meets [(t 48), (t 52)], some (44, true), false⟩, ⟨some 54, .mv (t 0), some (44, true), false⟩, ⟨some 55, .mv (t 1), some (44, true), false⟩, ⟨some 56, .bin .eql (t 54) (t 55), some (44, true), false⟩, ⟨some 57, .beq false (t 53) (t 56), some (44, true), false⟩, ⟨some 58, .pick (t 44) (t 57) (.const (.bool false)), none, false⟩, ⟨some 4, .mv (t 58), none, false⟩])
        .ret))))))
theorem comp_linotypelaw19_TableApart : Tryz.f6.body.bind (comp prog Tryz.f6.ntmps) = some pc_linotypelaw19_TableApart := by kernel_rfl
theorem in_linotypelaw19_TableApart {a0 a1 : Value} {H : Heap} {k : Value → Heap → Prop} (h : H.Wf → pexec prog pc_linotypelaw19_TableApart ⟨Rt prog Tryz.f6 H k, noEx⟩ (Rt prog Tryz.f6 H k) (upd (upd U 0 a0) 1 a1) H) : CallQ prog f_linotypelaw19_TableApart [a0, a1] H k := call_in Tryz.func6 comp_linotypelaw19_TableApart (by kernel_rfl) (by kernel_rfl) (env2 a0 a1) h
theorem ret_table_Of (H0 H : Heap) (k : Value → Heap → Prop) (A : Env) : Rt prog Tryz.f8 H0 k A H = Ret H0 k (A 2) H := rt_1 (by kernel_rfl) (by kernel_rfl)
noncomputable def pc_table_Of : PC :=
  (.seq
   (.ops [⟨some 1, .box 3 (t 0), none, false⟩, ⟨some 2, .mv (.const (.slice none 0 0)), none, false⟩])
   (.seq
    (.ops [⟨some 3, .ld false 1 (t 1), none, false⟩, ⟨some 4, .ld false 1 (t 1), none, false⟩, ⟨some 5, .gen (.makeFunc (.func f_table_Of_1) #[] #[(t 1)]), none, false⟩, ⟨some 6, .call f_table_collect [(t 3), (t 4), (t 5)], none, false⟩, ⟨some 2, .mv (t 6), none, false⟩])
    .ret))
theorem comp_table_Of : Tryz.f8.body.bind (comp prog Tryz.f8.ntmps) = some pc_table_Of := by kernel_rfl
theorem in_table_Of {a0 : Value} {H : Heap} {k : Value → Heap → Prop} (h : H.Wf → pexec prog pc_table_Of ⟨Rt prog Tryz.f8 H k, noEx⟩ (Rt prog Tryz.f8 H k) (upd U 0 a0) H) : CallQ prog f_table_Of [a0] H k := call_in Tryz.func8 comp_table_Of (by kernel_rfl) (by kernel_rfl) (env1 a0) h
theorem ret_table_Match (H0 H : Heap) (k : Value → Heap → Prop) (A : Env) : Rt prog Tryz.f10 H0 k A H = Ret H0 k (A 2) H := rt_1 (by kernel_rfl) (by kernel_rfl)
noncomputable def pc_table_Match : PC :=
  (.seq
   (.ops [⟨some 1, .box T_api_Key (t 0), none, false⟩, ⟨some 2, .mv (.const (.slice none 0 0)), none, false⟩])
   (.seq
    (.ops [⟨some 3, .gen (.makeFunc (.func f_table_Match_1) #[] #[(t 1)]), none, false⟩, ⟨some 4, .call f_table_collect [(.const (.int .i64 1)), (.const (.int .i64 322)), (t 3)], none, false⟩, ⟨some 2, .mv (t 4), none, false⟩])
    .ret))
theorem comp_table_Match : Tryz.f10.body.bind (comp prog Tryz.f10.ntmps) = some pc_table_Match := by kernel_rfl
theorem in_table_Match {a0 : Value} {H : Heap} {k : Value → Heap → Prop} (h : H.Wf → pexec prog pc_table_Match ⟨Rt prog Tryz.f10 H k, noEx⟩ (Rt prog Tryz.f10 H k) (upd U 0 a0) H) : CallQ prog f_table_Match [a0] H k := call_in Tryz.func10 comp_table_Match (by kernel_rfl) (by kernel_rfl) (env1 a0) h
theorem ret_table_Rows (H0 H : Heap) (k : Value → Heap → Prop) (A : Env) : Rt prog Tryz.f13 H0 k A H = Ret H0 k (A 0) H := rt_1 (by kernel_rfl) (by kernel_rfl)
noncomputable def pc_table_Rows : PC :=
  (.seq
   (.ops [⟨some 0, .mv (.const (.slice none 0 0)), none, false⟩])
   (.seq
    (.ops [⟨some 1, .call f_table_collect [(.const (.int .i64 1)), (.const (.int .i64 322)), (.func f_table_Rows_1)], none, false⟩, ⟨some 0, .mv (t 1), none, false⟩])
    .ret))
theorem comp_table_Rows : Tryz.f13.body.bind (comp prog Tryz.f13.ntmps) = some pc_table_Rows := by kernel_rfl
theorem in_table_Rows {H : Heap} {k : Value → Heap → Prop} (h : H.Wf → pexec prog pc_table_Rows ⟨Rt prog Tryz.f13 H k, noEx⟩ (Rt prog Tryz.f13 H k) U H) : CallQ prog f_table_Rows [] H k := call_in Tryz.func13 comp_table_Rows (by kernel_rfl) (by kernel_rfl) env0 h
theorem ret_table_Meets (H0 H : Heap) (k : Value → Heap → Prop) (A : Env) : Rt prog Tryz.f17 H0 k A H = Ret H0 k (A 4) H := rt_1 (by kernel_rfl) (by kernel_rfl)
noncomputable def pc_table_Meets : PC :=
  (.seq
   (.ops [⟨some 2, .box T_api_Form (t 0), none, false⟩, ⟨some 3, .box T_api_Form (t 1), none, false⟩, ⟨some 4, .mv (.const (.bool false)), none, false⟩])
   (.seq
    (.seq
     (.ops [⟨some 5, .fldA 8 (t 2), none, false⟩, ⟨some 6, .ld false 1 (t 5), none, false⟩, ⟨some 7, .fldA 8 (t 3), none, false⟩, ⟨some 8, .ld false 1 (t 7), none, false⟩, ⟨some 9, .beq true (t 6) (t 8), none, false⟩, ⟨some 10, .mv (t 9), none, false⟩, ⟨some 11, .fldA 3 (t 2), some (10, false), false⟩, ⟨some 12, .ld false 1 (t 11), some (10, false), false⟩, ⟨some 13, .fldA 3 (t 3), some (10, false), false⟩, ⟨some 14, .ld false 1 (t 13), some (10, false), false⟩, ⟨some 15, .bin .neq (t 12) (t 14), some (10, false), false⟩, ⟨some 16, .pick (t 10) (.const (.bool true)) (t 15), none, false⟩, ⟨some 17, .mv (t 16), none, false⟩, ⟨some 18, .fldA 4 (t 2), some (17, false), false⟩, ⟨some 19, .ld false 1 (t 18), some (17, false), false⟩, ⟨some 20, .fldA 4 (t 3), some (17, false), false⟩, ⟨some 21, .ld false 1 (t 20), some (17, false), false⟩, ⟨some 22, .bin .neq (t 19) (t 21), some (17, false), false⟩, ⟨some 23, .pick (t 17) (.const (.bool true)) (t 22), none, false⟩, ⟨some 24, .mv (t 23), none, false⟩, ⟨some 25, .fldA 9 (t 2), some (24, false), false⟩, ⟨some 26, .ld false 1 (t 25), some (24, false), false⟩, ⟨some 27, .fldA 9 (t 3), some (24, false), false⟩, ⟨some 28, .ld false 1 (t 27), some (24, false), false⟩, ⟨some 29, .bin .neq (t 26) (t 28), some (24, false), false⟩, ⟨some 30, .pick (t 24) (.const (.bool true)) (t 29), none, false⟩])
     (.cond (t 30)
      (.seq
       (.ops [⟨some 4, .mv (.const (.bool false)), none, false⟩])
       .ret)
      .skip))
    (.seq
     (.seq
      (.ops [⟨some 31, .fldA 7 (t 2), none, false⟩, ⟨some 32, .ld false 1 (t 31), none, false⟩, ⟨some 33, .fldA 7 (t 3), none, false⟩, ⟨some 34, .ld false 1 (t 33), none, false⟩, ⟨some 35, .bin .neq (t 32) (t 34), none, false⟩, ⟨some 36, .mv (t 35), none, false⟩, ⟨some 37, .fldA 7 (t 2), some (36, true), false⟩, ⟨some 38, .ld false 1 (t 37), some (36, true), false⟩, ⟨some 39, .bin .neq (t 38) (.const (.int .i64 (-1))), some (36, true), false⟩, ⟨some 40, .pick (t 36) (t 39) (.const (.bool false)), none, false⟩, ⟨some 41, .mv (t 40), none, false⟩, ⟨some 42, .fldA 7 (t 3), some (41, true), false⟩, ⟨some 43, .ld false 1 (t 42), some (41, true), false⟩, ⟨some 44, .bin .neq (t 43) (.const (.int .i64 (-1))), some (41, true), false⟩, ⟨some 45, .pick (t 41) (t 44) (.const (.bool false)), none, false⟩, ⟨some 46, .mv (t 45), none, false⟩, ⟨some 47, .ld true 10 (t 2), some (46, false), false⟩, ⟨some 48, .ld true 10 (t 3), some (46, false), false⟩, ⟨some 49, .call f_table_opcode [(t 47), (t 48)], some (46, false), false⟩, ⟨some 50, .not (t 49), some (46, false), false⟩, ⟨some 51, .pick (t 46) (.const (.bool true)) (t 50), none, false⟩])
      (.cond (t 51)
       (.seq
        (.ops [⟨some 4, .mv (.const (.bool false)), none, false⟩])
        .ret)
       .skip))
     (.seq
      (.seq
       (.ops [⟨some 52, .ld true 10 (t 2), none, false⟩, ⟨some 53, .call f_shape_Modrm [(t 52)], none, false⟩, ⟨some 54, .not (t 53), none, false⟩, ⟨some 55, .mv (t 54), none, false⟩, ⟨some 56, .ld true 10 (t 3), some (55, false), false⟩, ⟨some 57, .call f_shape_Modrm [(t 56)], some (55, false), false⟩, ⟨some 58, .not (t 57), some (55, false), false⟩, ⟨some 59, .pick (t 55) (.const (.bool true)) (t 58), none, false⟩])
       (.cond (t 59)
        (.seq
         (.ops [⟨some 4, .mv (.const (.bool true)), none, false⟩])
         .ret)
        .skip))
      (.seq
       (.seq
        (.ops [⟨some 60, .fldA 6 (t 2), none, false⟩, ⟨some 61, .ld false 1 (t 60), none, false⟩, ⟨some 62, .bin .geq (t 61) (.const (.int .i64 0)), none, false⟩, ⟨some 63, .mv (t 62), none, false⟩, ⟨some 64, .fldA 6 (t 3), some (63, true), false⟩, ⟨some 65, .ld false 1 (t 64), some (63, true), false⟩, ⟨some 66, .bin .geq (t 65) (.const (.int .i64 0)), some (63, true), false⟩, ⟨some 67, .pick (t 63) (t 66) (.const (.bool false)), none, false⟩, ⟨some 68, .mv (t 67), none, false⟩, ⟨some 69, .fldA 6 (t 2), some (68, true), false⟩, ⟨some 70, .ld false 1 (t 69), some (68, true), false⟩, ⟨some 71, .fldA 6 (t 3), some (68, true), false⟩, ⟨some 72, .ld false 1 (t 71), some (68, true), false⟩, ⟨some 73, .bin .neq (t 70) (t 72), some (68, true), false⟩, ⟨some 74, .pick (t 68) (t 73) (.const (.bool false)), none, false⟩])
        (.cond (t 74)
         (.seq
          (.ops [⟨some 4, .mv (.const (.bool false)), none, false⟩])
          .ret)
         .skip))
       (.seq
        (.ops [⟨some 75, .ld true 10 (t 2), none, false⟩, ⟨some 76, .call f_table_register [(t 75)], none, false⟩, ⟨some 77, .mv (t 76), none, false⟩, ⟨some 78, .ld true 10 (t 3), some (77, true), false⟩, ⟨some 79, .call f_table_place [(t 78)], some (77, true), false⟩, ⟨some 80, .pick (t 77) (t 79) (.const (.bool false)), none, false⟩, ⟨some 81, .mv (t 80), none, false⟩, ⟨some 82, .ld true 10 (t 2), some (81, false), false⟩, ⟨some 83, .call f_table_place [(t 82)], some (81, false), false⟩, ⟨some 84, .mv (t 83), some (81, false), false⟩, ⟨some 85, .ld true 10 (t 3), some (84, true), false⟩, ⟨some 86, .call f_table_register [(t 85)], some (84, true), false⟩, ⟨some 87, .pick (t 84) (t 86) (.const (.bool false)), some (81, false), false⟩, ⟨some 88, .pick (t 81) (.const (.bool true)) (t 87), none, false⟩, ⟨some 89, .not (t 88), none, false⟩, ⟨some 4, .mv (t 89), none, false⟩])
        .ret))))))
theorem comp_table_Meets : Tryz.f17.body.bind (comp prog Tryz.f17.ntmps) = some pc_table_Meets := by kernel_rfl
theorem in_table_Meets {a0 a1 : Value} {H : Heap} {k : Value → Heap → Prop} (h : H.Wf → pexec prog pc_table_Meets ⟨Rt prog Tryz.f17 H k, noEx⟩ (Rt prog Tryz.f17 H k) (upd (upd U 0 a0) 1 a1) H) : CallQ prog f_table_Meets [a0, a1] H k := call_in Tryz.func17 comp_table_Meets (by kernel_rfl) (by kernel_rfl) (env2 a0 a1) h
theorem ret_linotypekit_Pick (H0 H : Heap) (k : Value → Heap → Prop) (A : Env) : Rt prog Tryz.f18 H0 k A H = Ret H0 k (A 4) H := rt_1 (by kernel_rfl) (by kernel_rfl)
noncomputable def pc_linotypekit_Pick : PC :=
  (.seq
   (.ops [⟨some 4, .mv (.const (.int .i64 0)), none, false⟩])
   (.seq
    (.seq
     (.ops [⟨some 5, .mv (t 1), none, false⟩, ⟨some 6, .bin .lss (t 5) (.const (.int .i64 1)), none, false⟩])
     (.cond (t 6)
      (.seq
       (.ops [⟨some 4, .mv (.const (.int .i64 0)), none, false⟩])
       .ret)
      .skip))
    (.seq
     (.ops [⟨some 7, .mv (t 0), none, false⟩, ⟨some 8, .mv (t 1), none, false⟩, ⟨some 9, .bin .rem (t 7) (t 8), none, false⟩, ⟨some 0, .mv (t 9), none, false⟩])
     (.seq
      (.seq
       (.ops [⟨some 10, .mv (t 0), none, false⟩, ⟨some 11, .bin .lss (t 10) (.const (.int .i64 0)), none, false⟩])
       (.cond (t 11)
        (.ops [⟨some 12, .mv (t 0), none, false⟩, ⟨some 13, .mv (t 1), none, false⟩, ⟨some 14, .bin .add (t 12) (t 13), none, false⟩, ⟨some 0, .mv (t 14), none, false⟩])
        .skip))
      (.seq
       (.ops [⟨some 15, .mv (t 0), none, false⟩, ⟨some 4, .mv (t 15), none, false⟩])
       .ret)))))
theorem comp_linotypekit_Pick : Tryz.f18.body.bind (comp prog Tryz.f18.ntmps) = some pc_linotypekit_Pick := by kernel_rfl
theorem in_linotypekit_Pick {a0 a1 : Value} {H : Heap} {k : Value → Heap → Prop} (h : H.Wf → pexec prog pc_linotypekit_Pick ⟨Rt prog Tryz.f18 H k, noEx⟩ (Rt prog Tryz.f18 H k) (upd (upd U 0 a0) 1 a1) H) : CallQ prog f_linotypekit_Pick [a0, a1] H k := call_in Tryz.func18 comp_linotypekit_Pick (by kernel_rfl) (by kernel_rfl) (env2 a0 a1) h
theorem ret_table_collect (H0 H : Heap) (k : Value → Heap → Prop) (A : Env) : Rt prog Tryz.f21 H0 k A H = Ret H0 k (A 6) H := rt_1 (by kernel_rfl) (by kernel_rfl)
noncomputable def pc_table_collect : PC :=
  (.seq
   (.ops [⟨some 6, .mv (.const (.slice none 0 0)), none, false⟩])
   (.seq
    (.ops [⟨some 7, .mv (.const (.slice none 0 0)), none, false⟩])
    (.seq
     (.seq
      (.ops [⟨some 12, .call f_table_lists [], none, false⟩, ⟨some 13, .lenS (t 12), none, false⟩, ⟨some 14, .mv (.const (.int .i64 0)), none, false⟩])
      (.block 0
       (.loop
        (.seq
         (.ops [⟨some 15, .bin .lss (t 14) (t 13), none, false⟩])
         (.seq
          (.cond (t 15)
           .skip
           (.exit 0))
          (.seq
           (.block 1
            (.seq
             (.ops [⟨some 16, .idxS 3 (t 12) (t 14), none, false⟩, ⟨some 17, .ld true 3 (t 16), none, false⟩, ⟨some 9, .alloc T_table_list [.int .i64 0, .int .i64 0, .nilFunc], none, false⟩, ⟨none, .st 3 (t 9) (t 17), none, false⟩])
             (.seq
              (.seq
               (.ops [⟨some 18, .mv (t 1), none, false⟩, ⟨some 19, .fldA 0 (t 9), none, false⟩, ⟨some 20, .ld false 1 (t 19), none, false⟩, ⟨some 21, .bin .lss (t 18) (t 20), none, false⟩, ⟨some 22, .mv (t 21), none, false⟩, ⟨some 23, .mv (t 0), some (22, false), false⟩, ⟨some 24, .fldA 1 (t 9), some (22, false), false⟩, ⟨some 25, .ld false 1 (t 24), some (22, false), false⟩, ⟨some 26, .bin .gtr (t 23) (t 25), some (22, false), false⟩, ⟨some 27, .pick (t 22) (.const (.bool true)) (t 26), none, false⟩])
               (.cond (t 27)
                (.exit 1)
                .skip))
              (.seq
               (.ops [⟨some 28, .fldA 2 (t 9), none, false⟩, ⟨some 29, .ld false 1 (t 28), none, false⟩, ⟨some 30, .callv (t 29) [], none, false⟩, ⟨some 31, .lenS (t 30), none, false⟩, ⟨some 32, .mv (.const (.int .i64 0)), none, false⟩])
               (.block 2
                (.loop
                 (.seq
                  (.ops [⟨some 33, .bin .lss (t 32) (t 31), none, false⟩])
                  (.seq
                   (.cond (t 33)
                    .skip
                    (.exit 2))
                   (.seq
                    (.block 3
                     (.seq
                      (.ops [⟨some 34, .idxS 10 (t 30) (t 32), none, false⟩, ⟨some 35, .ld true 10 (t 34), none, false⟩, ⟨some 11, .alloc T_api_Form [.int .i64 0, .slice none 0 0, .slice none 0 0, .int .i64 0, .int .i64 0, .int .i64 0, .int .i64 0, .int .i64 0, .bool false, .int .i64 0], none, false⟩, ⟨none, .st 10 (t 11) (t 35), none, false⟩])
                      (.seq
                       (.ops [⟨some 36, .mv (t 2), none, false⟩, ⟨some 37, .ld true 10 (t 11), none, false⟩, ⟨some 38, .callv (t 36) [(t 37)], none, false⟩])
                       (.cond (t 38)
                        (.ops [⟨some 39, .mv (t 7), none, false⟩, ⟨some 40, .ld true 10 (t 11), none, false⟩, ⟨some 41, .bslice T_api_Form 10 1 [.int .i64 0, .slice none 0 0, .slice none 0 0, .int .i64 0, .int .i64 0, .int .i64 0, .int .i64 0, .int .i64 0, .bool false, .int .i64 0] [(0, (t 40))], none, false⟩, ⟨some 42, .app T_api_Form 10 112 (t 39) (t 41), none, false⟩, ⟨some 7, .mv (t 42), none, false⟩])
                        .skip))))
                    (.ops [⟨some 43, .bin .add (t 32) (.const (.int .i64 1)), none, false⟩, ⟨some 32, .mv (t 43), none, false⟩]))))))))))
           (.ops [⟨some 44, .bin .add (t 14) (.const (.int .i64 1)), none, false⟩, ⟨some 14, .mv (t 44), none, false⟩])))))))
     (.seq
      (.ops [⟨some 45, .mv (t 7), none, false⟩, ⟨some 6, .mv (t 45), none, false⟩])
      .ret))))
theorem comp_table_collect : Tryz.f21.body.bind (comp prog Tryz.f21.ntmps) = some pc_table_collect := by kernel_rfl
theorem in_table_collect {a0 a1 a2 : Value} {H : Heap} {k : Value → Heap → Prop} (h : H.Wf → pexec prog pc_table_collect ⟨Rt prog Tryz.f21 H k, noEx⟩ (Rt prog Tryz.f21 H k) (upd (upd (upd U 0 a0) 1 a1) 2 a2) H) : CallQ prog f_table_collect [a0, a1, a2] H k := call_in Tryz.func21 comp_table_collect (by kernel_rfl) (by kernel_rfl) (env3 a0 a1 a2) h
theorem ret_table_Of_1 (H0 H : Heap) (k : Value → Heap → Prop) (A : Env) : Rt prog Tryz.f22 H0 k A H = Ret H0 k (A 3) H := rt_1 (by kernel_rfl) (by kernel_rfl)
noncomputable def pc_table_Of_1 : PC :=
  (.seq
   (.ops [⟨some 2, .box T_api_Form (t 0), none, false⟩, ⟨some 3, .mv (.const (.bool false)), none, false⟩])
   (.seq
    (.ops [⟨some 4, .fldA 0 (t 2), none, false⟩, ⟨some 5, .ld false 1 (t 4), none, false⟩, ⟨some 6, .ld false 1 (t 1), none, false⟩, ⟨some 7, .bin .eql (t 5) (t 6), none, false⟩, ⟨some 3, .mv (t 7), none, false⟩])
    .ret))
theorem comp_table_Of_1 : Tryz.f22.body.bind (comp prog Tryz.f22.ntmps) = some pc_table_Of_1 := by kernel_rfl
theorem in_table_Of_1 {a0 a1 : Value} {H : Heap} {k : Value → Heap → Prop} (h : H.Wf → pexec prog pc_table_Of_1 ⟨Rt prog Tryz.f22 H k, noEx⟩ (Rt prog Tryz.f22 H k) (upd (upd U 0 a0) 1 a1) H) : CallQ prog f_table_Of_1 [a0, a1] H k := call_in Tryz.func22 comp_table_Of_1 (by kernel_rfl) (by kernel_rfl) (env2 a0 a1) h
theorem ret_table_Match_1 (H0 H : Heap) (k : Value → Heap → Prop) (A : Env) : Rt prog Tryz.f24 H0 k A H = Ret H0 k (A 3) H := rt_1 (by kernel_rfl) (by kernel_rfl)
noncomputable def pc_table_Match_1 : PC :=
  (.seq
   (.ops [⟨some 2, .box T_api_Form (t 0), none, false⟩, ⟨some 3, .mv (.const (.bool false)), none, false⟩])
   (.seq
    (.ops [⟨some 4, .ld true 10 (t 2), none, false⟩, ⟨some 5, .ld true 6 (t 1), none, false⟩, ⟨some 6, .call f_table_may [(t 4), (t 5)], none, false⟩, ⟨some 3, .mv (t 6), none, false⟩])
    .ret))
theorem comp_table_Match_1 : Tryz.f24.body.bind (comp prog Tryz.f24.ntmps) = some pc_table_Match_1 := by kernel_rfl
theorem in_table_Match_1 {a0 a1 : Value} {H : Heap} {k : Value → Heap → Prop} (h : H.Wf → pexec prog pc_table_Match_1 ⟨Rt prog Tryz.f24 H k, noEx⟩ (Rt prog Tryz.f24 H k) (upd (upd U 0 a0) 1 a1) H) : CallQ prog f_table_Match_1 [a0, a1] H k := call_in Tryz.func24 comp_table_Match_1 (by kernel_rfl) (by kernel_rfl) (env2 a0 a1) h
theorem ret_table_may (H0 H : Heap) (k : Value → Heap → Prop) (A : Env) : Rt prog Tryz.f25 H0 k A H = Ret H0 k (A 4) H := rt_1 (by kernel_rfl) (by kernel_rfl)
noncomputable def pc_table_may : PC :=
  (.seq
   (.ops [⟨some 2, .box T_api_Form (t 0), none, false⟩, ⟨some 3, .box T_api_Key (t 1), none, false⟩, ⟨some 4, .mv (.const (.bool false)), none, false⟩])
   (.seq
    (.seq
     (.ops [⟨some 5, .fldA 8 (t 2), none, false⟩, ⟨some 6, .ld false 1 (t 5), none, false⟩, ⟨some 7, .fldA 0 (t 3), none, false⟩, ⟨some 8, .ld false 1 (t 7), none, false⟩, ⟨some 9, .beq true (t 6) (t 8), none, false⟩, ⟨some 10, .mv (t 9), none, false⟩, ⟨some 11, .fldA 3 (t 2), some (10, false), false⟩, ⟨some 12, .ld false 1 (t 11), some (10, false), false⟩, ⟨some 13, .fldA 1 (t 3), some (10, false), false⟩, ⟨some 14, .ld false 1 (t 13), some (10, false), false⟩, ⟨some 15, .bin .neq (t 12) (t 14), some (10, false), false⟩, ⟨some 16, .pick (t 10) (.const (.bool true)) (t 15), none, false⟩, ⟨some 17, .mv (t 16), none, false⟩, ⟨some 18, .fldA 4 (t 2), some (17, false), false⟩, ⟨some 19, .ld false 1 (t 18), some (17, false), false⟩, ⟨some 20, .fldA 4 (t 3), some (17, false), false⟩, ⟨some 21, .ld false 1 (t 20), some (17, false), false⟩, ⟨some 22, .bin .neq (t 19) (t 21), some (17, false), false⟩, ⟨some 23, .pick (t 17) (.const (.bool true)) (t 22), none, false⟩, ⟨some 24, .mv (t 23), none, false⟩, ⟨some 25, .fldA 9 (t 2), some (24, false), false⟩, ⟨some 26, .ld false 1 (t 25), some (24, false), false⟩, ⟨some 27, .fldA 3 (t 3), some (24, false), false⟩, ⟨some 28, .ld false 1 (t 27), some (24, false), false⟩, ⟨some 29, .bin .neq (t 26) (t 28), some (24, false), false⟩, ⟨some 30, .pick (t 24) (.const (.bool true)) (t 29), none, false⟩])
     (.cond (t 30)
      (.seq
       (.ops [⟨some 4, .mv (.const (.bool false)), none, false⟩])
       .ret)
      .skip))
    (.seq
     (.ops [⟨some 31, .fldA 7 (t 2), none, false⟩, ⟨some 32, .ld false 1 (t 31), none, false⟩, ⟨some 33, .bin .eql (t 32) (.const (.int .i64 (-1))), none, false⟩, ⟨some 34, .mv (t 33), none, false⟩, ⟨some 35, .fldA 7 (t 2), some (34, false), false⟩, ⟨some 36, .ld false 1 (t 35), some (34, false), false⟩, ⟨some 37, .fldA 2 (t 3), some (34, false), false⟩, ⟨some 38, .ld false 1 (t 37), some (34, false), false⟩, ⟨some 39, .bin .eql (t 36) (t 38), some (34, false), false⟩, ⟨some 40, .pick (t 34) (.const (.bool true)) (t 39), none, false⟩, ⟨some 41, .mv (t 40), none, false⟩, ⟨some 42, .fldA 5 (t 2), some (41, true), false⟩, ⟨some 43, .ld false 1 (t 42), some (41, true), true⟩, ⟨some 44, .ld true 10 (t 2), some (41, true), false⟩, ⟨some 45, .fldA 5 (t 3), some (41, true), false⟩, ⟨some 46, .ld false 1 (t 45), some (41, true), false⟩, ⟨some 47, .callF f_table_begins [(t 44), (t 46)] [], some (41, true), true⟩, ⟨some 48, .bin .eql (t 43) (t 47), some (41, true), false⟩, ⟨some 49, .pick (t 41) (t 48) (.const (.bool false)), none, false⟩, ⟨some 4, .mv (t 49), none, false⟩])
     .ret)))
theorem comp_table_may : Tryz.f25.body.bind (comp prog Tryz.f25.ntmps) = some pc_table_may := by kernel_rfl
theorem in_table_may {a0 a1 : Value} {H : Heap} {k : Value → Heap → Prop} (h : H.Wf → pexec prog pc_table_may ⟨Rt prog Tryz.f25 H k, noEx⟩ (Rt prog Tryz.f25 H k) (upd (upd U 0 a0) 1 a1) H) : CallQ prog f_table_may [a0, a1] H k := call_in Tryz.func25 comp_table_may (by kernel_rfl) (by kernel_rfl) (env2 a0 a1) h
theorem ret_table_Rows_1 (H0 H : Heap) (k : Value → Heap → Prop) (A : Env) : Rt prog Tryz.f27 H0 k A H = Ret H0 k (A 2) H := rt_1 (by kernel_rfl) (by kernel_rfl)
noncomputable def pc_table_Rows_1 : PC :=
  (.seq
   (.ops [⟨some 1, .box T_api_Form (t 0), none, false⟩, ⟨some 2, .mv (.const (.bool false)), none, false⟩])
   (.seq
    (.ops [⟨some 2, .mv (.const (.bool true)), none, false⟩])
    .ret))
theorem comp_table_Rows_1 : Tryz.f27.body.bind (comp prog Tryz.f27.ntmps) = some pc_table_Rows_1 := by kernel_rfl
theorem in_table_Rows_1 {a0 : Value} {H : Heap} {k : Value → Heap → Prop} (h : H.Wf → pexec prog pc_table_Rows_1 ⟨Rt prog Tryz.f27 H k, noEx⟩ (Rt prog Tryz.f27 H k) (upd U 0 a0) H) : CallQ prog f_table_Rows_1 [a0] H k := call_in Tryz.func27 comp_table_Rows_1 (by kernel_rfl) (by kernel_rfl) (env1 a0) h
theorem ret_table_opcode (H0 H : Heap) (k : Value → Heap → Prop) (A : Env) : Rt prog Tryz.f28 H0 k A H = Ret H0 k (A 4) H := rt_1 (by kernel_rfl) (by kernel_rfl)
noncomputable def pc_table_opcode : PC :=
  (.seq
   (.ops [⟨some 2, .box T_api_Form (t 0), none, false⟩, ⟨some 3, .box T_api_Form (t 1), none, false⟩, ⟨some 4, .mv (.const (.bool false)), none, false⟩])
   (.seq
    (.ops [⟨some 6, .fldA 5 (t 2), none, false⟩, ⟨some 7, .ld false 1 (t 6), none, false⟩, ⟨some 5, .mv (t 7), none, false⟩])
    (.seq
     (.seq
      (.ops [⟨some 8, .ld true 10 (t 2), none, false⟩, ⟨some 9, .call f_shape_Slot [(t 8), (.const (.int .i64 4))], none, false⟩, ⟨some 10, .bin .geq (t 9) (.const (.int .i64 0)), none, false⟩])
      (.cond (t 10)
       (.ops [⟨some 11, .fldA 5 (t 3), none, false⟩, ⟨some 12, .ld false 1 (t 11), none, false⟩, ⟨some 5, .mv (t 12), none, false⟩])
       .skip))
     (.seq
      (.ops [⟨some 13, .fldA 5 (t 2), none, false⟩, ⟨some 14, .ld false 1 (t 13), none, true⟩, ⟨some 15, .ld true 10 (t 2), none, false⟩, ⟨some 16, .mv (t 5), none, false⟩, ⟨some 17, .callF f_table_begins [(t 15), (t 16)] [], none, true⟩, ⟨some 18, .bin .eql (t 14) (t 17), none, false⟩, ⟨some 19, .mv (t 18), none, false⟩, ⟨some 20, .fldA 5 (t 3), some (19, true), false⟩, ⟨some 21, .ld false 1 (t 20), some (19, true), true⟩, ⟨some 22, .ld true 10 (t 3), some (19, true), false⟩, ⟨some 23, .mv (t 5), some (19, true), false⟩, ⟨some 24, .callF f_table_begins [(t 22), (t 23)] [], some (19, true), true⟩, ⟨some 25, .bin .eql (t 21) (t 24), some (19, true), false⟩, ⟨some 26, .pick (t 19) (t 25) (.const (.bool false)), none, false⟩, ⟨some 4, .mv (t 26), none, false⟩])
      .ret))))
theorem comp_table_opcode : Tryz.f28.body.bind (comp prog Tryz.f28.ntmps) = some pc_table_opcode := by kernel_rfl
theorem in_table_opcode {a0 a1 : Value} {H : Heap} {k : Value → Heap → Prop} (h : H.Wf → pexec prog pc_table_opcode ⟨Rt prog Tryz.f28 H k, noEx⟩ (Rt prog Tryz.f28 H k) (upd (upd U 0 a0) 1 a1) H) : CallQ prog f_table_opcode [a0, a1] H k := call_in Tryz.func28 comp_table_opcode (by kernel_rfl) (by kernel_rfl) (env2 a0 a1) h
theorem ret_shape_Modrm (H0 H : Heap) (k : Value → Heap → Prop) (A : Env) : Rt prog Tryz.f29 H0 k A H = Ret H0 k (A 2) H := rt_1 (by kernel_rfl) (by kernel_rfl)
noncomputable def pc_shape_Modrm : PC :=
  (.seq
   (.ops [⟨some 1, .box T_api_Form (t 0), none, false⟩, ⟨some 2, .mv (.const (.bool false)), none, false⟩])
   (.seq
    (.ops [⟨some 3, .ld true 10 (t 1), none, false⟩, ⟨some 4, .call f_shape_Slot [(t 3), (.const (.int .i64 2))], none, false⟩, ⟨some 5, .bin .geq (t 4) (.const (.int .i64 0)), none, false⟩, ⟨some 2, .mv (t 5), none, false⟩])
    .ret))
theorem comp_shape_Modrm : Tryz.f29.body.bind (comp prog Tryz.f29.ntmps) = some pc_shape_Modrm := by kernel_rfl
theorem in_shape_Modrm {a0 : Value} {H : Heap} {k : Value → Heap → Prop} (h : H.Wf → pexec prog pc_shape_Modrm ⟨Rt prog Tryz.f29 H k, noEx⟩ (Rt prog Tryz.f29 H k) (upd U 0 a0) H) : CallQ prog f_shape_Modrm [a0] H k := call_in Tryz.func29 comp_shape_Modrm (by kernel_rfl) (by kernel_rfl) (env1 a0) h
theorem ret_table_register (H0 H : Heap) (k : Value → Heap → Prop) (A : Env) : Rt prog Tryz.f30 H0 k A H = Ret H0 k (A 2) H := rt_1 (by kernel_rfl) (by kernel_rfl)
noncomputable def pc_table_register : PC :=
  (.seq
   (.ops [⟨some 1, .box T_api_Form (t 0), none, false⟩, ⟨some 2, .mv (.const (.bool false)), none, false⟩])
   (.seq
    (.ops [⟨some 4, .ld true 10 (t 1), none, false⟩, ⟨some 5, .call f_table_low [(t 4)], none, false⟩, ⟨some 3, .mv (t 5), none, false⟩])
    (.seq
     (.ops [⟨some 6, .mv (t 3), none, false⟩, ⟨some 7, .bin .geq (t 6) (.const (.int .i64 1)), none, false⟩, ⟨some 8, .mv (t 7), none, false⟩, ⟨some 9, .mv (t 3), some (8, true), false⟩, ⟨some 10, .bin .leq (t 9) (.const (.int .i64 6)), some (8, true), false⟩, ⟨some 11, .pick (t 8) (t 10) (.const (.bool false)), none, false⟩, ⟨some 2, .mv (t 11), none, false⟩])
     .ret)))
theorem comp_table_register : Tryz.f30.body.bind (comp prog Tryz.f30.ntmps) = some pc_table_register := by kernel_rfl
theorem in_table_register {a0 : Value} {H : Heap} {k : Value → Heap → Prop} (h : H.Wf → pexec prog pc_table_register ⟨Rt prog Tryz.f30 H k, noEx⟩ (Rt prog Tryz.f30 H k) (upd U 0 a0) H) : CallQ prog f_table_register [a0] H k := call_in Tryz.func30 comp_table_register (by kernel_rfl) (by kernel_rfl) (env1 a0) h
theorem ret_table_place (H0 H : Heap) (k : Value → Heap → Prop) (A : Env) : Rt prog Tryz.f31 H0 k A H = Ret H0 k (A 2) H := rt_1 (by kernel_rfl) (by kernel_rfl)
noncomputable def pc_table_place : PC :=
  (.seq
   (.ops [⟨some 1, .box T_api_Form (t 0), none, false⟩, ⟨some 2, .mv (.const (.bool false)), none, false⟩])
   (.seq
    (.ops [⟨some 4, .ld true 10 (t 1), none, false⟩, ⟨some 5, .call f_table_low [(t 4)], none, false⟩, ⟨some 3, .mv (t 5), none, false⟩])
    (.seq
     (.ops [⟨some 6, .mv (t 3), none, false⟩, ⟨some 7, .bin .geq (t 6) (.const (.int .i64 15)), none, false⟩, ⟨some 8, .mv (t 7), none, false⟩, ⟨some 9, .mv (t 3), some (8, true), false⟩, ⟨some 10, .bin .leq (t 9) (.const (.int .i64 19)), some (8, true), false⟩, ⟨some 11, .pick (t 8) (t 10) (.const (.bool false)), none, false⟩, ⟨some 12, .mv (t 11), none, false⟩, ⟨some 13, .mv (t 3), some (12, false), false⟩, ⟨some 14, .bin .eql (t 13) (.const (.int .i64 34)), some (12, false), false⟩, ⟨some 15, .pick (t 12) (.const (.bool true)) (t 14), none, false⟩, ⟨some 2, .mv (t 15), none, false⟩])
     .ret)))
theorem comp_table_place : Tryz.f31.body.bind (comp prog Tryz.f31.ntmps) = some pc_table_place := by kernel_rfl
theorem in_table_place {a0 : Value} {H : Heap} {k : Value → Heap → Prop} (h : H.Wf → pexec prog pc_table_place ⟨Rt prog Tryz.f31 H k, noEx⟩ (Rt prog Tryz.f31 H k) (upd U 0 a0) H) : CallQ prog f_table_place [a0] H k := call_in Tryz.func31 comp_table_place (by kernel_rfl) (by kernel_rfl) (env1 a0) h
theorem ret_table_lists (H0 H : Heap) (k : Value → Heap → Prop) (A : Env) : Rt prog Tryz.f34 H0 k A H = Ret H0 k (A 0) H := rt_1 (by kernel_rfl) (by kernel_rfl)
noncomputable def pc_table_lists : PC :=
  (.seq
   (.ops [⟨some 0, .mv (.const (.slice none 0 0)), none, false⟩])
   (.seq
    (.ops [⟨some 1, .build [.int .i64 0, .int .i64 0, .nilFunc] [(0, 1, (.const (.int .i64 1))), (1, 1, (.const (.int .i64 16))), (2, 1, (.func f_alu_Rows))], none, false⟩, ⟨some 2, .build [.int .i64 0, .int .i64 0, .nilFunc] [(0, 1, (.const (.int .i64 16))), (1, 1, (.const (.int .i64 47))), (2, 1, (.func f_unary_Rows))], none, false⟩, ⟨some 3, .build [.int .i64 0, .int .i64 0, .nilFunc] [(0, 1, (.const (.int .i64 48))), (1, 1, (.const (.int .i64 115))), (2, 1, (.func f_flow_Rows))], none, false⟩, ⟨some 4, .build [.int .i64 0, .int .i64 0, .nilFunc] [(0, 1, (.const (.int .i64 116))), (1, 1, (.const (.int .i64 135))), (2, 1, (.func f_bits_Rows))], none, false⟩, ⟨some 5, .build [.int .i64 0, .int .i64 0, .nilFunc] [(0, 1, (.const (.int .i64 136))), (1, 1, (.const (.int .i64 262))), (2, 1, (.func f_sse_Rows))], none, false⟩, ⟨some 6, .build [.int .i64 0, .int .i64 0, .nilFunc] [(0, 1, (.const (.int .i64 263))), (1, 1, (.const (.int .i64 322))), (2, 1, (.func f_avx_Rows))], none, false⟩, ⟨some 7, .bslice T_table_list 3 6 [.int .i64 0, .int .i64 0, .nilFunc, .int .i64 0, .int .i64 0, .nilFunc, .int .i64 0, .int .i64 0, .nilFunc, .int .i64 0, .int .i64 0, .nilFunc, .int .i64 0, .int .i64 0, .nilFunc, .int .i64 0, .int .i64 0, .nilFunc] [(0, (t 1)), (1, (t 2)), (2, (t 3)), (3, (t 4)), (4, (t 5)), (5, (t 6))], none, false⟩, ⟨some 0, .mv (t 7), none, false⟩])
    .ret))
theorem comp_table_lists : Tryz.f34.body.bind (comp prog Tryz.f34.ntmps) = some pc_table_lists := by kernel_rfl
theorem in_table_lists {H : Heap} {k : Value → Heap → Prop} (h : H.Wf → pexec prog pc_table_lists ⟨Rt prog Tryz.f34 H k, noEx⟩ (Rt prog Tryz.f34 H k) U H) : CallQ prog f_table_lists [] H k := call_in Tryz.func34 comp_table_lists (by kernel_rfl) (by kernel_rfl) env0 h
theorem ret_table_begins (H0 H : Heap) (k : Value → Heap → Prop) (A : Env) : Rt prog Tryz.f41 H0 k A H = Ret H0 k (A 4) H := rt_1 (by kernel_rfl) (by kernel_rfl)
noncomputable def pc_table_begins : PC :=
  (.seq
   (.ops [⟨some 2, .box T_api_Form (t 0), none, false⟩, ⟨some 4, .mv (.const (.int .i64 0)), none, false⟩])
   (.seq
    (.seq
     (.ops [⟨some 5, .ld true 10 (t 2), none, false⟩, ⟨some 6, .call f_shape_Slot [(t 5), (.const (.int .i64 4))], none, false⟩, ⟨some 7, .bin .geq (t 6) (.const (.int .i64 0)), none, false⟩])
     (.cond (t 7)
      (.seq
       (.ops [⟨some 8, .mv (t 1), none, false⟩, ⟨some 9, .bin .andNot (t 8) (.const (.int .i64 7)), none, false⟩, ⟨some 4, .mv (t 9), none, false⟩])
       .ret)
      .skip))
    (.seq
     (.ops [⟨some 10, .mv (t 1), none, false⟩, ⟨some 4, .mv (t 10), none, false⟩])
     .ret)))
theorem comp_table_begins : Tryz.f41.body.bind (comp prog Tryz.f41.ntmps) = some pc_table_begins := by kernel_rfl
theorem in_table_begins {a0 a1 : Value} {H : Heap} {k : Value → Heap → Prop} (h : H.Wf → pexec prog pc_table_begins ⟨Rt prog Tryz.f41 H k, noEx⟩ (Rt prog Tryz.f41 H k) (upd (upd U 0 a0) 1 a1) H) : CallQ prog f_table_begins [a0, a1] H k := call_in Tryz.func41 comp_table_begins (by kernel_rfl) (by kernel_rfl) (env2 a0 a1) h
theorem ret_shape_Slot (H0 H : Heap) (k : Value → Heap → Prop) (A : Env) : Rt prog Tryz.f43 H0 k A H = Ret H0 k (A 4) H := rt_1 (by kernel_rfl) (by kernel_rfl)
noncomputable def pc_shape_Slot : PC :=
  (.seq
   (.ops [⟨some 2, .box T_api_Form (t 0), none, false⟩, ⟨some 4, .mv (.const (.int .i64 0)), none, false⟩])
   (.seq
    (.ops [⟨some 5, .fldA 2 (t 2), none, false⟩, ⟨some 6, .ld false 1 (t 5), none, false⟩, ⟨some 7, .mv (t 1), none, false⟩, ⟨some 8, .call f_slices_Index_int_int [(t 6), (t 7)], none, false⟩, ⟨some 4, .mv (t 8), none, false⟩])
    .ret))
theorem comp_shape_Slot : Tryz.f43.body.bind (comp prog Tryz.f43.ntmps) = some pc_shape_Slot := by kernel_rfl
theorem in_shape_Slot {a0 a1 : Value} {H : Heap} {k : Value → Heap → Prop} (h : H.Wf → pexec prog pc_shape_Slot ⟨Rt prog Tryz.f43 H k, noEx⟩ (Rt prog Tryz.f43 H k) (upd (upd U 0 a0) 1 a1) H) : CallQ prog f_shape_Slot [a0, a1] H k := call_in Tryz.func43 comp_shape_Slot (by kernel_rfl) (by kernel_rfl) (env2 a0 a1) h
theorem ret_table_low (H0 H : Heap) (k : Value → Heap → Prop) (A : Env) : Rt prog Tryz.f44 H0 k A H = Ret H0 k (A 2) H := rt_1 (by kernel_rfl) (by kernel_rfl)
noncomputable def pc_table_low : PC :=
  (.seq
   (.ops [⟨some 1, .box T_api_Form (t 0), none, false⟩, ⟨some 2, .mv (.const (.int .i64 0)), none, false⟩])
   (.seq
    (.seq
     (.ops [⟨some 4, .ld true 10 (t 1), none, false⟩, ⟨some 5, .call f_shape_Slot [(t 4), (.const (.int .i64 2))], none, false⟩, ⟨some 3, .mv (t 5), none, false⟩])
     (.seq
      (.ops [⟨some 6, .mv (t 3), none, false⟩, ⟨some 7, .bin .geq (t 6) (.const (.int .i64 0)), none, false⟩, ⟨some 8, .mv (t 7), none, false⟩, ⟨some 9, .mv (t 3), some (8, true), false⟩, ⟨some 10, .fldA 1 (t 1), some (8, true), false⟩, ⟨some 11, .ld false 1 (t 10), some (8, true), false⟩, ⟨some 12, .lenS (t 11), some (8, true), false⟩, ⟨some 13, .bin .lss (t 9) (t 12), some (8, true), false⟩, ⟨some 14, .pick (t 8) (t 13) (.const (.bool false)), none, false⟩])
      (.cond (t 14)
       (.seq
        (.ops [⟨some 15, .fldA 1 (t 1), none, false⟩, ⟨some 16, .ld false 1 (t 15), none, false⟩, ⟨some 17, .mv (t 3), none, false⟩, ⟨some 18, .idxS 1 (t 16) (t 17), none, false⟩, ⟨some 19, .ld false 1 (t 18), none, false⟩, ⟨some 2, .mv (t 19), none, false⟩])
        .ret)
       .skip)))
    (.seq
     (.ops [⟨some 2, .mv (.const (.int .i64 0)), none, false⟩])
     .ret)))
theorem comp_table_low : Tryz.f44.body.bind (comp prog Tryz.f44.ntmps) = some pc_table_low := by kernel_rfl
theorem in_table_low {a0 : Value} {H : Heap} {k : Value → Heap → Prop} (h : H.Wf → pexec prog pc_table_low ⟨Rt prog Tryz.f44 H k, noEx⟩ (Rt prog Tryz.f44 H k) (upd U 0 a0) H) : CallQ prog f_table_low [a0] H k := call_in Tryz.func44 comp_table_low (by kernel_rfl) (by kernel_rfl) (env1 a0) h
theorem ret_slices_Index_int_int (H0 H : Heap) (k : Value → Heap → Prop) (A : Env) : Rt prog Tryz.f94 H0 k A H = Ret H0 k (A 4) H := rt_1 (by kernel_rfl) (by kernel_rfl)
noncomputable def pc_slices_Index_int_int : PC :=
  (.seq
   (.ops [⟨some 4, .mv (.const (.int .i64 0)), none, false⟩])
   (.seq
    (.seq
     (.ops [⟨some 6, .mv (t 0), none, false⟩, ⟨some 7, .lenS (t 6), none, false⟩, ⟨some 8, .mv (.const (.int .i64 0)), none, false⟩])
     (.block 0
      (.loop
       (.seq
        (.ops [⟨some 9, .bin .lss (t 8) (t 7), none, false⟩])
        (.seq
         (.cond (t 9)
          .skip
          (.exit 0))
         (.seq
          (.block 1
           (.seq
            (.ops [⟨some 10, .mv (t 8), none, false⟩, ⟨some 5, .mv (t 10), none, false⟩])
            (.seq
             (.ops [⟨some 11, .mv (t 1), none, false⟩, ⟨some 12, .mv (t 0), none, false⟩, ⟨some 13, .mv (t 5), none, false⟩, ⟨some 14, .idxS 1 (t 12) (t 13), none, false⟩, ⟨some 15, .ld false 1 (t 14), none, false⟩, ⟨some 16, .bin .eql (t 11) (t 15), none, false⟩])
             (.cond (t 16)
              (.seq
               (.ops [⟨some 17, .mv (t 5), none, false⟩, ⟨some 4, .mv (t 17), none, false⟩])
               .ret)
              .skip))))
          (.ops [⟨some 18, .bin .add (t 8) (.const (.int .i64 1)), none, false⟩, ⟨some 8, .mv (t 18), none, false⟩])))))))
    (.seq
     (.ops [⟨some 4, .mv (.const (.int .i64 (-1))), none, false⟩])
     .ret)))
theorem comp_slices_Index_int_int : Tryz.f94.body.bind (comp prog Tryz.f94.ntmps) = some pc_slices_Index_int_int := by kernel_rfl
theorem in_slices_Index_int_int {a0 a1 : Value} {H : Heap} {k : Value → Heap → Prop} (h : H.Wf → pexec prog pc_slices_Index_int_int ⟨Rt prog Tryz.f94 H k, noEx⟩ (Rt prog Tryz.f94 H k) (upd (upd U 0 a0) 1 a1) H) : CallQ prog f_slices_Index_int_int [a0, a1] H k := call_in Tryz.func94 comp_slices_Index_int_int (by kernel_rfl) (by kernel_rfl) (env2 a0 a1) h
end Go.Proofs.YtkoecjmmphmdeaaGreatDoor.code
