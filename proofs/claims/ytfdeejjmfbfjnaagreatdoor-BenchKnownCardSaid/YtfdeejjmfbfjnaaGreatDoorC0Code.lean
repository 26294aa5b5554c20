/- The code of the functions that are reached, resolved. -/
import Derived.Test.YtfdeejjmfbfjnaaGreatDoorProg
import Derived.KernelRfl
import Derived.Test.YtfdeejjmfbfjnaaGreatDoorAbH
set_option linter.unusedVariables false
set_option maxRecDepth 100000
namespace Go.Proofs.YtfdeejjmfbfjnaaGreatDoor.code
open Go.Ab
noncomputable abbrev prog : Program := Tryz.prog
abbrev f_linotypelaw32_BenchNone : FuncId := 3
abbrev f_linotypelaw32_awake : FuncId := 5
abbrev f_bench_Bench_Line : FuncId := 6
abbrev f_bench_New : FuncId := 7
abbrev f_linotypelaw32_says : FuncId := 8
abbrev f_strings_Cut : FuncId := 9
abbrev f_bench_commands : FuncId := 10
abbrev f_decode_Decode : FuncId := 37
abbrev f_inst_Check : FuncId := 67
abbrev f_table_Of : FuncId := 68
abbrev f_decode_find : FuncId := 71
abbrev f_decode_read : FuncId := 72
abbrev f_inst_Canon : FuncId := 73
abbrev f_name_Valid : FuncId := 123
abbrev f_operand_Check : FuncId := 124
abbrev f_inst_Bits : FuncId := 125
abbrev f_operand_Imm : FuncId := 126
abbrev f_table_collect : FuncId := 127
abbrev f_table_Of_1 : FuncId := 128
abbrev f_slices_Contains_int_int : FuncId := 131
abbrev f_decode_trie : FuncId := 132
abbrev f_decode_node_open : FuncId := 133
abbrev f_decode_node_child : FuncId := 134
abbrev f_slices_Clone_api_Arg_api_Arg : FuncId := 139
abbrev f_operand_Canon : FuncId := 140
abbrev f_inst_draft_doubled : FuncId := 141
abbrev f_inst_draft_placed : FuncId := 142
abbrev f_inst_draft_ranked : FuncId := 143
abbrev f_field_sized : FuncId := 173
abbrev f_reg_Valid : FuncId := 198
abbrev f_mem_Check : FuncId := 199
abbrev f_name_Imm : FuncId := 200
abbrev f_operand_Size : FuncId := 201
abbrev f_table_lists : FuncId := 202
abbrev f_inst_draft_alike : FuncId := 203
abbrev f_inst_draft_turn : FuncId := 204
abbrev f_slices_Index_int_int : FuncId := 207
abbrev f_table_Rows : FuncId := 208
abbrev f_decode_lead : FuncId := 209
abbrev f_decode_takes : FuncId := 210
abbrev f_shape_Slot : FuncId := 213
abbrev f_decode_classOf : FuncId := 215
abbrev f_decode_sizeOf : FuncId := 216
abbrev f_modrm_Read : FuncId := 217
abbrev f_field_Get : FuncId := 219
abbrev f_mem_Canon : FuncId := 221
abbrev f_inst_draft_are : FuncId := 222
abbrev f_reg_numbers : FuncId := 224
abbrev f_field_counted : FuncId := 253
abbrev f_field_Sign : FuncId := 254
abbrev f_mem_sized : FuncId := 282
abbrev f_mem_wide : FuncId := 283
abbrev f_mem_scaled : FuncId := 284
abbrev f_reg_Size : FuncId := 285
abbrev f_alu_Rows : FuncId := 286
abbrev f_unary_Rows : FuncId := 287
abbrev f_flow_Rows : FuncId := 288
abbrev f_bits_Rows : FuncId := 289
abbrev f_sse_Rows : FuncId := 290
abbrev f_avx_Rows : FuncId := 291
abbrev f_shape_Check : FuncId := 292
abbrev f_table_Rows_1 : FuncId := 298
abbrev f_decode_escape : FuncId := 299
abbrev f_decode_reader_allowed : FuncId := 300
abbrev f_vex_Read : FuncId := 301
abbrev f_modrm_split : FuncId := 303
abbrev f_modrm_sibPlace : FuncId := 304
abbrev f_modrm_width : FuncId := 305
abbrev f_shape_rules : FuncId := 382
abbrev f_vex_prefix : FuncId := 422
abbrev f_rex_Bits : FuncId := 423
abbrev f_shape_Modrm : FuncId := 482
abbrev f_shape_prefixed : FuncId := 483
abbrev f_shape_once : FuncId := 484
abbrev f_shape_matched : FuncId := 485
abbrev f_shape_taken : FuncId := 486
abbrev f_shape_goes : FuncId := 505
abbrev T_bench_Bench : TypeId := 31
abbrev T_bench_command : TypeId := 43
abbrev T_api_Inst : TypeId := 63
abbrev T_api_Form : TypeId := 150
abbrev T_api_Reg : TypeId := 158
abbrev T_api_Mem : TypeId := 160
abbrev T_api_Arg : TypeId := 162
abbrev T_decode_node : TypeId := 251
abbrev T_api_Seen : TypeId := 253
abbrev T_decode_reader : TypeId := 255
abbrev T_inst_draft : TypeId := 261
abbrev T_table_list : TypeId := 332
abbrev T_api_Vex : TypeId := 418
abbrev TM_p_decode_node : TypeId := 249
abbrev TMI_int_int : TypeId := 448
abbrev TMI_int : TypeId := 3
noncomputable abbrev F_decode_Decode : Func := Tryz.f37
theorem ret_decode_Decode (H0 H : Heap) (k : Value → Heap → Prop) (A : Env) : Rt prog Tryz.f37 H0 k A H = ldR true 2 (A 2) H fun v => Ret H0 k (.tuple #[v, A 3, A 4]) H := rt_cnn (ty := 63) (by kernel_rfl) (by kernel_rfl) (by kernel_rfl)
noncomputable def pc_decode_Decode : PC :=
  (.seq
   (.ops [⟨some 2, .alloc T_api_Inst [.int .i64 0, .slice none 0 0], none, false⟩, ⟨some 3, .mv (.const (.int .i64 0)), none, false⟩, ⟨some 4, .mv (.const (.int .i64 0)), none, false⟩])
   (.seq
    (.ops [⟨some 5, .mv (.const (.int .i64 4)), none, false⟩])
    (.seq
     (.seq
      (.ops [⟨some 11, .mv (t 0), none, false⟩, ⟨some 12, .call f_decode_find [(t 11)], none, false⟩, ⟨some 13, .lenS (t 12), none, false⟩, ⟨some 14, .mv (.const (.int .i64 0)), none, false⟩])
      (.block 0
       (.loop
        (.seq
         (.ops [⟨some 15, .bin .lss (t 14) (t 13), none, false⟩])
         (.seq
          (.cond (t 15)
           .skip
           (.exit 0))
          (.seq
           (.block 1
            (.seq
             (.ops [⟨some 16, .idxS 10 (t 12) (t 14), none, false⟩, ⟨some 17, .ld true 10 (t 16), none, false⟩, ⟨some 7, .alloc T_api_Form [.int .i64 0, .slice none 0 0, .slice none 0 0, .int .i64 0, .int .i64 0, .int .i64 0, .int .i64 0, .int .i64 0, .bool false, .int .i64 0], none, false⟩, ⟨none, .st 10 (t 7) (t 17), none, false⟩])
             (.seq
              (.ops [⟨some 19, .ld true 10 (t 7), none, false⟩, ⟨some 20, .mv (t 0), none, false⟩, ⟨some 21, .call f_decode_read [(t 19), (t 20)], none, false⟩, ⟨some 18, .mv (t 21), none, false⟩, ⟨some 22, .ext (t 18) 0, none, false⟩, ⟨some 23, .ext (t 18) 1, none, false⟩, ⟨some 24, .ext (t 18) 2, none, false⟩, ⟨some 8, .alloc T_api_Inst [.int .i64 0, .slice none 0 0], none, false⟩, ⟨none, .st 2 (t 8) (t 22), none, false⟩, ⟨some 9, .mv (t 23), none, false⟩, ⟨some 10, .mv (t 24), none, false⟩])
              (.seq
               (.ops [⟨some 25, .mv (t 10), none, false⟩])
               (.block 2
                (.seq
                 (.ops [⟨some 27, .bin .eql (t 25) (.const (.int .i64 0)), none, false⟩, ⟨some 26, .mv (t 27), none, false⟩])
                 (.cond (t 26)
                  (.seq
                   (.ops [⟨some 28, .ld true 2 (t 8), none, false⟩, ⟨some 29, .mv (t 9), none, false⟩, ⟨none, .st 2 (t 2) (t 28), none, false⟩, ⟨some 3, .mv (t 29), none, false⟩, ⟨some 4, .mv (.const (.int .i64 0)), none, false⟩])
                   .ret)
                  (.seq
                   (.ops [⟨some 31, .bin .eql (t 25) (.const (.int .i64 9)), none, false⟩, ⟨some 30, .mv (t 31), none, false⟩])
                   (.cond (t 30)
                    (.ops [⟨some 5, .mv (.const (.int .i64 9)), none, false⟩])
                    .skip)))))))))
           (.ops [⟨some 32, .bin .add (t 14) (.const (.int .i64 1)), none, false⟩, ⟨some 14, .mv (t 32), none, false⟩])))))))
     (.seq
      (.ops [⟨some 33, .build [.int .i64 0, .slice none 0 0] [], none, false⟩, ⟨some 34, .mv (t 5), none, false⟩, ⟨none, .st 2 (t 2) (t 33), none, false⟩, ⟨some 3, .mv (.const (.int .i64 0)), none, false⟩, ⟨some 4, .mv (t 34), none, false⟩])
      .ret))))
theorem comp_decode_Decode : Tryz.f37.body.bind (comp prog Tryz.f37.ntmps) = some pc_decode_Decode := by kernel_rfl
theorem in_decode_Decode {a0 : Value} {H : Heap} {k : Value → Heap → Prop} (h : H.Wf → pexec prog pc_decode_Decode ⟨Rt prog Tryz.f37 H k, noEx⟩ (Rt prog Tryz.f37 H k) (upd U 0 a0) H) : CallQ prog f_decode_Decode [a0] H k := call_in Tryz.func37 comp_decode_Decode (by kernel_rfl) (by kernel_rfl) (env1 a0) h
noncomputable abbrev F_table_Of : Func := Tryz.f68
theorem ret_table_Of (H0 H : Heap) (k : Value → Heap → Prop) (A : Env) : Rt prog Tryz.f68 H0 k A H = Ret H0 k (A 2) H := rt_1 (by kernel_rfl) (by kernel_rfl)
noncomputable def pc_table_Of : PC :=
  (.seq
   (.ops [⟨some 1, .box 3 (t 0), none, false⟩, ⟨some 2, .mv (.const (.slice none 0 0)), none, false⟩])
   (.seq
    (.ops [⟨some 3, .ld false 1 (t 1), none, false⟩, ⟨some 4, .ld false 1 (t 1), none, false⟩, ⟨some 5, .gen (.makeFunc (.func f_table_Of_1) #[] #[(t 1)]), none, false⟩, ⟨some 6, .call f_table_collect [(t 3), (t 4), (t 5)], none, false⟩, ⟨some 2, .mv (t 6), none, false⟩])
    .ret))
theorem comp_table_Of : Tryz.f68.body.bind (comp prog Tryz.f68.ntmps) = some pc_table_Of := by kernel_rfl
theorem in_table_Of {a0 : Value} {H : Heap} {k : Value → Heap → Prop} (h : H.Wf → pexec prog pc_table_Of ⟨Rt prog Tryz.f68 H k, noEx⟩ (Rt prog Tryz.f68 H k) (upd U 0 a0) H) : CallQ prog f_table_Of [a0] H k := call_in Tryz.func68 comp_table_Of (by kernel_rfl) (by kernel_rfl) (env1 a0) h
noncomputable abbrev F_decode_find : Func := Tryz.f71
theorem ret_decode_find (H0 H : Heap) (k : Value → Heap → Prop) (A : Env) : Rt prog Tryz.f71 H0 k A H = Ret H0 k (A 2) H := rt_1 (by kernel_rfl) (by kernel_rfl)
noncomputable def pc_decode_find : PC :=
  (.seq
   (.ops [⟨some 2, .mv (.const (.slice none 0 0)), none, false⟩])
   (.seq
    (.ops [⟨some 7, .call f_decode_trie [], none, false⟩, ⟨some 3, .mv (t 7), none, false⟩, ⟨some 4, .mv (.const (.bool true)), none, false⟩])
    (.seq
     (.seq
      (.ops [⟨some 8, .mv (t 0), none, false⟩, ⟨some 9, .lenS (t 8), none, false⟩, ⟨some 10, .mv (.const (.int .i64 0)), none, false⟩])
      (.block 0
       (.loop
        (.seq
         (.ops [⟨some 11, .bin .lss (t 10) (t 9), none, false⟩])
         (.seq
          (.cond (t 11)
           .skip
           (.exit 0))
          (.seq
           (.block 1
            (.seq
             (.ops [⟨some 12, .idxS 1 (t 8) (t 10), none, false⟩, ⟨some 13, .ld false 1 (t 12), none, false⟩, ⟨some 6, .mv (t 13), none, false⟩])
             (.seq
              (.seq
               (.ops [⟨some 14, .mv (t 3), none, false⟩, ⟨some 15, .call f_decode_node_open [(t 14)], none, false⟩, ⟨some 16, .not (t 15), none, false⟩])
               (.cond (t 16)
                (.exit 0)
                .skip))
              (.seq
               (.seq
                (.ops [⟨some 17, .mv (t 4), none, false⟩, ⟨some 18, .mv (t 17), none, false⟩, ⟨some 19, .mv (t 6), some (18, true), false⟩, ⟨some 20, .bin .and (t 19) (.const (.int .u8 240)), some (18, true), false⟩, ⟨some 21, .bin .eql (t 20) (.const (.int .u8 64)), some (18, true), false⟩, ⟨some 22, .pick (t 18) (t 21) (.const (.bool false)), none, false⟩])
                (.cond (t 22)
                 (.seq
                  (.ops [⟨some 4, .mv (.const (.bool false)), none, false⟩])
                  (.exit 1))
                 .skip))
               (.seq
                (.ops [⟨some 23, .mv (t 4), none, false⟩, ⟨some 24, .mv (t 23), none, false⟩, ⟨some 25, .mv (t 6), some (24, true), false⟩, ⟨some 26, .bin .eql (t 25) (.const (.int .u8 102)), some (24, true), false⟩, ⟨some 27, .mv (t 26), some (24, true), false⟩, ⟨some 28, .mv (t 6), some (27, false), false⟩, ⟨some 29, .bin .eql (t 28) (.const (.int .u8 242)), some (27, false), false⟩, ⟨some 30, .pick (t 27) (.const (.bool true)) (t 29), some (24, true), false⟩, ⟨some 31, .mv (t 30), some (24, true), false⟩, ⟨some 32, .mv (t 6), some (31, false), false⟩, ⟨some 33, .bin .eql (t 32) (.const (.int .u8 243)), some (31, false), false⟩, ⟨some 34, .pick (t 31) (.const (.bool true)) (t 33), some (24, true), false⟩, ⟨some 35, .pick (t 24) (t 34) (.const (.bool false)), none, false⟩, ⟨some 4, .mv (t 35), none, false⟩])
                (.ops [⟨some 36, .mv (t 3), none, false⟩, ⟨some 37, .mv (t 6), none, false⟩, ⟨some 38, .call f_decode_node_child [(t 36), (t 37)], none, false⟩, ⟨some 3, .mv (t 38), none, false⟩]))))))
           (.ops [⟨some 39, .bin .add (t 10) (.const (.int .i64 1)), none, false⟩, ⟨some 10, .mv (t 39), none, false⟩])))))))
     (.seq
      (.ops [⟨some 40, .mv (t 3), none, false⟩, ⟨some 41, .gen (.nilCheck (t 40)), none, false⟩, ⟨some 42, .fldA 1 (t 41), none, false⟩, ⟨some 43, .ld false 1 (t 42), none, false⟩, ⟨some 2, .mv (t 43), none, false⟩])
      .ret))))
theorem comp_decode_find : Tryz.f71.body.bind (comp prog Tryz.f71.ntmps) = some pc_decode_find := by kernel_rfl
theorem in_decode_find {a0 : Value} {H : Heap} {k : Value → Heap → Prop} (h : H.Wf → pexec prog pc_decode_find ⟨Rt prog Tryz.f71 H k, noEx⟩ (Rt prog Tryz.f71 H k) (upd U 0 a0) H) : CallQ prog f_decode_find [a0] H k := call_in Tryz.func71 comp_decode_find (by kernel_rfl) (by kernel_rfl) (env1 a0) h
noncomputable abbrev F_table_collect : Func := Tryz.f127
theorem ret_table_collect (H0 H : Heap) (k : Value → Heap → Prop) (A : Env) : Rt prog Tryz.f127 H0 k A H = Ret H0 k (A 6) H := rt_1 (by kernel_rfl) (by kernel_rfl)
noncomputable def pc_table_collect : PC :=
  (.seq
   (.ops [⟨some 6, .mv (.const (.slice none 0 0)), none, false⟩])
   (.seq
    (.ops [⟨some 7, .mv (.const (.slice none 0 0)), none, false⟩])
    (.seq
     (.seq
      (.ops [⟨some 12, .call f_table_lists [], none, false⟩, ⟨some 13, .lenS (t 12), none, false⟩, ⟨some 14, .mv (.const (.int .i64 0)), none, false⟩])
      (.block 0
       (.loop
        (.seq
         (.ops [⟨some 15, .bin .lss (t 14) (t 13), none, false⟩])
         (.seq
          (.cond (t 15)
           .skip
           (.exit 0))
          (.seq
           (.block 1
            (.seq
             (.ops [⟨some 16, .idxS 3 (t 12) (t 14), none, false⟩, ⟨some 17, .ld true 3 (t 16), none, false⟩, ⟨some 9, .alloc T_table_list [.int .i64 0, .int .i64 0, .nilFunc], none, false⟩, ⟨none, .st 3 (t 9) (t 17), none, false⟩])
             (.seq
              (.seq
               (.ops [⟨some 18, .mv (t 1), none, false⟩, ⟨some 19, .fldA 0 (t 9), none, false⟩, ⟨some 20, .ld false 1 (t 19), none, false⟩, ⟨some 21, .bin .lss (t 18) (t 20), none, false⟩, ⟨some 22, .mv (t 21), none, false⟩, ⟨some 23, .mv (t 0), some (22, false), false⟩, ⟨some 24, .fldA 1 (t 9), some (22, false), false⟩, ⟨some 25, .ld false 1 (t 24), some (22, false), false⟩, ⟨some 26, .bin .gtr (t 23) (t 25), some (22, false), false⟩, ⟨some 27, .pick (t 22) (.const (.bool true)) (t 26), none, false⟩])
               (.cond (t 27)
                (.exit 1)
                .skip))
              (.seq
               (.ops [⟨some 28, .fldA 2 (t 9), none, false⟩, ⟨some 29, .ld false 1 (t 28), none, false⟩, ⟨some 30, .callv (t 29) [], none, false⟩, ⟨some 31, .lenS (t 30), none, false⟩, ⟨some 32, .mv (.const (.int .i64 0)), none, false⟩])
               (.block 2
                (.loop
                 (.seq
                  (.ops [⟨some 33, .bin .lss (t 32) (t 31), none, false⟩])
                  (.seq
                   (.cond (t 33)
                    .skip
                    (.exit 2))
                   (.seq
                    (.block 3
                     (.seq
                      (.ops [⟨some 34, .idxS 10 (t 30) (t 32), none, false⟩, ⟨some 35, .ld true 10 (t 34), none, false⟩, ⟨some 11, .alloc T_api_Form [.int .i64 0, .slice none 0 0, .slice none 0 0, .int .i64 0, .int .i64 0, .int .i64 0, .int .i64 0, .int .i64 0, .bool false, .int .i64 0], none, false⟩, ⟨none, .st 10 (t 11) (t 35), none, false⟩])
                      (.seq
                       (.ops [⟨some 36, .mv (t 2), none, false⟩, ⟨some 37, .ld true 10 (t 11), none, false⟩, ⟨some 38, .callv (t 36) [(t 37)], none, false⟩])
                       (.cond (t 38)
                        (.ops [⟨some 39, .mv (t 7), none, false⟩, ⟨some 40, .ld true 10 (t 11), none, false⟩, ⟨some 41, .bslice T_api_Form 10 1 [.int .i64 0, .slice none 0 0, .slice none 0 0, .int .i64 0, .int .i64 0, .int .i64 0, .int .i64 0, .int .i64 0, .bool false, .int .i64 0] [(0, (t 40))], none, false⟩, ⟨some 42, .app T_api_Form 10 112 (t 39) (t 41), none, false⟩, ⟨some 7, .mv (t 42), none, false⟩])
                        .skip))))
                    (.ops [⟨some 43, .bin .add (t 32) (.const (.int .i64 1)), none, false⟩, ⟨some 32, .mv (t 43), none, false⟩]))))))))))
           (.ops [⟨some 44, .bin .add (t 14) (.const (.int .i64 1)), none, false⟩, ⟨some 14, .mv (t 44), none, false⟩])))))))
     (.seq
      (.ops [⟨some 45, .mv (t 7), none, false⟩, ⟨some 6, .mv (t 45), none, false⟩])
      .ret))))
theorem comp_table_collect : Tryz.f127.body.bind (comp prog Tryz.f127.ntmps) = some pc_table_collect := by kernel_rfl
theorem in_table_collect {a0 a1 a2 : Value} {H : Heap} {k : Value → Heap → Prop} (h : H.Wf → pexec prog pc_table_collect ⟨Rt prog Tryz.f127 H k, noEx⟩ (Rt prog Tryz.f127 H k) (upd (upd (upd U 0 a0) 1 a1) 2 a2) H) : CallQ prog f_table_collect [a0, a1, a2] H k := call_in Tryz.func127 comp_table_collect (by kernel_rfl) (by kernel_rfl) (env3 a0 a1 a2) h
noncomputable abbrev F_table_Of_1 : Func := Tryz.f128
theorem ret_table_Of_1 (H0 H : Heap) (k : Value → Heap → Prop) (A : Env) : Rt prog Tryz.f128 H0 k A H = Ret H0 k (A 3) H := rt_1 (by kernel_rfl) (by kernel_rfl)
noncomputable def pc_table_Of_1 : PC :=
  (.seq
   (.ops [⟨some 2, .box T_api_Form (t 0), none, false⟩, ⟨some 3, .mv (.const (.bool false)), none, false⟩])
   (.seq
    (.ops [⟨some 4, .fldA 0 (t 2), none, false⟩, ⟨some 5, .ld false 1 (t 4), none, false⟩, ⟨some 6, .ld false 1 (t 1), none, false⟩, ⟨some 7, .bin .eql (t 5) (t 6), none, false⟩, ⟨some 3, .mv (t 7), none, false⟩])
    .ret))
theorem comp_table_Of_1 : Tryz.f128.body.bind (comp prog Tryz.f128.ntmps) = some pc_table_Of_1 := by kernel_rfl
theorem in_table_Of_1 {a0 a1 : Value} {H : Heap} {k : Value → Heap → Prop} (h : H.Wf → pexec prog pc_table_Of_1 ⟨Rt prog Tryz.f128 H k, noEx⟩ (Rt prog Tryz.f128 H k) (upd (upd U 0 a0) 1 a1) H) : CallQ prog f_table_Of_1 [a0, a1] H k := call_in Tryz.func128 comp_table_Of_1 (by kernel_rfl) (by kernel_rfl) (env2 a0 a1) h
noncomputable abbrev F_decode_trie : Func := Tryz.f132
theorem ret_decode_trie (H0 H : Heap) (k : Value → Heap → Prop) (A : Env) : Rt prog Tryz.f132 H0 k A H = Ret H0 k (A 0) H := rt_1 (by kernel_rfl) (by kernel_rfl)
noncomputable def pc_decode_trie : PC :=
  (.seq
   (.ops [⟨some 0, .mv (.const (.pointer none)), none, false⟩])
   (.seq
    (.ops [⟨some 1, .call f_table_Rows [], none, false⟩, ⟨some 2, .gen (.makeMap 249 none), none, false⟩, ⟨some 3, .build [.int .i64 0, .slice none 0 0, .map none] [(1, 1, (t 1)), (2, 1, (t 2))], none, false⟩, ⟨some 4, .box T_decode_node (t 3), none, false⟩, ⟨some 0, .mv (t 4), none, false⟩])
    .ret))
theorem comp_decode_trie : Tryz.f132.body.bind (comp prog Tryz.f132.ntmps) = some pc_decode_trie := by kernel_rfl
theorem in_decode_trie {H : Heap} {k : Value → Heap → Prop} (h : H.Wf → pexec prog pc_decode_trie ⟨Rt prog Tryz.f132 H k, noEx⟩ (Rt prog Tryz.f132 H k) U H) : CallQ prog f_decode_trie [] H k := call_in Tryz.func132 comp_decode_trie (by kernel_rfl) (by kernel_rfl) env0 h
noncomputable abbrev F_decode_node_open : Func := Tryz.f133
theorem ret_decode_node_open (H0 H : Heap) (k : Value → Heap → Prop) (A : Env) : Rt prog Tryz.f133 H0 k A H = Ret H0 k (A 2) H := rt_1 (by kernel_rfl) (by kernel_rfl)
noncomputable def pc_decode_node_open : PC :=
  (.seq
   (.ops [⟨some 2, .mv (.const (.bool false)), none, false⟩])
   (.seq
    (.seq
     (.ops [⟨some 4, .mv (t 0), none, false⟩, ⟨some 5, .gen (.nilCheck (t 4)), none, false⟩, ⟨some 6, .fldA 1 (t 5), none, false⟩, ⟨some 7, .ld false 1 (t 6), none, false⟩, ⟨some 8, .lenS (t 7), none, false⟩, ⟨some 9, .bin .eql (t 8) (.const (.int .i64 0)), none, false⟩])
     (.cond (t 9)
      (.seq
       (.ops [⟨some 2, .mv (.const (.bool false)), none, false⟩])
       .ret)
      .skip))
    (.seq
     (.seq
      (.ops [⟨some 10, .mv (t 0), none, false⟩, ⟨some 11, .gen (.nilCheck (t 10)), none, false⟩, ⟨some 12, .fldA 1 (t 11), none, false⟩, ⟨some 13, .ld false 1 (t 12), none, false⟩, ⟨some 14, .idxS 10 (t 13) (.const (.int .i64 0)), none, false⟩, ⟨some 15, .ld true 10 (t 14), none, false⟩, ⟨some 3, .alloc T_api_Form [.int .i64 0, .slice none 0 0, .slice none 0 0, .int .i64 0, .int .i64 0, .int .i64 0, .int .i64 0, .int .i64 0, .bool false, .int .i64 0], none, false⟩, ⟨none, .st 10 (t 3) (t 15), none, false⟩])
      (.seq
       (.ops [⟨some 16, .fldA 8 (t 3), none, false⟩, ⟨some 17, .ld false 1 (t 16), none, false⟩, ⟨some 18, .not (t 17), none, false⟩])
       (.cond (t 18)
        (.seq
         (.ops [⟨some 19, .mv (t 0), none, false⟩, ⟨some 20, .gen (.nilCheck (t 19)), none, false⟩, ⟨some 21, .fldA 0 (t 20), none, false⟩, ⟨some 22, .ld false 1 (t 21), none, true⟩, ⟨some 23, .ld true 10 (t 3), none, false⟩, ⟨some 24, .callF f_decode_lead [(t 23)] [], none, true⟩, ⟨some 25, .lenT (t 24), none, false⟩, ⟨some 26, .bin .leq (t 22) (t 25), none, false⟩, ⟨some 2, .mv (t 26), none, false⟩])
         .ret)
        .skip)))
     (.seq
      (.ops [⟨some 27, .mv (t 0), none, false⟩, ⟨some 28, .gen (.nilCheck (t 27)), none, false⟩, ⟨some 29, .fldA 0 (t 28), none, false⟩, ⟨some 30, .ld false 1 (t 29), none, false⟩, ⟨some 31, .bin .eql (t 30) (.const (.int .i64 0)), none, false⟩, ⟨some 2, .mv (t 31), none, false⟩])
      .ret))))
theorem comp_decode_node_open : Tryz.f133.body.bind (comp prog Tryz.f133.ntmps) = some pc_decode_node_open := by kernel_rfl
theorem in_decode_node_open {a0 : Value} {H : Heap} {k : Value → Heap → Prop} (h : H.Wf → pexec prog pc_decode_node_open ⟨Rt prog Tryz.f133 H k, noEx⟩ (Rt prog Tryz.f133 H k) (upd U 0 a0) H) : CallQ prog f_decode_node_open [a0] H k := call_in Tryz.func133 comp_decode_node_open (by kernel_rfl) (by kernel_rfl) (env1 a0) h
noncomputable abbrev F_decode_node_child : Func := Tryz.f134
theorem ret_decode_node_child (H0 H : Heap) (k : Value → Heap → Prop) (A : Env) : Rt prog Tryz.f134 H0 k A H = Ret H0 k (A 4) H := rt_1 (by kernel_rfl) (by kernel_rfl)
noncomputable def pc_decode_node_child : PC :=
  (.seq
   (.ops [⟨some 4, .mv (.const (.pointer none)), none, false⟩])
   (.seq
    (.seq
     (.ops [⟨some 11, .mv (t 0), none, false⟩, ⟨some 12, .gen (.nilCheck (t 11)), none, false⟩, ⟨some 13, .fldA 2 (t 12), none, false⟩, ⟨some 14, .ld false 1 (t 13), none, false⟩, ⟨some 15, .mv (t 1), none, false⟩, ⟨some 16, .gen (.lookup 249 (t 14) (t 15) true), none, false⟩, ⟨some 10, .mv (t 16), none, false⟩, ⟨some 17, .ext (t 10) 0, none, false⟩, ⟨some 18, .ext (t 10) 1, none, false⟩, ⟨some 5, .mv (t 17), none, false⟩, ⟨some 6, .mv (t 18), none, false⟩])
     (.seq
      (.ops [⟨some 19, .mv (t 6), none, false⟩])
      (.cond (t 19)
       (.seq
        (.ops [⟨some 20, .mv (t 5), none, false⟩, ⟨some 4, .mv (t 20), none, false⟩])
        .ret)
       .skip)))
    (.seq
     (.ops [⟨some 21, .mv (t 0), none, false⟩, ⟨some 22, .gen (.nilCheck (t 21)), none, false⟩, ⟨some 23, .fldA 0 (t 22), none, false⟩, ⟨some 24, .ld false 1 (t 23), none, false⟩, ⟨some 25, .bin .add (t 24) (.const (.int .i64 1)), none, false⟩, ⟨some 26, .gen (.makeMap 249 none), none, false⟩, ⟨some 27, .build [.int .i64 0, .slice none 0 0, .map none] [(0, 1, (t 25)), (2, 1, (t 26))], none, false⟩, ⟨some 28, .box T_decode_node (t 27), none, false⟩, ⟨some 7, .mv (t 28), none, false⟩])
     (.seq
      (.seq
       (.ops [⟨some 29, .mv (t 0), none, false⟩, ⟨some 30, .gen (.nilCheck (t 29)), none, false⟩, ⟨some 31, .fldA 1 (t 30), none, false⟩, ⟨some 32, .ld false 1 (t 31), none, false⟩, ⟨some 33, .lenS (t 32), none, false⟩, ⟨some 34, .mv (.const (.int .i64 0)), none, false⟩])
       (.block 0
        (.loop
         (.seq
          (.ops [⟨some 35, .bin .lss (t 34) (t 33), none, false⟩])
          (.seq
           (.cond (t 35)
            .skip
            (.exit 0))
           (.seq
            (.block 1
             (.seq
              (.ops [⟨some 36, .idxS 10 (t 32) (t 34), none, false⟩, ⟨some 37, .ld true 10 (t 36), none, false⟩, ⟨some 9, .alloc T_api_Form [.int .i64 0, .slice none 0 0, .slice none 0 0, .int .i64 0, .int .i64 0, .int .i64 0, .int .i64 0, .int .i64 0, .bool false, .int .i64 0], none, false⟩, ⟨none, .st 10 (t 9) (t 37), none, false⟩])
              (.seq
               (.ops [⟨some 38, .ld true 10 (t 9), none, false⟩, ⟨some 39, .mv (t 0), none, false⟩, ⟨some 40, .gen (.nilCheck (t 39)), none, false⟩, ⟨some 41, .fldA 0 (t 40), none, false⟩, ⟨some 42, .ld false 1 (t 41), none, false⟩, ⟨some 43, .mv (t 1), none, false⟩, ⟨some 44, .call f_decode_takes [(t 38), (t 42), (t 43)], none, false⟩])
               (.cond (t 44)
                (.ops [⟨some 45, .mv (t 7), none, false⟩, ⟨some 46, .mv (t 7), none, false⟩, ⟨some 47, .gen (.nilCheck (t 46)), none, false⟩, ⟨some 48, .fldA 1 (t 47), none, false⟩, ⟨some 49, .ld false 1 (t 48), none, false⟩, ⟨some 50, .ld true 10 (t 9), none, false⟩, ⟨some 51, .bslice T_api_Form 10 1 [.int .i64 0, .slice none 0 0, .slice none 0 0, .int .i64 0, .int .i64 0, .int .i64 0, .int .i64 0, .int .i64 0, .bool false, .int .i64 0] [(0, (t 50))], none, false⟩, ⟨some 52, .app T_api_Form 10 112 (t 49) (t 51), none, false⟩, ⟨some 53, .gen (.nilCheck (t 45)), none, false⟩, ⟨some 54, .fldA 1 (t 53), none, false⟩, ⟨none, .st 1 (t 54) (t 52), none, false⟩])
                .skip))))
            (.ops [⟨some 55, .bin .add (t 34) (.const (.int .i64 1)), none, false⟩, ⟨some 34, .mv (t 55), none, false⟩])))))))
      (.seq
       (.ops [⟨some 56, .mv (t 0), none, false⟩, ⟨some 57, .gen (.nilCheck (t 56)), none, false⟩, ⟨some 58, .fldA 2 (t 57), none, false⟩, ⟨some 59, .ld false 1 (t 58), none, false⟩, ⟨some 60, .mv (t 1), none, false⟩, ⟨some 61, .mv (t 7), none, false⟩, ⟨none, .gen (.mapUpdate 249 (t 59) (t 60) (t 61)), none, false⟩])
       (.seq
        (.ops [⟨some 62, .mv (t 7), none, false⟩, ⟨some 4, .mv (t 62), none, false⟩])
        .ret))))))
theorem comp_decode_node_child : Tryz.f134.body.bind (comp prog Tryz.f134.ntmps) = some pc_decode_node_child := by kernel_rfl
theorem in_decode_node_child {a0 a1 : Value} {H : Heap} {k : Value → Heap → Prop} (h : H.Wf → pexec prog pc_decode_node_child ⟨Rt prog Tryz.f134 H k, noEx⟩ (Rt prog Tryz.f134 H k) (upd (upd U 0 a0) 1 a1) H) : CallQ prog f_decode_node_child [a0, a1] H k := call_in Tryz.func134 comp_decode_node_child (by kernel_rfl) (by kernel_rfl) (env2 a0 a1) h
noncomputable abbrev F_table_lists : Func := Tryz.f202
theorem ret_table_lists (H0 H : Heap) (k : Value → Heap → Prop) (A : Env) : Rt prog Tryz.f202 H0 k A H = Ret H0 k (A 0) H := rt_1 (by kernel_rfl) (by kernel_rfl)
noncomputable def pc_table_lists : PC :=
  (.seq
   (.ops [⟨some 0, .mv (.const (.slice none 0 0)), none, false⟩])
   (.seq
    (.ops [⟨some 1, .build [.int .i64 0, .int .i64 0, .nilFunc] [(0, 1, (.const (.int .i64 1))), (1, 1, (.const (.int .i64 16))), (2, 1, (.func f_alu_Rows))], none, false⟩, ⟨some 2, .build [.int .i64 0, .int .i64 0, .nilFunc] [(0, 1, (.const (.int .i64 16))), (1, 1, (.const (.int .i64 47))), (2, 1, (.func f_unary_Rows))], none, false⟩, ⟨some 3, .build [.int .i64 0, .int .i64 0, .nilFunc] [(0, 1, (.const (.int .i64 48))), (1, 1, (.const (.int .i64 115))), (2, 1, (.func f_flow_Rows))], none, false⟩, ⟨some 4, .build [.int .i64 0, .int .i64 0, .nilFunc] [(0, 1, (.const (.int .i64 116))), (1, 1, (.const (.int .i64 135))), (2, 1, (.func f_bits_Rows))], none, false⟩, ⟨some 5, .build [.int .i64 0, .int .i64 0, .nilFunc] [(0, 1, (.const (.int .i64 136))), (1, 1, (.const (.int .i64 262))), (2, 1, (.func f_sse_Rows))], none, false⟩, ⟨some 6, .build [.int .i64 0, .int .i64 0, .nilFunc] [(0, 1, (.const (.int .i64 263))), (1, 1, (.const (.int .i64 322))), (2, 1, (.func f_avx_Rows))], none, false⟩, ⟨some 7, .bslice T_table_list 3 6 [.int .i64 0, .int .i64 0, .nilFunc, .int .i64 0, .int .i64 0, .nilFunc, .int .i64 0, .int .i64 0, .nilFunc, .int .i64 0, .int .i64 0, .nilFunc, .int .i64 0, .int .i64 0, .nilFunc, .int .i64 0, .int .i64 0, .nilFunc] [(0, (t 1)), (1, (t 2)), (2, (t 3)), (3, (t 4)), (4, (t 5)), (5, (t 6))], none, false⟩, ⟨some 0, .mv (t 7), none, false⟩])
    .ret))
theorem comp_table_lists : Tryz.f202.body.bind (comp prog Tryz.f202.ntmps) = some pc_table_lists := by kernel_rfl
theorem in_table_lists {H : Heap} {k : Value → Heap → Prop} (h : H.Wf → pexec prog pc_table_lists ⟨Rt prog Tryz.f202 H k, noEx⟩ (Rt prog Tryz.f202 H k) U H) : CallQ prog f_table_lists [] H k := call_in Tryz.func202 comp_table_lists (by kernel_rfl) (by kernel_rfl) env0 h
noncomputable abbrev F_slices_Index_int_int : Func := Tryz.f207
theorem ret_slices_Index_int_int (H0 H : Heap) (k : Value → Heap → Prop) (A : Env) : Rt prog Tryz.f207 H0 k A H = Ret H0 k (A 4) H := rt_1 (by kernel_rfl) (by kernel_rfl)
noncomputable def pc_slices_Index_int_int : PC :=
  (.seq
   (.ops [⟨some 4, .mv (.const (.int .i64 0)), none, false⟩])
   (.seq
    (.seq
     (.ops [⟨some 6, .mv (t 0), none, false⟩, ⟨some 7, .lenS (t 6), none, false⟩, ⟨some 8, .mv (.const (.int .i64 0)), none, false⟩])
     (.block 0
      (.loop
       (.seq
        (.ops [⟨some 9, .bin .lss (t 8) (t 7), none, false⟩])
        (.seq
         (.cond (t 9)
          .skip
          (.exit 0))
         (.seq
          (.block 1
           (.seq
            (.ops [⟨some 10, .mv (t 8), none, false⟩, ⟨some 5, .mv (t 10), none, false⟩])
            (.seq
             (.ops [⟨some 11, .mv (t 1), none, false⟩, ⟨some 12, .mv (t 0), none, false⟩, ⟨some 13, .mv (t 5), none, false⟩, ⟨some 14, .idxS 1 (t 12) (t 13), none, false⟩, ⟨some 15, .ld false 1 (t 14), none, false⟩, ⟨some 16, .bin .eql (t 11) (t 15), none, false⟩])
             (.cond (t 16)
              (.seq
               (.ops [⟨some 17, .mv (t 5), none, false⟩, ⟨some 4, .mv (t 17), none, false⟩])
               .ret)
              .skip))))
          (.ops [⟨some 18, .bin .add (t 8) (.const (.int .i64 1)), none, false⟩, ⟨some 8, .mv (t 18), none, false⟩])))))))
    (.seq
     (.ops [⟨some 4, .mv (.const (.int .i64 (-1))), none, false⟩])
     .ret)))
theorem comp_slices_Index_int_int : Tryz.f207.body.bind (comp prog Tryz.f207.ntmps) = some pc_slices_Index_int_int := by kernel_rfl
theorem in_slices_Index_int_int {a0 a1 : Value} {H : Heap} {k : Value → Heap → Prop} (h : H.Wf → pexec prog pc_slices_Index_int_int ⟨Rt prog Tryz.f207 H k, noEx⟩ (Rt prog Tryz.f207 H k) (upd (upd U 0 a0) 1 a1) H) : CallQ prog f_slices_Index_int_int [a0, a1] H k := call_in Tryz.func207 comp_slices_Index_int_int (by kernel_rfl) (by kernel_rfl) (env2 a0 a1) h
noncomputable abbrev F_table_Rows : Func := Tryz.f208
theorem ret_table_Rows (H0 H : Heap) (k : Value → Heap → Prop) (A : Env) : Rt prog Tryz.f208 H0 k A H = Ret H0 k (A 0) H := rt_1 (by kernel_rfl) (by kernel_rfl)
noncomputable def pc_table_Rows : PC :=
  (.seq
   (.ops [⟨some 0, .mv (.const (.slice none 0 0)), none, false⟩])
   (.seq
    (.ops [⟨some 1, .call f_table_collect [(.const (.int .i64 1)), (.const (.int .i64 322)), (.func f_table_Rows_1)], none, false⟩, ⟨some 0, .mv (t 1), none, false⟩])
    .ret))
theorem comp_table_Rows : Tryz.f208.body.bind (comp prog Tryz.f208.ntmps) = some pc_table_Rows := by kernel_rfl
theorem in_table_Rows {H : Heap} {k : Value → Heap → Prop} (h : H.Wf → pexec prog pc_table_Rows ⟨Rt prog Tryz.f208 H k, noEx⟩ (Rt prog Tryz.f208 H k) U H) : CallQ prog f_table_Rows [] H k := call_in Tryz.func208 comp_table_Rows (by kernel_rfl) (by kernel_rfl) env0 h
noncomputable abbrev F_decode_lead : Func := Tryz.f209
theorem ret_decode_lead (H0 H : Heap) (k : Value → Heap → Prop) (A : Env) : Rt prog Tryz.f209 H0 k A H = Ret H0 k (A 2) H := rt_1 (by kernel_rfl) (by kernel_rfl)
noncomputable def pc_decode_lead : PC :=
  (.seq
   (.ops [⟨some 1, .box T_api_Form (t 0), none, false⟩, ⟨some 2, .mv (.const (.string (mkS []))), none, false⟩])
   (.seq
    (.ops [⟨some 3, .mv (.const (.string (mkS []))), none, false⟩])
    (.seq
     (.seq
      (.ops [⟨some 4, .fldA 3 (t 1), none, false⟩, ⟨some 5, .ld false 1 (t 4), none, false⟩, ⟨some 6, .bin .and (t 5) (.const (.int .i64 1)), none, false⟩, ⟨some 7, .bin .neq (t 6) (.const (.int .i64 0)), none, false⟩])
      (.cond (t 7)
       (.ops [⟨some 8, .mv (t 3), none, false⟩, ⟨some 9, .bin .add (t 8) (.const (.string (mkS [102]))), none, false⟩, ⟨some 3, .mv (t 9), none, false⟩])
       .skip))
     (.seq
      (.seq
       (.ops [⟨some 10, .fldA 3 (t 1), none, false⟩, ⟨some 11, .ld false 1 (t 10), none, false⟩, ⟨some 12, .bin .and (t 11) (.const (.int .i64 2)), none, false⟩, ⟨some 13, .bin .neq (t 12) (.const (.int .i64 0)), none, false⟩])
       (.cond (t 13)
        (.ops [⟨some 14, .mv (t 3), none, false⟩, ⟨some 15, .bin .add (t 14) (.const (.string (mkS [242]))), none, false⟩, ⟨some 3, .mv (t 15), none, false⟩])
        .skip))
      (.seq
       (.seq
        (.ops [⟨some 16, .fldA 3 (t 1), none, false⟩, ⟨some 17, .ld false 1 (t 16), none, false⟩, ⟨some 18, .bin .and (t 17) (.const (.int .i64 4)), none, false⟩, ⟨some 19, .bin .neq (t 18) (.const (.int .i64 0)), none, false⟩])
        (.cond (t 19)
         (.ops [⟨some 20, .mv (t 3), none, false⟩, ⟨some 21, .bin .add (t 20) (.const (.string (mkS [243]))), none, false⟩, ⟨some 3, .mv (t 21), none, false⟩])
         .skip))
       (.seq
        (.ops [⟨some 22, .mv (t 3), none, false⟩, ⟨some 23, .fldA 4 (t 1), none, false⟩, ⟨some 24, .ld false 1 (t 23), none, false⟩, ⟨some 25, .call f_decode_escape [(t 24)], none, false⟩, ⟨some 26, .bin .add (t 22) (t 25), none, false⟩, ⟨some 2, .mv (t 26), none, false⟩])
        .ret))))))
theorem comp_decode_lead : Tryz.f209.body.bind (comp prog Tryz.f209.ntmps) = some pc_decode_lead := by kernel_rfl
theorem in_decode_lead {a0 : Value} {H : Heap} {k : Value → Heap → Prop} (h : H.Wf → pexec prog pc_decode_lead ⟨Rt prog Tryz.f209 H k, noEx⟩ (Rt prog Tryz.f209 H k) (upd U 0 a0) H) : CallQ prog f_decode_lead [a0] H k := call_in Tryz.func209 comp_decode_lead (by kernel_rfl) (by kernel_rfl) (env1 a0) h
noncomputable abbrev F_decode_takes : Func := Tryz.f210
theorem ret_decode_takes (H0 H : Heap) (k : Value → Heap → Prop) (A : Env) : Rt prog Tryz.f210 H0 k A H = Ret H0 k (A 6) H := rt_1 (by kernel_rfl) (by kernel_rfl)
noncomputable def pc_decode_takes : PC :=
  (.seq
   (.ops [⟨some 3, .box T_api_Form (t 0), none, false⟩, ⟨some 6, .mv (.const (.bool false)), none, false⟩])
   (.seq
    (.seq
     (.ops [⟨some 8, .fldA 8 (t 3), none, false⟩, ⟨some 9, .ld false 1 (t 8), none, false⟩])
     (.cond (t 9)
      (.seq
       (.ops [⟨some 10, .mv (t 1), none, false⟩, ⟨some 11, .bin .eql (t 10) (.const (.int .i64 0)), none, false⟩, ⟨some 12, .mv (t 11), none, false⟩, ⟨some 13, .mv (t 2), some (12, true), false⟩, ⟨some 14, .bin .eql (t 13) (.const (.int .u8 196)), some (12, true), false⟩, ⟨some 15, .mv (t 14), some (12, true), false⟩, ⟨some 16, .mv (t 2), some (15, false), false⟩, ⟨some 17, .bin .eql (t 16) (.const (.int .u8 197)), some (15, false), false⟩, ⟨some 18, .mv (t 17), some (15, false), false⟩, ⟨some 19, .fldA 4 (t 3), some (18, true), false⟩, ⟨some 20, .ld false 1 (t 19), some (18, true), false⟩, ⟨some 21, .bin .eql (t 20) (.const (.int .i64 1)), some (18, true), false⟩, ⟨some 22, .pick (t 18) (t 21) (.const (.bool false)), some (15, false), false⟩, ⟨some 23, .mv (t 22), some (15, false), false⟩, ⟨some 24, .fldA 7 (t 3), some (23, true), false⟩, ⟨some 25, .ld false 1 (t 24), some (23, true), false⟩, ⟨some 26, .bin .neq (t 25) (.const (.int .i64 1)), some (23, true), false⟩, ⟨some 27, .pick (t 23) (t 26) (.const (.bool false)), some (15, false), false⟩, ⟨some 28, .pick (t 15) (.const (.bool true)) (t 27), some (12, true), false⟩, ⟨some 29, .pick (t 12) (t 28) (.const (.bool false)), none, false⟩, ⟨some 6, .mv (t 29), none, false⟩])
       .ret)
      .skip))
    (.seq
     (.ops [⟨some 30, .ld true 10 (t 3), none, false⟩, ⟨some 31, .call f_decode_lead [(t 30)], none, false⟩, ⟨some 7, .mv (t 31), none, false⟩])
     (.seq
      (.block 0
       (.seq
        (.ops [⟨some 33, .mv (t 1), none, false⟩, ⟨some 34, .mv (t 7), none, false⟩, ⟨some 35, .lenT (t 34), none, false⟩, ⟨some 36, .bin .lss (t 33) (t 35), none, false⟩, ⟨some 32, .mv (t 36), none, false⟩])
        (.cond (t 32)
         (.seq
          (.ops [⟨some 37, .mv (t 2), none, false⟩, ⟨some 38, .mv (t 7), none, false⟩, ⟨some 39, .mv (t 1), none, false⟩, ⟨some 40, .chr (t 38) (t 39), none, false⟩, ⟨some 41, .bin .eql (t 37) (t 40), none, false⟩, ⟨some 6, .mv (t 41), none, false⟩])
          .ret)
         (.seq
          (.ops [⟨some 43, .mv (t 1), none, false⟩, ⟨some 44, .mv (t 7), none, false⟩, ⟨some 45, .lenT (t 44), none, false⟩, ⟨some 46, .bin .gtr (t 43) (t 45), none, false⟩, ⟨some 42, .mv (t 46), none, false⟩])
          (.cond (t 42)
           (.seq
            (.ops [⟨some 6, .mv (.const (.bool false)), none, false⟩])
            .ret)
           (.seq
            (.ops [⟨some 48, .ld true 10 (t 3), none, false⟩, ⟨some 49, .call f_shape_Slot [(t 48), (.const (.int .i64 4))], none, false⟩, ⟨some 50, .bin .geq (t 49) (.const (.int .i64 0)), none, false⟩, ⟨some 47, .mv (t 50), none, false⟩])
            (.cond (t 47)
             (.seq
              (.ops [⟨some 51, .mv (t 2), none, false⟩, ⟨some 52, .bin .andNot (t 51) (.const (.int .u8 7)), none, false⟩, ⟨some 53, .toInt .i64 (t 52), none, false⟩, ⟨some 54, .fldA 5 (t 3), none, false⟩, ⟨some 55, .ld false 1 (t 54), none, false⟩, ⟨some 56, .bin .eql (t 53) (t 55), none, false⟩, ⟨some 6, .mv (t 56), none, false⟩])
              .ret)
             .skip)))))))
      (.seq
       (.ops [⟨some 57, .mv (t 2), none, false⟩, ⟨some 58, .toInt .i64 (t 57), none, false⟩, ⟨some 59, .fldA 5 (t 3), none, false⟩, ⟨some 60, .ld false 1 (t 59), none, false⟩, ⟨some 61, .bin .eql (t 58) (t 60), none, false⟩, ⟨some 6, .mv (t 61), none, false⟩])
       .ret)))))
theorem comp_decode_takes : Tryz.f210.body.bind (comp prog Tryz.f210.ntmps) = some pc_decode_takes := by kernel_rfl
theorem in_decode_takes {a0 a1 a2 : Value} {H : Heap} {k : Value → Heap → Prop} (h : H.Wf → pexec prog pc_decode_takes ⟨Rt prog Tryz.f210 H k, noEx⟩ (Rt prog Tryz.f210 H k) (upd (upd (upd U 0 a0) 1 a1) 2 a2) H) : CallQ prog f_decode_takes [a0, a1, a2] H k := call_in Tryz.func210 comp_decode_takes (by kernel_rfl) (by kernel_rfl) (env3 a0 a1 a2) h
noncomputable abbrev F_shape_Slot : Func := Tryz.f213
theorem ret_shape_Slot (H0 H : Heap) (k : Value → Heap → Prop) (A : Env) : Rt prog Tryz.f213 H0 k A H = Ret H0 k (A 4) H := rt_1 (by kernel_rfl) (by kernel_rfl)
noncomputable def pc_shape_Slot : PC :=
  (.seq
   (.ops [⟨some 2, .box T_api_Form (t 0), none, false⟩, ⟨some 4, .mv (.const (.int .i64 0)), none, false⟩])
   (.seq
    (.ops [⟨some 5, .fldA 2 (t 2), none, false⟩, ⟨some 6, .ld false 1 (t 5), none, false⟩, ⟨some 7, .mv (t 1), none, false⟩, ⟨some 8, .call f_slices_Index_int_int [(t 6), (t 7)], none, false⟩, ⟨some 4, .mv (t 8), none, false⟩])
    .ret))
theorem comp_shape_Slot : Tryz.f213.body.bind (comp prog Tryz.f213.ntmps) = some pc_shape_Slot := by kernel_rfl
theorem in_shape_Slot {a0 a1 : Value} {H : Heap} {k : Value → Heap → Prop} (h : H.Wf → pexec prog pc_shape_Slot ⟨Rt prog Tryz.f213 H k, noEx⟩ (Rt prog Tryz.f213 H k) (upd (upd U 0 a0) 1 a1) H) : CallQ prog f_shape_Slot [a0, a1] H k := call_in Tryz.func213 comp_shape_Slot (by kernel_rfl) (by kernel_rfl) (env2 a0 a1) h
noncomputable abbrev F_table_Rows_1 : Func := Tryz.f298
theorem ret_table_Rows_1 (H0 H : Heap) (k : Value → Heap → Prop) (A : Env) : Rt prog Tryz.f298 H0 k A H = Ret H0 k (A 2) H := rt_1 (by kernel_rfl) (by kernel_rfl)
noncomputable def pc_table_Rows_1 : PC :=
  (.seq
   (.ops [⟨some 1, .box T_api_Form (t 0), none, false⟩, ⟨some 2, .mv (.const (.bool false)), none, false⟩])
   (.seq
    (.ops [⟨some 2, .mv (.const (.bool true)), none, false⟩])
    .ret))
theorem comp_table_Rows_1 : Tryz.f298.body.bind (comp prog Tryz.f298.ntmps) = some pc_table_Rows_1 := by kernel_rfl
theorem in_table_Rows_1 {a0 : Value} {H : Heap} {k : Value → Heap → Prop} (h : H.Wf → pexec prog pc_table_Rows_1 ⟨Rt prog Tryz.f298 H k, noEx⟩ (Rt prog Tryz.f298 H k) (upd U 0 a0) H) : CallQ prog f_table_Rows_1 [a0] H k := call_in Tryz.func298 comp_table_Rows_1 (by kernel_rfl) (by kernel_rfl) (env1 a0) h
noncomputable abbrev F_decode_escape : Func := Tryz.f299
theorem ret_decode_escape (H0 H : Heap) (k : Value → Heap → Prop) (A : Env) : Rt prog Tryz.f299 H0 k A H = Ret H0 k (A 2) H := rt_1 (by kernel_rfl) (by kernel_rfl)
noncomputable def pc_decode_escape : PC :=
  (.seq
   (.ops [⟨some 2, .mv (.const (.string (mkS []))), none, false⟩])
   (.seq
    (.seq
     (.ops [⟨some 3, .mv (t 0), none, false⟩])
     (.block 0
      (.seq
       (.ops [⟨some 5, .bin .eql (t 3) (.const (.int .i64 1)), none, false⟩, ⟨some 4, .mv (t 5), none, false⟩])
       (.cond (t 4)
        (.seq
         (.ops [⟨some 2, .mv (.const (.string (mkS [15]))), none, false⟩])
         .ret)
        (.seq
         (.ops [⟨some 7, .bin .eql (t 3) (.const (.int .i64 2)), none, false⟩, ⟨some 6, .mv (t 7), none, false⟩])
         (.cond (t 6)
          (.seq
           (.ops [⟨some 2, .mv (.const (.string (mkS [15, 56]))), none, false⟩])
           .ret)
          (.seq
           (.ops [⟨some 9, .bin .eql (t 3) (.const (.int .i64 3)), none, false⟩, ⟨some 8, .mv (t 9), none, false⟩])
           (.cond (t 8)
            (.seq
             (.ops [⟨some 2, .mv (.const (.string (mkS [15, 58]))), none, false⟩])
             .ret)
            .skip))))))))
    (.seq
     (.ops [⟨some 2, .mv (.const (.string (mkS []))), none, false⟩])
     .ret)))
theorem comp_decode_escape : Tryz.f299.body.bind (comp prog Tryz.f299.ntmps) = some pc_decode_escape := by kernel_rfl
theorem in_decode_escape {a0 : Value} {H : Heap} {k : Value → Heap → Prop} (h : H.Wf → pexec prog pc_decode_escape ⟨Rt prog Tryz.f299 H k, noEx⟩ (Rt prog Tryz.f299 H k) (upd U 0 a0) H) : CallQ prog f_decode_escape [a0] H k := call_in Tryz.func299 comp_decode_escape (by kernel_rfl) (by kernel_rfl) (env1 a0) h
end Go.Proofs.YtfdeejjmfbfjnaaGreatDoor.code
