/- The code of the functions that are reached, resolved. -/
import Derived.Test.YtbkbdnlfkahaaaaGreatDoorProg
import Derived.KernelRfl
import Derived.Test.YtbkbdnlfkahaaaaGreatDoorAbH
set_option linter.unusedVariables false
set_option maxRecDepth 100000
namespace Go.Proofs.YtbkbdnlfkahaaaaGreatDoor.code
open Go.Ab
variable (H0 H : Heap) (k : Value → Heap → Prop) (A : Env)
noncomputable abbrev prog : Program := Tryz.prog
abbrev f_linotypelaw28_AsmTells : FuncId := 3
abbrev f_linotypelaw28_AsmNops : FuncId := 5
abbrev f_linotypekit_LongNodes : FuncId := 6
abbrev f_asm_Nops : FuncId := 7
abbrev f_linotypekit_SameBytes : FuncId := 8
abbrev f_linotyperef28_Nops : FuncId := 9
abbrev f_linotypekit_OverBytes : FuncId := 10
abbrev f_asm_Goal : FuncId := 11
abbrev f_linotyperef28_Goal : FuncId := 12
abbrev f_linotypelaw28_awake : FuncId := 13
abbrev f_linotypekit_Pick : FuncId := 17
abbrev f_decode_Decode : FuncId := 18
abbrev f_linotypelaw28_nops : FuncId := 19
abbrev f_asm_nop : FuncId := 20
abbrev f_linotyperef28_nop : FuncId := 21
abbrev f_expr_Check : FuncId := 22
abbrev f_linotyperef23_Check : FuncId := 23
abbrev f_linotyperef28_lone : FuncId := 24
abbrev f_linotyperef01_Fits : FuncId := 25
abbrev f_decode_find : FuncId := 28
abbrev f_decode_read : FuncId := 29
abbrev f_expr_fields : FuncId := 30
abbrev f_linotyperef23_operands : FuncId := 31
abbrev f_linotyperef23_leaf : FuncId := 32
abbrev f_decode_trie : FuncId := 43
abbrev f_decode_node_open : FuncId := 44
abbrev f_decode_node_child : FuncId := 45
abbrev f_token_Name : FuncId := 50
abbrev f_linotyperef22_Name : FuncId := 51
abbrev f_table_Rows : FuncId := 68
abbrev f_decode_lead : FuncId := 69
abbrev f_decode_takes : FuncId := 70
abbrev f_shape_Slot : FuncId := 73
abbrev f_token_isFirst : FuncId := 82
abbrev f_token_isMore : FuncId := 83
abbrev f_linotyperef22_first : FuncId := 84
abbrev f_linotyperef22_more : FuncId := 85
abbrev f_table_collect : FuncId := 118
abbrev f_table_Rows_1 : FuncId := 119
abbrev f_decode_escape : FuncId := 120
abbrev f_slices_Index_int_int : FuncId := 124
abbrev f_table_Of : FuncId := 173
abbrev f_table_lists : FuncId := 190
abbrev f_table_Of_1 : FuncId := 226
abbrev f_alu_Rows : FuncId := 235
abbrev f_unary_Rows : FuncId := 236
abbrev f_flow_Rows : FuncId := 237
abbrev f_bits_Rows : FuncId := 238
abbrev f_sse_Rows : FuncId := 239
abbrev f_avx_Rows : FuncId := 240
abbrev T_api_Node : TypeId := 33
abbrev T_api_Inst : TypeId := 41
abbrev T_api_Form : TypeId := 64
abbrev T_decode_node : TypeId := 101
abbrev T_table_list : TypeId := 296
abbrev TM_p_decode_node : TypeId := 99
noncomputable abbrev F_linotypekit_Pick : Func := Tryz.f17
theorem ret_linotypekit_Pick : Rt prog Tryz.f17 H0 k A H = Ret H0 k (A 4) H := rt_1 (by kernel_rfl) (by kernel_rfl)
noncomputable def pc_linotypekit_Pick : PC := (.seq (.ops [Om 4 (Ci 0)]) (.seq (.seq (.ops [Om 5 (t 1), Ow 6 (.bin .lss (t 5) (Ci 1))]) (.cond (t 6) (.seq (.ops [Om 4 (Ci 0)]) .ret) .skip)) (.seq (.ops [Om 7 (t 0), Om 8 (t 1), Ow 9 (.bin .rem (t 7) (t 8)), Om 0 (t 9)]) (.seq (.seq (.ops [Om 10 (t 0), Ow 11 (.bin .lss (t 10) (Ci 0))]) (.cond (t 11) (.ops [Om 12 (t 0), Om 13 (t 1), Ow 14 (.bin .add (t 12) (t 13)), Om 0 (t 14)]) .skip)) (.seq (.ops [Om 15 (t 0), Om 4 (t 15)]) .ret)))))
theorem in_linotypekit_Pick : In2 prog f_linotypekit_Pick Tryz.f17 pc_linotypekit_Pick := in2 Tryz.func17 (by kernel_rfl) (by kernel_rfl) (by kernel_rfl)
noncomputable abbrev F_decode_Decode : Func := Tryz.f18
theorem ret_decode_Decode : Rt prog Tryz.f18 H0 k A H = ldR true 2 (A 2) H fun v => Ret H0 k (.tuple #[v, A 3, A 4]) H := rt_cnn (ty := 41) (by kernel_rfl) (by kernel_rfl) (by kernel_rfl)
noncomputable def pc_decode_Decode : PC := (.seq (.ops [Ow 2 (.alloc T_api_Inst [.int .i64 0, .slice none 0 0]), Om 3 (Ci 0), Om 4 (Ci 0)]) (.seq (.ops [Om 5 (Ci 4)]) (.seq (.seq (.ops [Om 11 (t 0), Ow 12 (.call f_decode_find [(t 11)]), Ow 13 (.lenS (t 12)), Om 14 (Ci 0)]) (.block 0 (.loop (.seq (.ops [Ow 15 (.bin .lss (t 14) (t 13))]) (.seq (.cond (t 15) .skip (.exit 0)) (.seq (.block 1 (.seq (.ops [Ow 16 (.idxS 10 (t 12) (t 14)), Ow 17 (.ld true 10 (t 16)), Ow 7 (.alloc T_api_Form [.int .i64 0, .slice none 0 0, .slice none 0 0, .int .i64 0, .int .i64 0, .int .i64 0, .int .i64 0, .int .i64 0, .bool false, .int .i64 0]), Ov (.st 10 (t 7) (t 17))]) (.seq (.ops [Ow 19 (.ld true 10 (t 7)), Om 20 (t 0), Ow 21 (.call f_decode_read [(t 19), (t 20)]), Om 18 (t 21), Ow 22 (.ext (t 18) 0), Ow 23 (.ext (t 18) 1), Ow 24 (.ext (t 18) 2), Ow 8 (.alloc T_api_Inst [.int .i64 0, .slice none 0 0]), Ov (.st 2 (t 8) (t 22)), Om 9 (t 23), Om 10 (t 24)]) (.seq (.ops [Om 25 (t 10)]) (.block 2 (.seq (.ops [Ow 27 (.bin .eql (t 25) (Ci 0)), Om 26 (t 27)]) (.cond (t 26) (.seq (.ops [Ow 28 (.ld true 2 (t 8)), Om 29 (t 9), Ov (.st 2 (t 2) (t 28)), Om 3 (t 29), Om 4 (Ci 0)]) .ret) (.seq (.ops [Ow 31 (.bin .eql (t 25) (Ci 9)), Om 30 (t 31)]) (.cond (t 30) (.ops [Om 5 (Ci 9)]) .skip))))))))) (.ops [Ow 32 (.bin .add (t 14) (Ci 1)), Om 14 (t 32)]))))))) (.seq (.ops [Ow 33 (.build [.int .i64 0, .slice none 0 0] []), Om 34 (t 5), Ov (.st 2 (t 2) (t 33)), Om 3 (Ci 0), Om 4 (t 34)]) .ret))))
theorem in_decode_Decode : In1 prog f_decode_Decode Tryz.f18 pc_decode_Decode := in1 Tryz.func18 (by kernel_rfl) (by kernel_rfl) (by kernel_rfl)
noncomputable abbrev F_decode_find : Func := Tryz.f28
theorem ret_decode_find : Rt prog Tryz.f28 H0 k A H = Ret H0 k (A 2) H := rt_1 (by kernel_rfl) (by kernel_rfl)
noncomputable def pc_decode_find : PC := (.seq (.ops [Om 2 (.const (.slice none 0 0))]) (.seq (.ops [Ow 7 (.call f_decode_trie []), Om 3 (t 7), Om 4 (.const (.bool true))]) (.seq (.seq (.ops [Om 8 (t 0), Ow 9 (.lenS (t 8)), Om 10 (Ci 0)]) (.block 0 (.loop (.seq (.ops [Ow 11 (.bin .lss (t 10) (t 9))]) (.seq (.cond (t 11) .skip (.exit 0)) (.seq (.block 1 (.seq (.ops [Ow 12 (.idxS 1 (t 8) (t 10)), Ow 13 (.ld false 1 (t 12)), Om 6 (t 13)]) (.seq (.seq (.ops [Om 14 (t 3), Ow 15 (.call f_decode_node_open [(t 14)]), Ow 16 (.not (t 15))]) (.cond (t 16) (.exit 0) .skip)) (.seq (.seq (.ops [Om 17 (t 4), Om 18 (t 17), On 19 (t 6) 18 true, Og 20 (.bin .and (t 19) (.const (.int .u8 240))) 18 true, Og 21 (.bin .eql (t 20) (.const (.int .u8 64))) 18 true, Ow 22 (.pick (t 18) (t 21) (.const (.bool false)))]) (.cond (t 22) (.seq (.ops [Om 4 (.const (.bool false))]) (.exit 1)) .skip)) (.seq (.ops [Om 23 (t 4), Om 24 (t 23), On 25 (t 6) 24 true, Og 26 (.bin .eql (t 25) (.const (.int .u8 102))) 24 true, On 27 (t 26) 24 true, On 28 (t 6) 27 false, Og 29 (.bin .eql (t 28) (.const (.int .u8 242))) 27 false, Og 30 (.pick (t 27) (.const (.bool true)) (t 29)) 24 true, On 31 (t 30) 24 true, On 32 (t 6) 31 false, Og 33 (.bin .eql (t 32) (.const (.int .u8 243))) 31 false, Og 34 (.pick (t 31) (.const (.bool true)) (t 33)) 24 true, Ow 35 (.pick (t 24) (t 34) (.const (.bool false))), Om 4 (t 35)]) (.ops [Om 36 (t 3), Om 37 (t 6), Ow 38 (.call f_decode_node_child [(t 36), (t 37)]), Om 3 (t 38)])))))) (.ops [Ow 39 (.bin .add (t 10) (Ci 1)), Om 10 (t 39)]))))))) (.seq (.ops [Om 40 (t 3), Ow 41 (.gen (.nilCheck (t 40))), Ow 42 (.fldA 1 (t 41)), Ow 43 (.ld false 1 (t 42)), Om 2 (t 43)]) .ret))))
theorem in_decode_find : In1 prog f_decode_find Tryz.f28 pc_decode_find := in1 Tryz.func28 (by kernel_rfl) (by kernel_rfl) (by kernel_rfl)
noncomputable abbrev F_decode_trie : Func := Tryz.f43
theorem ret_decode_trie : Rt prog Tryz.f43 H0 k A H = Ret H0 k (A 0) H := rt_1 (by kernel_rfl) (by kernel_rfl)
noncomputable def pc_decode_trie : PC := (.seq (.ops [Om 0 (.const (.pointer none))]) (.seq (.ops [Ow 1 (.call f_table_Rows []), Ow 2 (.gen (.makeMap 99 none)), Ow 3 (.build [.int .i64 0, .slice none 0 0, .map none] [(1, 1, (t 1)), (2, 1, (t 2))]), Ow 4 (.box T_decode_node (t 3)), Om 0 (t 4)]) .ret))
theorem in_decode_trie : In0 prog f_decode_trie Tryz.f43 pc_decode_trie := in0 Tryz.func43 (by kernel_rfl) (by kernel_rfl) (by kernel_rfl)
noncomputable abbrev F_decode_node_open : Func := Tryz.f44
theorem ret_decode_node_open : Rt prog Tryz.f44 H0 k A H = Ret H0 k (A 2) H := rt_1 (by kernel_rfl) (by kernel_rfl)
noncomputable def pc_decode_node_open : PC := (.seq (.ops [Om 2 (.const (.bool false))]) (.seq (.seq (.ops [Om 4 (t 0), Ow 5 (.gen (.nilCheck (t 4))), Ow 6 (.fldA 1 (t 5)), Ow 7 (.ld false 1 (t 6)), Ow 8 (.lenS (t 7)), Ow 9 (.bin .eql (t 8) (Ci 0))]) (.cond (t 9) (.seq (.ops [Om 2 (.const (.bool false))]) .ret) .skip)) (.seq (.seq (.ops [Om 10 (t 0), Ow 11 (.gen (.nilCheck (t 10))), Ow 12 (.fldA 1 (t 11)), Ow 13 (.ld false 1 (t 12)), Ow 14 (.idxS 10 (t 13) (Ci 0)), Ow 15 (.ld true 10 (t 14)), Ow 3 (.alloc T_api_Form [.int .i64 0, .slice none 0 0, .slice none 0 0, .int .i64 0, .int .i64 0, .int .i64 0, .int .i64 0, .int .i64 0, .bool false, .int .i64 0]), Ov (.st 10 (t 3) (t 15))]) (.seq (.ops [Ow 16 (.fldA 8 (t 3)), Ow 17 (.ld false 1 (t 16)), Ow 18 (.not (t 17))]) (.cond (t 18) (.seq (.ops [Om 19 (t 0), Ow 20 (.gen (.nilCheck (t 19))), Ow 21 (.fldA 0 (t 20)), ⟨some 22, .ld false 1 (t 21), none, true⟩, Ow 23 (.ld true 10 (t 3)), ⟨some 24, .callF f_decode_lead [(t 23)] [], none, true⟩, Ow 25 (.lenT (t 24)), Ow 26 (.bin .leq (t 22) (t 25)), Om 2 (t 26)]) .ret) .skip))) (.seq (.ops [Om 27 (t 0), Ow 28 (.gen (.nilCheck (t 27))), Ow 29 (.fldA 0 (t 28)), Ow 30 (.ld false 1 (t 29)), Ow 31 (.bin .eql (t 30) (Ci 0)), Om 2 (t 31)]) .ret))))
theorem in_decode_node_open : In1 prog f_decode_node_open Tryz.f44 pc_decode_node_open := in1 Tryz.func44 (by kernel_rfl) (by kernel_rfl) (by kernel_rfl)
noncomputable abbrev F_decode_node_child : Func := Tryz.f45
theorem ret_decode_node_child : Rt prog Tryz.f45 H0 k A H = Ret H0 k (A 4) H := rt_1 (by kernel_rfl) (by kernel_rfl)
noncomputable def pc_decode_node_child : PC := (.seq (.ops [Om 4 (.const (.pointer none))]) (.seq (.seq (.ops [Om 11 (t 0), Ow 12 (.gen (.nilCheck (t 11))), Ow 13 (.fldA 2 (t 12)), Ow 14 (.ld false 1 (t 13)), Om 15 (t 1), Ow 16 (.gen (.lookup 99 (t 14) (t 15) true)), Om 10 (t 16), Ow 17 (.ext (t 10) 0), Ow 18 (.ext (t 10) 1), Om 5 (t 17), Om 6 (t 18)]) (.seq (.ops [Om 19 (t 6)]) (.cond (t 19) (.seq (.ops [Om 20 (t 5), Om 4 (t 20)]) .ret) .skip))) (.seq (.ops [Om 21 (t 0), Ow 22 (.gen (.nilCheck (t 21))), Ow 23 (.fldA 0 (t 22)), Ow 24 (.ld false 1 (t 23)), Ow 25 (.bin .add (t 24) (Ci 1)), Ow 26 (.gen (.makeMap 99 none)), Ow 27 (.build [.int .i64 0, .slice none 0 0, .map none] [(0, 1, (t 25)), (2, 1, (t 26))]), Ow 28 (.box T_decode_node (t 27)), Om 7 (t 28)]) (.seq (.seq (.ops [Om 29 (t 0), Ow 30 (.gen (.nilCheck (t 29))), Ow 31 (.fldA 1 (t 30)), Ow 32 (.ld false 1 (t 31)), Ow 33 (.lenS (t 32)), Om 34 (Ci 0)]) (.block 0 (.loop (.seq (.ops [Ow 35 (.bin .lss (t 34) (t 33))]) (.seq (.cond (t 35) .skip (.exit 0)) (.seq (.block 1 (.seq (.ops [Ow 36 (.idxS 10 (t 32) (t 34)), Ow 37 (.ld true 10 (t 36)), Ow 9 (.alloc T_api_Form [.int .i64 0, .slice none 0 0, .slice none 0 0, .int .i64 0, .int .i64 0, .int .i64 0, .int .i64 0, .int .i64 0, .bool false, .int .i64 0]), Ov (.st 10 (t 9) (t 37))]) (.seq (.ops [Ow 38 (.ld true 10 (t 9)), Om 39 (t 0), Ow 40 (.gen (.nilCheck (t 39))), Ow 41 (.fldA 0 (t 40)), Ow 42 (.ld false 1 (t 41)), Om 43 (t 1), Ow 44 (.call f_decode_takes [(t 38), (t 42), (t 43)])]) (.cond (t 44) (.ops [Om 45 (t 7), Om 46 (t 7), Ow 47 (.gen (.nilCheck (t 46))), Ow 48 (.fldA 1 (t 47)), Ow 49 (.ld false 1 (t 48)), Ow 50 (.ld true 10 (t 9)), Ow 51 (.bslice T_api_Form 10 1 [.int .i64 0, .slice none 0 0, .slice none 0 0, .int .i64 0, .int .i64 0, .int .i64 0, .int .i64 0, .int .i64 0, .bool false, .int .i64 0] [(0, (t 50))]), Ow 52 (.app T_api_Form 10 112 (t 49) (t 51)), Ow 53 (.gen (.nilCheck (t 45))), Ow 54 (.fldA 1 (t 53)), Ov (.st 1 (t 54) (t 52))]) .skip)))) (.ops [Ow 55 (.bin .add (t 34) (Ci 1)), Om 34 (t 55)]))))))) (.seq (.ops [Om 56 (t 0), Ow 57 (.gen (.nilCheck (t 56))), Ow 58 (.fldA 2 (t 57)), Ow 59 (.ld false 1 (t 58)), Om 60 (t 1), Om 61 (t 7), Ov (.gen (.mapUpdate 99 (t 59) (t 60) (t 61)))]) (.seq (.ops [Om 62 (t 7), Om 4 (t 62)]) .ret))))))
theorem in_decode_node_child : In2 prog f_decode_node_child Tryz.f45 pc_decode_node_child := in2 Tryz.func45 (by kernel_rfl) (by kernel_rfl) (by kernel_rfl)
noncomputable abbrev F_table_Rows : Func := Tryz.f68
theorem ret_table_Rows : Rt prog Tryz.f68 H0 k A H = Ret H0 k (A 0) H := rt_1 (by kernel_rfl) (by kernel_rfl)
noncomputable def pc_table_Rows : PC := (.seq (.ops [Om 0 (.const (.slice none 0 0))]) (.seq (.ops [Ow 1 (.call f_table_collect [(Ci 1), (Ci 322), (.func f_table_Rows_1)]), Om 0 (t 1)]) .ret))
theorem in_table_Rows : In0 prog f_table_Rows Tryz.f68 pc_table_Rows := in0 Tryz.func68 (by kernel_rfl) (by kernel_rfl) (by kernel_rfl)
noncomputable abbrev F_decode_lead : Func := Tryz.f69
theorem ret_decode_lead : Rt prog Tryz.f69 H0 k A H = Ret H0 k (A 2) H := rt_1 (by kernel_rfl) (by kernel_rfl)
noncomputable def pc_decode_lead : PC := (.seq (.ops [Ow 1 (.box T_api_Form (t 0)), Om 2 (.const (.string (mkS [])))]) (.seq (.ops [Om 3 (.const (.string (mkS [])))]) (.seq (.seq (.ops [Ow 4 (.fldA 3 (t 1)), Ow 5 (.ld false 1 (t 4)), Ow 6 (.bin .and (t 5) (Ci 1)), Ow 7 (.bin .neq (t 6) (Ci 0))]) (.cond (t 7) (.ops [Om 8 (t 3), Ow 9 (.bin .add (t 8) (.const (.string (mkS [102])))), Om 3 (t 9)]) .skip)) (.seq (.seq (.ops [Ow 10 (.fldA 3 (t 1)), Ow 11 (.ld false 1 (t 10)), Ow 12 (.bin .and (t 11) (Ci 2)), Ow 13 (.bin .neq (t 12) (Ci 0))]) (.cond (t 13) (.ops [Om 14 (t 3), Ow 15 (.bin .add (t 14) (.const (.string (mkS [242])))), Om 3 (t 15)]) .skip)) (.seq (.seq (.ops [Ow 16 (.fldA 3 (t 1)), Ow 17 (.ld false 1 (t 16)), Ow 18 (.bin .and (t 17) (Ci 4)), Ow 19 (.bin .neq (t 18) (Ci 0))]) (.cond (t 19) (.ops [Om 20 (t 3), Ow 21 (.bin .add (t 20) (.const (.string (mkS [243])))), Om 3 (t 21)]) .skip)) (.seq (.ops [Om 22 (t 3), Ow 23 (.fldA 4 (t 1)), Ow 24 (.ld false 1 (t 23)), Ow 25 (.call f_decode_escape [(t 24)]), Ow 26 (.bin .add (t 22) (t 25)), Om 2 (t 26)]) .ret))))))
theorem in_decode_lead : In1 prog f_decode_lead Tryz.f69 pc_decode_lead := in1 Tryz.func69 (by kernel_rfl) (by kernel_rfl) (by kernel_rfl)
noncomputable abbrev F_decode_takes : Func := Tryz.f70
theorem ret_decode_takes : Rt prog Tryz.f70 H0 k A H = Ret H0 k (A 6) H := rt_1 (by kernel_rfl) (by kernel_rfl)
noncomputable def pc_decode_takes : PC := (.seq (.ops [Ow 3 (.box T_api_Form (t 0)), Om 6 (.const (.bool false))]) (.seq (.seq (.ops [Ow 8 (.fldA 8 (t 3)), Ow 9 (.ld false 1 (t 8))]) (.cond (t 9) (.seq (.ops [Om 10 (t 1), Ow 11 (.bin .eql (t 10) (Ci 0)), Om 12 (t 11), On 13 (t 2) 12 true, Og 14 (.bin .eql (t 13) (.const (.int .u8 196))) 12 true, On 15 (t 14) 12 true, On 16 (t 2) 15 false, Og 17 (.bin .eql (t 16) (.const (.int .u8 197))) 15 false, On 18 (t 17) 15 false, Og 19 (.fldA 4 (t 3)) 18 true, Og 20 (.ld false 1 (t 19)) 18 true, Og 21 (.bin .eql (t 20) (Ci 1)) 18 true, Og 22 (.pick (t 18) (t 21) (.const (.bool false))) 15 false, On 23 (t 22) 15 false, Og 24 (.fldA 7 (t 3)) 23 true, Og 25 (.ld false 1 (t 24)) 23 true, Og 26 (.bin .neq (t 25) (Ci 1)) 23 true, Og 27 (.pick (t 23) (t 26) (.const (.bool false))) 15 false, Og 28 (.pick (t 15) (.const (.bool true)) (t 27)) 12 true, Ow 29 (.pick (t 12) (t 28) (.const (.bool false))), Om 6 (t 29)]) .ret) .skip)) (.seq (.ops [Ow 30 (.ld true 10 (t 3)), Ow 31 (.call f_decode_lead [(t 30)]), Om 7 (t 31)]) (.seq (.block 0 (.seq (.ops [Om 33 (t 1), Om 34 (t 7), Ow 35 (.lenT (t 34)), Ow 36 (.bin .lss (t 33) (t 35)), Om 32 (t 36)]) (.cond (t 32) (.seq (.ops [Om 37 (t 2), Om 38 (t 7), Om 39 (t 1), Ow 40 (.chr (t 38) (t 39)), Ow 41 (.bin .eql (t 37) (t 40)), Om 6 (t 41)]) .ret) (.seq (.ops [Om 43 (t 1), Om 44 (t 7), Ow 45 (.lenT (t 44)), Ow 46 (.bin .gtr (t 43) (t 45)), Om 42 (t 46)]) (.cond (t 42) (.seq (.ops [Om 6 (.const (.bool false))]) .ret) (.seq (.ops [Ow 48 (.ld true 10 (t 3)), Ow 49 (.call f_shape_Slot [(t 48), (Ci 4)]), Ow 50 (.bin .geq (t 49) (Ci 0)), Om 47 (t 50)]) (.cond (t 47) (.seq (.ops [Om 51 (t 2), Ow 52 (.bin .andNot (t 51) (.const (.int .u8 7))), Ow 53 (.toInt .i64 (t 52)), Ow 54 (.fldA 5 (t 3)), Ow 55 (.ld false 1 (t 54)), Ow 56 (.bin .eql (t 53) (t 55)), Om 6 (t 56)]) .ret) .skip))))))) (.seq (.ops [Om 57 (t 2), Ow 58 (.toInt .i64 (t 57)), Ow 59 (.fldA 5 (t 3)), Ow 60 (.ld false 1 (t 59)), Ow 61 (.bin .eql (t 58) (t 60)), Om 6 (t 61)]) .ret)))))
theorem in_decode_takes : In3 prog f_decode_takes Tryz.f70 pc_decode_takes := in3 Tryz.func70 (by kernel_rfl) (by kernel_rfl) (by kernel_rfl)
noncomputable abbrev F_shape_Slot : Func := Tryz.f73
theorem ret_shape_Slot : Rt prog Tryz.f73 H0 k A H = Ret H0 k (A 4) H := rt_1 (by kernel_rfl) (by kernel_rfl)
noncomputable def pc_shape_Slot : PC := (.seq (.ops [Ow 2 (.box T_api_Form (t 0)), Om 4 (Ci 0)]) (.seq (.ops [Ow 5 (.fldA 2 (t 2)), Ow 6 (.ld false 1 (t 5)), Om 7 (t 1), Ow 8 (.call f_slices_Index_int_int [(t 6), (t 7)]), Om 4 (t 8)]) .ret))
theorem in_shape_Slot : In2 prog f_shape_Slot Tryz.f73 pc_shape_Slot := in2 Tryz.func73 (by kernel_rfl) (by kernel_rfl) (by kernel_rfl)
noncomputable abbrev F_table_collect : Func := Tryz.f118
theorem ret_table_collect : Rt prog Tryz.f118 H0 k A H = Ret H0 k (A 6) H := rt_1 (by kernel_rfl) (by kernel_rfl)
noncomputable def pc_table_collect : PC := (.seq (.ops [Om 6 (.const (.slice none 0 0))]) (.seq (.ops [Om 7 (.const (.slice none 0 0))]) (.seq (.seq (.ops [Ow 12 (.call f_table_lists []), Ow 13 (.lenS (t 12)), Om 14 (Ci 0)]) (.block 0 (.loop (.seq (.ops [Ow 15 (.bin .lss (t 14) (t 13))]) (.seq (.cond (t 15) .skip (.exit 0)) (.seq (.block 1 (.seq (.ops [Ow 16 (.idxS 3 (t 12) (t 14)), Ow 17 (.ld true 3 (t 16)), Ow 9 (.alloc T_table_list [.int .i64 0, .int .i64 0, .nilFunc]), Ov (.st 3 (t 9) (t 17))]) (.seq (.seq (.ops [Om 18 (t 1), Ow 19 (.fldA 0 (t 9)), Ow 20 (.ld false 1 (t 19)), Ow 21 (.bin .lss (t 18) (t 20)), Om 22 (t 21), On 23 (t 0) 22 false, Og 24 (.fldA 1 (t 9)) 22 false, Og 25 (.ld false 1 (t 24)) 22 false, Og 26 (.bin .gtr (t 23) (t 25)) 22 false, Ow 27 (.pick (t 22) (.const (.bool true)) (t 26))]) (.cond (t 27) (.exit 1) .skip)) (.seq (.ops [Ow 28 (.fldA 2 (t 9)), Ow 29 (.ld false 1 (t 28)), Ow 30 (.callv (t 29) []), Ow 31 (.lenS (t 30)), Om 32 (Ci 0)]) (.block 2 (.loop (.seq (.ops [Ow 33 (.bin .lss (t 32) (t 31))]) (.seq (.cond (t 33) .skip (.exit 2)) (.seq (.block 3 (.seq (.ops [Ow 34 (.idxS 10 (t 30) (t 32)), Ow 35 (.ld true 10 (t 34)), Ow 11 (.alloc T_api_Form [.int .i64 0, .slice none 0 0, .slice none 0 0, .int .i64 0, .int .i64 0, .int .i64 0, .int .i64 0, .int .i64 0, .bool false, .int .i64 0]), Ov (.st 10 (t 11) (t 35))]) (.seq (.ops [Om 36 (t 2), Ow 37 (.ld true 10 (t 11)), Ow 38 (.callv (t 36) [(t 37)])]) (.cond (t 38) (.ops [Om 39 (t 7), Ow 40 (.ld true 10 (t 11)), Ow 41 (.bslice T_api_Form 10 1 [.int .i64 0, .slice none 0 0, .slice none 0 0, .int .i64 0, .int .i64 0, .int .i64 0, .int .i64 0, .int .i64 0, .bool false, .int .i64 0] [(0, (t 40))]), Ow 42 (.app T_api_Form 10 112 (t 39) (t 41)), Om 7 (t 42)]) .skip)))) (.ops [Ow 43 (.bin .add (t 32) (Ci 1)), Om 32 (t 43)])))))))))) (.ops [Ow 44 (.bin .add (t 14) (Ci 1)), Om 14 (t 44)]))))))) (.seq (.ops [Om 45 (t 7), Om 6 (t 45)]) .ret))))
theorem in_table_collect : In3 prog f_table_collect Tryz.f118 pc_table_collect := in3 Tryz.func118 (by kernel_rfl) (by kernel_rfl) (by kernel_rfl)
noncomputable abbrev F_table_Rows_1 : Func := Tryz.f119
theorem ret_table_Rows_1 : Rt prog Tryz.f119 H0 k A H = Ret H0 k (A 2) H := rt_1 (by kernel_rfl) (by kernel_rfl)
noncomputable def pc_table_Rows_1 : PC := (.seq (.ops [Ow 1 (.box T_api_Form (t 0)), Om 2 (.const (.bool false))]) (.seq (.ops [Om 2 (.const (.bool true))]) .ret))
theorem in_table_Rows_1 : In1 prog f_table_Rows_1 Tryz.f119 pc_table_Rows_1 := in1 Tryz.func119 (by kernel_rfl) (by kernel_rfl) (by kernel_rfl)
noncomputable abbrev F_decode_escape : Func := Tryz.f120
theorem ret_decode_escape : Rt prog Tryz.f120 H0 k A H = Ret H0 k (A 2) H := rt_1 (by kernel_rfl) (by kernel_rfl)
noncomputable def pc_decode_escape : PC := (.seq (.ops [Om 2 (.const (.string (mkS [])))]) (.seq (.seq (.ops [Om 3 (t 0)]) (.block 0 (.seq (.ops [Ow 5 (.bin .eql (t 3) (Ci 1)), Om 4 (t 5)]) (.cond (t 4) (.seq (.ops [Om 2 (.const (.string (mkS [15])))]) .ret) (.seq (.ops [Ow 7 (.bin .eql (t 3) (Ci 2)), Om 6 (t 7)]) (.cond (t 6) (.seq (.ops [Om 2 (.const (.string (mkS [15, 56])))]) .ret) (.seq (.ops [Ow 9 (.bin .eql (t 3) (Ci 3)), Om 8 (t 9)]) (.cond (t 8) (.seq (.ops [Om 2 (.const (.string (mkS [15, 58])))]) .ret) .skip)))))))) (.seq (.ops [Om 2 (.const (.string (mkS [])))]) .ret)))
theorem in_decode_escape : In1 prog f_decode_escape Tryz.f120 pc_decode_escape := in1 Tryz.func120 (by kernel_rfl) (by kernel_rfl) (by kernel_rfl)
noncomputable abbrev F_slices_Index_int_int : Func := Tryz.f124
theorem ret_slices_Index_int_int : Rt prog Tryz.f124 H0 k A H = Ret H0 k (A 4) H := rt_1 (by kernel_rfl) (by kernel_rfl)
noncomputable def pc_slices_Index_int_int : PC := (.seq (.ops [Om 4 (Ci 0)]) (.seq (.seq (.ops [Om 6 (t 0), Ow 7 (.lenS (t 6)), Om 8 (Ci 0)]) (.block 0 (.loop (.seq (.ops [Ow 9 (.bin .lss (t 8) (t 7))]) (.seq (.cond (t 9) .skip (.exit 0)) (.seq (.block 1 (.seq (.ops [Om 10 (t 8), Om 5 (t 10)]) (.seq (.ops [Om 11 (t 1), Om 12 (t 0), Om 13 (t 5), Ow 14 (.idxS 1 (t 12) (t 13)), Ow 15 (.ld false 1 (t 14)), Ow 16 (.bin .eql (t 11) (t 15))]) (.cond (t 16) (.seq (.ops [Om 17 (t 5), Om 4 (t 17)]) .ret) .skip)))) (.ops [Ow 18 (.bin .add (t 8) (Ci 1)), Om 8 (t 18)]))))))) (.seq (.ops [Om 4 (Ci (-1))]) .ret)))
theorem in_slices_Index_int_int : In2 prog f_slices_Index_int_int Tryz.f124 pc_slices_Index_int_int := in2 Tryz.func124 (by kernel_rfl) (by kernel_rfl) (by kernel_rfl)
noncomputable abbrev F_table_Of : Func := Tryz.f173
theorem ret_table_Of : Rt prog Tryz.f173 H0 k A H = Ret H0 k (A 2) H := rt_1 (by kernel_rfl) (by kernel_rfl)
noncomputable def pc_table_Of : PC := (.seq (.ops [Ow 1 (.box 3 (t 0)), Om 2 (.const (.slice none 0 0))]) (.seq (.ops [Ow 3 (.ld false 1 (t 1)), Ow 4 (.ld false 1 (t 1)), Ow 5 (.gen (.makeFunc (.func f_table_Of_1) #[] #[(t 1)])), Ow 6 (.call f_table_collect [(t 3), (t 4), (t 5)]), Om 2 (t 6)]) .ret))
theorem in_table_Of : In1 prog f_table_Of Tryz.f173 pc_table_Of := in1 Tryz.func173 (by kernel_rfl) (by kernel_rfl) (by kernel_rfl)
noncomputable abbrev F_table_lists : Func := Tryz.f190
theorem ret_table_lists : Rt prog Tryz.f190 H0 k A H = Ret H0 k (A 0) H := rt_1 (by kernel_rfl) (by kernel_rfl)
noncomputable def pc_table_lists : PC := (.seq (.ops [Om 0 (.const (.slice none 0 0))]) (.seq (.ops [Ow 1 (.build [.int .i64 0, .int .i64 0, .nilFunc] [(0, 1, (Ci 1)), (1, 1, (Ci 16)), (2, 1, (.func f_alu_Rows))]), Ow 2 (.build [.int .i64 0, .int .i64 0, .nilFunc] [(0, 1, (Ci 16)), (1, 1, (Ci 47)), (2, 1, (.func f_unary_Rows))]), Ow 3 (.build [.int .i64 0, .int .i64 0, .nilFunc] [(0, 1, (Ci 48)), (1, 1, (Ci 115)), (2, 1, (.func f_flow_Rows))]), Ow 4 (.build [.int .i64 0, .int .i64 0, .nilFunc] [(0, 1, (Ci 116)), (1, 1, (Ci 135)), (2, 1, (.func f_bits_Rows))]), Ow 5 (.build [.int .i64 0, .int .i64 0, .nilFunc] [(0, 1, (Ci 136)), (1, 1, (Ci 262)), (2, 1, (.func f_sse_Rows))]), Ow 6 (.build [.int .i64 0, .int .i64 0, .nilFunc] [(0, 1, (Ci 263)), (1, 1, (Ci 322)), (2, 1, (.func f_avx_Rows))]), Ow 7 (.bslice T_table_list 3 6 [.int .i64 0, .int .i64 0, .nilFunc, .int .i64 0, .int .i64 0, .nilFunc, .int .i64 0, .int .i64 0, .nilFunc, .int .i64 0, .int .i64 0, .nilFunc, .int .i64 0, .int .i64 0, .nilFunc, .int .i64 0, .int .i64 0, .nilFunc] [(0, (t 1)), (1, (t 2)), (2, (t 3)), (3, (t 4)), (4, (t 5)), (5, (t 6))]), Om 0 (t 7)]) .ret))
theorem in_table_lists : In0 prog f_table_lists Tryz.f190 pc_table_lists := in0 Tryz.func190 (by kernel_rfl) (by kernel_rfl) (by kernel_rfl)
noncomputable abbrev F_table_Of_1 : Func := Tryz.f226
theorem ret_table_Of_1 : Rt prog Tryz.f226 H0 k A H = Ret H0 k (A 3) H := rt_1 (by kernel_rfl) (by kernel_rfl)
noncomputable def pc_table_Of_1 : PC := (.seq (.ops [Ow 2 (.box T_api_Form (t 0)), Om 3 (.const (.bool false))]) (.seq (.ops [Ow 4 (.fldA 0 (t 2)), Ow 5 (.ld false 1 (t 4)), Ow 6 (.ld false 1 (t 1)), Ow 7 (.bin .eql (t 5) (t 6)), Om 3 (t 7)]) .ret))
theorem in_table_Of_1 : In2 prog f_table_Of_1 Tryz.f226 pc_table_Of_1 := in2 Tryz.func226 (by kernel_rfl) (by kernel_rfl) (by kernel_rfl)
end Go.Proofs.YtbkbdnlfkahaaaaGreatDoor.code
