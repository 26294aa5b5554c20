/- What more closed calls give. -/
import Derived.Test.YtfdeejjmfbfjnaaGreatDoorE1Base
namespace Go.Proofs.YtfdeejjmfbfjnaaGreatDoor.code
open Go.Ab _root_.Go.Proofs.YtfdeejjmfbfjnaaGreatDoor.tab
set_option maxRecDepth 100000
noncomputable def zu (n : Nat) : Value := .int .u8 (.ofNat n)
noncomputable def zi (n : Nat) : Value := .int .i64 (.ofNat n)
noncomputable def zs (b n c : Nat) : Value := .slice (some ⟨b, 0, none⟩) n (UNK + c)
noncomputable def zm : Value := .int .i64 (.negSucc 0)
noncomputable def zn : Value := .slice none 0 0
noncomputable def msel0 : FuncId → List SumI := fun _ => []
noncomputable def ms0_0 : List SumI := [ -- 193 3016
  ⟨193, [.string (mkS [110, 111, 112])], [], .tuple #[zi 50, .bool true], []⟩]
noncomputable def ms0_1 : List SumI := [ -- 193 19484
  ⟨193, [.string (mkS [97])], [], .tuple #[zi 0, .bool false], []⟩]
noncomputable def ms0_2 : List SumI := [ -- 193 3812
  ⟨193, [.string (mkS [106, 109, 112])], [], .tuple #[zi 54, .bool true], []⟩,
  ⟨193, [.string (mkS [109, 111, 118])], [], .tuple #[zi 9, .bool true], []⟩]
noncomputable def ms0_3 : List SumI := [ -- 193 19484
  ⟨193, [.string (mkS [120])], [], .tuple #[zi 0, .bool false], []⟩]
noncomputable def ms0_4 : List SumI := [ -- 193 76
  ⟨193, [.string (mkS [97, 100, 100])], [], .tuple #[zi 1, .bool true], []⟩]
noncomputable def msel1 : FuncId → List SumI := fun f => bif Nat.beq f 193 then ms0_0 ++ ms0_1 ++ ms0_2 ++ ms0_3 ++ ms0_4 else msel0 f
noncomputable def more1 : CallF := orKnown knZ (byFn Tryz.prog.globals.size tab.tabs msel1)
noncomputable def ms1_0 : List SumI := [ -- 75 3110
  ⟨75, [zi 50], [], .string (mkS [110, 111, 112]), []⟩,
  ⟨75, [zi 1], [], .string (mkS [97, 100, 100]), []⟩]
noncomputable def msel2 : FuncId → List SumI := fun f => bif Nat.beq f 75 then ms1_0 else msel1 f
noncomputable def more2 : CallF := orKnown knZ (byFn Tryz.prog.globals.size tab.tabs msel2)
noncomputable def ms2_0 : List SumI := [ -- 275 23391
  ⟨275, [.string (mkS [97])], [], .tuple #[.agg #[zi 0, zi 0], .bool false], []⟩]
noncomputable def ms2_1 : List SumI := [ -- 275 11108
  ⟨275, [.string (mkS [101, 97, 120])], [], .tuple #[.agg #[zi 4, zi 0], .bool true], []⟩]
noncomputable def msel3 : FuncId → List SumI := fun f => bif Nat.beq f 275 then ms2_0 ++ ms2_1 else msel2 f
noncomputable def more3 : CallF := orKnown knZ (byFn Tryz.prog.globals.size tab.tabs msel3)
noncomputable def ms3_0 : List SumI := [ -- 145 3412
  ⟨145, [.agg #[zi 4, zi 0]], [], .string (mkS [101, 97, 120]), []⟩]
noncomputable def msel4 : FuncId → List SumI := fun f => bif Nat.beq f 145 then ms3_0 else msel3 f
noncomputable def more4 : CallF := orKnown knZ (byFn Tryz.prog.globals.size tab.tabs msel4)
noncomputable def ms4_0 : List SumI := [ -- 130 7878
  ⟨130, [.agg #[zi 50, zn, zn, zi 0, zi 0, zi 144, zm, zi 0, .bool false, zi 0], .agg #[zi 50, .slice (some ⟨13, 0, none⟩) 0 0]], [iN [] 162], .tuple #[zs 16 2 3, .bool true], [⟨93, [zu 144], 5, false⟩,
    ⟨98, [zu 64, zu 144], 5, false⟩,
    ⟨101, [zs 14 1 1, zi 0, zm, zs 15 2 1, zi 0, zm], 72, false⟩]⟩,
  ⟨130, [.agg #[zi 50, zs 13 1 1, zs 14 1 1, zi 1, zi 1, zi 31, zi 0, zi 0, .bool false, zi 0], .agg #[zi 50, .slice (some ⟨15, 0, none⟩) 0 0]], [iN [8] 3, iN [2] 3, iN [] 162], .tuple #[zn, .bool false], []⟩,
  ⟨130, [.agg #[zi 50, zs 13 1 1, zs 14 1 1, zi 0, zi 1, zi 31, zi 0, zi 0, .bool false, zi 0], .agg #[zi 50, .slice (some ⟨15, 0, none⟩) 0 0]], [iN [9] 3, iN [2] 3, iN [] 162], .tuple #[zn, .bool false], []⟩,
  ⟨130, [.agg #[zi 54, zs 13 1 1, zs 14 1 1, zi 0, zi 0, zi 235, zm, zi 0, .bool false, zi 0], .agg #[zi 54, zs 15 1 11]], [iN [26] 3, iN [5] 3, ([zi 4, zi 0, zi 0, zi 0, zi 0, zi 0, zi 0, zi 0, zi 0, zi 0, .int .i64 (.negSucc 1)], 162)], .tuple #[zs 18 2 3, .bool true], [⟨105, [zu 235, zu 254], 5, false⟩,
    ⟨111, [zu 64, zu 235, zu 254], 5, false⟩,
    ⟨114, [zs 16 2 1, zi 0, zm, zs 17 3 1, zi 0, zm], 72, false⟩]⟩,
  ⟨130, [.agg #[zi 54, zs 13 1 1, zs 14 1 1, zi 0, zi 0, zi 233, zm, zi 0, .bool false, zi 0], .agg #[zi 54, zs 15 1 11]], [iN [27] 3, iN [5] 3, ([zi 4, zi 0, zi 0, zi 0, zi 0, zi 0, zi 0, zi 0, zi 0, zi 0, .int .i64 (.negSucc 1)], 162)], .tuple #[zs 18 2 3, .bool true], [⟨105, [zu 233, zu 254, zu 255, zu 255, zu 255], 5, false⟩,
    ⟨111, [zu 64, zu 233, zu 254, zu 255, zu 255, zu 255], 5, false⟩,
    ⟨114, [zs 16 5 1, zi 0, zm, zs 17 6 1, zi 0, zm], 72, false⟩]⟩,
  ⟨130, [.agg #[zi 54, zs 13 1 1, zs 14 1 1, zi 0, zi 0, zi 255, zi 4, zi 0, .bool false, zi 0], .agg #[zi 54, zs 15 1 11]], [iN [10] 3, iN [2] 3, ([zi 4, zi 0, zi 0, zi 0, zi 0, zi 0, zi 0, zi 0, zi 0, zi 0, .int .i64 (.negSucc 1)], 162)], .tuple #[zn, .bool false], []⟩,
  ⟨130, [.agg #[zi 9, zs 13 2 1, zs 14 2 1, zi 0, zi 0, zi 136, zm, zi 0, .bool false, zi 0], .agg #[zi 9, zs 15 1 11]], [iN [7, 1] 3, iN [2, 1] 3, iN [1, 4, 0, 0, 0, 0, 0, 0, 0, 0, 0] 162], .tuple #[zn, .bool false], []⟩,
  ⟨130, [.agg #[zi 9, zs 13 2 1, zs 14 2 1, zi 1, zi 0, zi 137, zm, zi 0, .bool false, zi 0], .agg #[zi 9, zs 15 1 11]], [iN [8, 2] 3, iN [2, 1] 3, iN [1, 4, 0, 0, 0, 0, 0, 0, 0, 0, 0] 162], .tuple #[zn, .bool false], []⟩,
  ⟨130, [.agg #[zi 9, zs 13 2 1, zs 14 2 1, zi 0, zi 0, zi 137, zm, zi 0, .bool false, zi 0], .agg #[zi 9, zs 15 1 11]], [iN [9, 3] 3, iN [2, 1] 3, iN [1, 4, 0, 0, 0, 0, 0, 0, 0, 0, 0] 162], .tuple #[zn, .bool false], []⟩,
  ⟨130, [.agg #[zi 9, zs 13 2 1, zs 14 2 1, zi 0, zi 0, zi 137, zm, zi 1, .bool false, zi 0], .agg #[zi 9, zs 15 1 11]], [iN [10, 4] 3, iN [2, 1] 3, iN [1, 4, 0, 0, 0, 0, 0, 0, 0, 0, 0] 162], .tuple #[zn, .bool false], []⟩,
  ⟨130, [.agg #[zi 9, zs 13 2 1, zs 14 2 1, zi 0, zi 0, zi 138, zm, zi 0, .bool false, zi 0], .agg #[zi 9, zs 15 1 11]], [iN [1, 7] 3, iN [1, 2] 3, iN [1, 4, 0, 0, 0, 0, 0, 0, 0, 0, 0] 162], .tuple #[zn, .bool false], []⟩,
  ⟨130, [.agg #[zi 9, zs 13 2 1, zs 14 2 1, zi 1, zi 0, zi 139, zm, zi 0, .bool false, zi 0], .agg #[zi 9, zs 15 1 11]], [iN [2, 8] 3, iN [1, 2] 3, iN [1, 4, 0, 0, 0, 0, 0, 0, 0, 0, 0] 162], .tuple #[zn, .bool false], []⟩,
  ⟨130, [.agg #[zi 9, zs 13 2 1, zs 14 2 1, zi 0, zi 0, zi 139, zm, zi 0, .bool false, zi 0], .agg #[zi 9, zs 15 1 11]], [iN [3, 9] 3, iN [1, 2] 3, iN [1, 4, 0, 0, 0, 0, 0, 0, 0, 0, 0] 162], .tuple #[zn, .bool false], []⟩,
  ⟨130, [.agg #[zi 9, zs 13 2 1, zs 14 2 1, zi 0, zi 0, zi 139, zm, zi 1, .bool false, zi 0], .agg #[zi 9, zs 15 1 11]], [iN [4, 10] 3, iN [1, 2] 3, iN [1, 4, 0, 0, 0, 0, 0, 0, 0, 0, 0] 162], .tuple #[zn, .bool false], []⟩,
  ⟨130, [.agg #[zi 9, zs 13 2 1, zs 14 2 1, zi 0, zi 0, zi 176, zm, zi 0, .bool false, zi 0], .agg #[zi 9, zs 15 1 11]], [iN [1, 20] 3, iN [4, 5] 3, iN [1, 4, 0, 0, 0, 0, 0, 0, 0, 0, 0] 162], .tuple #[zn, .bool false], []⟩,
  ⟨130, [.agg #[zi 9, zs 13 2 1, zs 14 2 1, zi 1, zi 0, zi 184, zm, zi 0, .bool false, zi 0], .agg #[zi 9, zs 15 1 11]], [iN [2, 22] 3, iN [4, 5] 3, iN [1, 4, 0, 0, 0, 0, 0, 0, 0, 0, 0] 162], .tuple #[zn, .bool false], []⟩,
  ⟨130, [.agg #[zi 9, zs 13 2 1, zs 14 2 1, zi 0, zi 0, zi 184, zm, zi 0, .bool false, zi 0], .agg #[zi 9, zs 15 1 11]], [iN [3, 23] 3, iN [4, 5] 3, iN [1, 4, 0, 0, 0, 0, 0, 0, 0, 0, 0] 162], .tuple #[zn, .bool false], []⟩,
  ⟨130, [.agg #[zi 9, zs 13 2 1, zs 14 2 1, zi 0, zi 0, zi 184, zm, zi 1, .bool false, zi 0], .agg #[zi 9, zs 15 1 11]], [iN [4, 25] 3, iN [4, 5] 3, iN [1, 4, 0, 0, 0, 0, 0, 0, 0, 0, 0] 162], .tuple #[zn, .bool false], []⟩,
  ⟨130, [.agg #[zi 9, zs 13 2 1, zs 14 2 1, zi 0, zi 0, zi 198, zi 0, zi 0, .bool false, zi 0], .agg #[zi 9, zs 15 1 11]], [iN [7, 20] 3, iN [2, 5] 3, iN [1, 4, 0, 0, 0, 0, 0, 0, 0, 0, 0] 162], .tuple #[zn, .bool false], []⟩,
  ⟨130, [.agg #[zi 9, zs 13 2 1, zs 14 2 1, zi 1, zi 0, zi 199, zi 0, zi 0, .bool false, zi 0], .agg #[zi 9, zs 15 1 11]], [iN [8, 22] 3, iN [2, 5] 3, iN [1, 4, 0, 0, 0, 0, 0, 0, 0, 0, 0] 162], .tuple #[zn, .bool false], []⟩,
  ⟨130, [.agg #[zi 9, zs 13 2 1, zs 14 2 1, zi 0, zi 0, zi 199, zi 0, zi 0, .bool false, zi 0], .agg #[zi 9, zs 15 1 11]], [iN [9, 23] 3, iN [2, 5] 3, iN [1, 4, 0, 0, 0, 0, 0, 0, 0, 0, 0] 162], .tuple #[zn, .bool false], []⟩,
  ⟨130, [.agg #[zi 9, zs 13 2 1, zs 14 2 1, zi 0, zi 0, zi 199, zi 0, zi 1, .bool false, zi 0], .agg #[zi 9, zs 15 1 11]], [iN [10, 24] 3, iN [2, 5] 3, iN [1, 4, 0, 0, 0, 0, 0, 0, 0, 0, 0] 162], .tuple #[zn, .bool false], []⟩,
  ⟨130, [.agg #[zi 1, zs 13 2 1, zs 14 2 1, zi 0, zi 0, zi 4, zm, zi 0, .bool false, zi 0], .agg #[zi 1, zs 15 2 11]], [iN [28, 20] 3, iN [6, 5] 3, iN [1, 4, 0, 0, 0, 0, 0, 0, 0, 0, 0, 3, 0, 0, 0, 0, 0, 0, 0, 0, 0, 5] 162], .tuple #[zn, .bool false], []⟩]
noncomputable def ms4_1 : List SumI := [ -- 130 7185
  ⟨130, [.agg #[zi 1, zs 13 2 1, zs 14 2 1, zi 1, zi 0, zi 5, zm, zi 0, .bool false, zi 0], .agg #[zi 1, zs 15 2 11]], [iN [29, 22] 3, iN [6, 5] 3, iN [1, 4, 0, 0, 0, 0, 0, 0, 0, 0, 0, 3, 0, 0, 0, 0, 0, 0, 0, 0, 0, 5] 162], .tuple #[zn, .bool false], []⟩,
  ⟨130, [.agg #[zi 1, zs 13 2 1, zs 14 2 1, zi 0, zi 0, zi 5, zm, zi 0, .bool false, zi 0], .agg #[zi 1, zs 15 2 11]], [iN [30, 23] 3, iN [6, 5] 3, iN [1, 4, 0, 0, 0, 0, 0, 0, 0, 0, 0, 3, 0, 0, 0, 0, 0, 0, 0, 0, 0, 5] 162], .tuple #[zs 18 2 3, .bool true], [⟨134, [zu 5, zu 5, zu 0, zu 0, zu 0], 5, false⟩,
    ⟨140, [zu 64, zu 5, zu 5, zu 0, zu 0, zu 0], 5, false⟩,
    ⟨143, [zs 16 5 1, zi 0, zm, zs 17 6 1, zi 0, zm], 72, false⟩]⟩,
  ⟨130, [.agg #[zi 1, zs 13 2 1, zs 14 2 1, zi 0, zi 0, zi 5, zm, zi 1, .bool false, zi 0], .agg #[zi 1, zs 15 2 11]], [iN [31, 24] 3, iN [6, 5] 3, iN [1, 4, 0, 0, 0, 0, 0, 0, 0, 0, 0, 3, 0, 0, 0, 0, 0, 0, 0, 0, 0, 5] 162], .tuple #[zn, .bool false], []⟩,
  ⟨130, [.agg #[zi 1, zs 13 2 1, zs 14 2 1, zi 0, zi 0, zi 128, zi 0, zi 0, .bool false, zi 0], .agg #[zi 1, zs 15 2 11]], [iN [7, 20] 3, iN [2, 5] 3, iN [1, 4, 0, 0, 0, 0, 0, 0, 0, 0, 0, 3, 0, 0, 0, 0, 0, 0, 0, 0, 0, 5] 162], .tuple #[zn, .bool false], []⟩]
noncomputable def ms4_2 : List SumI := [ -- 130 7461
  ⟨130, [.agg #[zi 1, zs 13 2 1, zs 14 2 1, zi 1, zi 0, zi 129, zi 0, zi 0, .bool false, zi 0], .agg #[zi 1, zs 15 2 11]], [iN [8, 22] 3, iN [2, 5] 3, iN [1, 4, 0, 0, 0, 0, 0, 0, 0, 0, 0, 3, 0, 0, 0, 0, 0, 0, 0, 0, 0, 5] 162], .tuple #[zn, .bool false], []⟩,
  ⟨130, [.agg #[zi 1, zs 13 2 1, zs 14 2 1, zi 0, zi 0, zi 129, zi 0, zi 0, .bool false, zi 0], .agg #[zi 1, zs 15 2 11]], [iN [9, 23] 3, iN [2, 5] 3, iN [1, 4, 0, 0, 0, 0, 0, 0, 0, 0, 0, 3, 0, 0, 0, 0, 0, 0, 0, 0, 0, 5] 162], .tuple #[zs 18 2 3, .bool true], [⟨144, [zu 129, zu 192, zu 5, zu 0, zu 0, zu 0], 5, false⟩,
    ⟨151, [zu 64, zu 129, zu 192, zu 5, zu 0, zu 0, zu 0], 5, false⟩,
    ⟨154, [zs 16 6 1, zi 0, zm, zs 17 7 1, zi 0, zm], 72, false⟩]⟩,
  ⟨130, [.agg #[zi 1, zs 13 2 1, zs 14 2 1, zi 0, zi 0, zi 129, zi 0, zi 1, .bool false, zi 0], .agg #[zi 1, zs 15 2 11]], [iN [10, 24] 3, iN [2, 5] 3, iN [1, 4, 0, 0, 0, 0, 0, 0, 0, 0, 0, 3, 0, 0, 0, 0, 0, 0, 0, 0, 0, 5] 162], .tuple #[zn, .bool false], []⟩,
  ⟨130, [.agg #[zi 1, zs 13 2 1, zs 14 2 1, zi 1, zi 0, zi 131, zi 0, zi 0, .bool false, zi 0], .agg #[zi 1, zs 15 2 11]], [iN [8, 21] 3, iN [2, 5] 3, iN [1, 4, 0, 0, 0, 0, 0, 0, 0, 0, 0, 3, 0, 0, 0, 0, 0, 0, 0, 0, 0, 5] 162], .tuple #[zn, .bool false], []⟩]
noncomputable def ms4_3 : List SumI := [ -- 130 7439
  ⟨130, [.agg #[zi 1, zs 13 2 1, zs 14 2 1, zi 0, zi 0, zi 131, zi 0, zi 0, .bool false, zi 0], .agg #[zi 1, zs 15 2 11]], [iN [9, 21] 3, iN [2, 5] 3, iN [1, 4, 0, 0, 0, 0, 0, 0, 0, 0, 0, 3, 0, 0, 0, 0, 0, 0, 0, 0, 0, 5] 162], .tuple #[zs 18 2 3, .bool true], [⟨144, [zu 131, zu 192, zu 5], 5, false⟩,
    ⟨151, [zu 64, zu 131, zu 192, zu 5], 5, false⟩,
    ⟨154, [zs 16 3 1, zi 0, zm, zs 17 4 1, zi 0, zm], 72, false⟩]⟩,
  ⟨130, [.agg #[zi 1, zs 13 2 1, zs 14 2 1, zi 0, zi 0, zi 131, zi 0, zi 1, .bool false, zi 0], .agg #[zi 1, zs 15 2 11]], [iN [10, 21] 3, iN [2, 5] 3, iN [1, 4, 0, 0, 0, 0, 0, 0, 0, 0, 0, 3, 0, 0, 0, 0, 0, 0, 0, 0, 0, 5] 162], .tuple #[zn, .bool false], []⟩,
  ⟨130, [.agg #[zi 1, zs 13 2 1, zs 14 2 1, zi 0, zi 0, zi 0, zm, zi 0, .bool false, zi 0], .agg #[zi 1, zs 15 2 11]], [iN [7, 1] 3, iN [2, 1] 3, iN [1, 4, 0, 0, 0, 0, 0, 0, 0, 0, 0, 3, 0, 0, 0, 0, 0, 0, 0, 0, 0, 5] 162], .tuple #[zn, .bool false], []⟩,
  ⟨130, [.agg #[zi 1, zs 13 2 1, zs 14 2 1, zi 1, zi 0, zi 1, zm, zi 0, .bool false, zi 0], .agg #[zi 1, zs 15 2 11]], [iN [8, 2] 3, iN [2, 1] 3, iN [1, 4, 0, 0, 0, 0, 0, 0, 0, 0, 0, 3, 0, 0, 0, 0, 0, 0, 0, 0, 0, 5] 162], .tuple #[zn, .bool false], []⟩]
noncomputable def ms4_4 : List SumI := [ -- 130 7278
  ⟨130, [.agg #[zi 1, zs 13 2 1, zs 14 2 1, zi 0, zi 0, zi 1, zm, zi 0, .bool false, zi 0], .agg #[zi 1, zs 15 2 11]], [iN [9, 3] 3, iN [2, 1] 3, iN [1, 4, 0, 0, 0, 0, 0, 0, 0, 0, 0, 3, 0, 0, 0, 0, 0, 0, 0, 0, 0, 5] 162], .tuple #[zn, .bool false], []⟩,
  ⟨130, [.agg #[zi 1, zs 13 2 1, zs 14 2 1, zi 0, zi 0, zi 1, zm, zi 1, .bool false, zi 0], .agg #[zi 1, zs 15 2 11]], [iN [10, 4] 3, iN [2, 1] 3, iN [1, 4, 0, 0, 0, 0, 0, 0, 0, 0, 0, 3, 0, 0, 0, 0, 0, 0, 0, 0, 0, 5] 162], .tuple #[zn, .bool false], []⟩,
  ⟨130, [.agg #[zi 1, zs 13 2 1, zs 14 2 1, zi 0, zi 0, zi 2, zm, zi 0, .bool false, zi 0], .agg #[zi 1, zs 15 2 11]], [iN [1, 7] 3, iN [1, 2] 3, iN [1, 4, 0, 0, 0, 0, 0, 0, 0, 0, 0, 3, 0, 0, 0, 0, 0, 0, 0, 0, 0, 5] 162], .tuple #[zn, .bool false], []⟩,
  ⟨130, [.agg #[zi 1, zs 13 2 1, zs 14 2 1, zi 1, zi 0, zi 3, zm, zi 0, .bool false, zi 0], .agg #[zi 1, zs 15 2 11]], [iN [2, 8] 3, iN [1, 2] 3, iN [1, 4, 0, 0, 0, 0, 0, 0, 0, 0, 0, 3, 0, 0, 0, 0, 0, 0, 0, 0, 0, 5] 162], .tuple #[zn, .bool false], []⟩,
  ⟨130, [.agg #[zi 1, zs 13 2 1, zs 14 2 1, zi 0, zi 0, zi 3, zm, zi 0, .bool false, zi 0], .agg #[zi 1, zs 15 2 11]], [iN [3, 9] 3, iN [1, 2] 3, iN [1, 4, 0, 0, 0, 0, 0, 0, 0, 0, 0, 3, 0, 0, 0, 0, 0, 0, 0, 0, 0, 5] 162], .tuple #[zn, .bool false], []⟩]
noncomputable def ms4_5 : List SumI := [ -- 130 1401
  ⟨130, [.agg #[zi 1, zs 13 2 1, zs 14 2 1, zi 0, zi 0, zi 3, zm, zi 1, .bool false, zi 0], .agg #[zi 1, zs 15 2 11]], [iN [4, 10] 3, iN [1, 2] 3, iN [1, 4, 0, 0, 0, 0, 0, 0, 0, 0, 0, 3, 0, 0, 0, 0, 0, 0, 0, 0, 0, 5] 162], .tuple #[zn, .bool false], []⟩]
noncomputable def msel5 : FuncId → List SumI := fun f => bif Nat.beq f 130 then ms4_0 ++ ms4_1 ++ ms4_2 ++ ms4_3 ++ ms4_4 ++ ms4_5 else msel4 f
noncomputable def more5 : CallF := orKnown knZ (byFn Tryz.prog.globals.size tab.tabs msel5)
noncomputable def ms5_0 : List SumI := [ -- 69 3580
  ⟨69, [.agg #[zi 50, .slice (some ⟨13, 0, none⟩) 0 0], zs 14 3 10], [iN [] 162, iF [[50, 0, 0, 0, 0, 0, 0, 0, 0, 144, 0, 1, 0, 0],
    [50, 15, 1, 1, 16, 1, 1, 1, 1, 31, 1, 1, 0, 0],
    [50, 17, 1, 1, 18, 1, 1, 0, 1, 31, 1, 1, 0, 0]] 150, iN [8] 3, iN [2] 3, iN [9] 3, iN [2] 3], zs 21 2 3, [⟨35, [zu 144], 5, false⟩,
    ⟨36, [zu 64, zu 144], 5, false⟩,
    ⟨43, [zs 19 1 1, zi 0, zm, zs 20 2 1, zi 0, zm], 72, false⟩]⟩,
  ⟨69, [.agg #[zi 54, .slice (some ⟨13, 0, none⟩) 1 1], zs 14 3 10], [([zi 4, zi 0, zi 0, zi 0, zi 0, zi 0, zi 0, zi 0, zi 0, zi 0, .int .i64 (.negSucc 1)], 162), iF [[54, 15, 1, 1, 16, 1, 1, 0, 0, 235, 0, 1, 0, 0],
    [54, 17, 1, 1, 18, 1, 1, 0, 0, 233, 0, 1, 0, 0],
    [54, 19, 1, 1, 20, 1, 1, 0, 0, 255, 5, 1, 0, 0]] 150, iN [26] 3, iN [5] 3, iN [27] 3, iN [5] 3, iN [10] 3, iN [2] 3], zs 25 4 3, [⟨46, [zu 235, zu 254], 5, false⟩,
    ⟨47, [zu 64, zu 235, zu 254], 5, false⟩,
    ⟨56, [zu 233, zu 254, zu 255, zu 255, zu 255], 5, false⟩,
    ⟨57, [zu 64, zu 233, zu 254, zu 255, zu 255, zu 255], 5, false⟩,
    ⟨64, [zs 21 2 1, zi 0, zm, zs 22 3 1, zi 0, zm, zs 23 5 1, zi 1, zm, zs 24 6 1, zi 1, zm], 72, false⟩]⟩,
  ⟨69, [.agg #[zi 9, .slice (some ⟨13, 0, none⟩) 1 1], zs 14 16 10], [iN [1, 4, 0, 0, 0, 0, 0, 0, 0, 0, 0] 162, iF [[9, 15, 2, 1, 16, 2, 1, 0, 0, 136, 0, 1, 0, 0],
    [9, 17, 2, 1, 18, 2, 1, 1, 0, 137, 0, 1, 0, 0],
    [9, 19, 2, 1, 20, 2, 1, 0, 0, 137, 0, 1, 0, 0],
    [9, 21, 2, 1, 22, 2, 1, 0, 0, 137, 0, 2, 0, 0],
    [9, 23, 2, 1, 24, 2, 1, 0, 0, 138, 0, 1, 0, 0],
    [9, 25, 2, 1, 26, 2, 1, 1, 0, 139, 0, 1, 0, 0],
    [9, 27, 2, 1, 28, 2, 1, 0, 0, 139, 0, 1, 0, 0],
    [9, 29, 2, 1, 30, 2, 1, 0, 0, 139, 0, 2, 0, 0],
    [9, 31, 2, 1, 32, 2, 1, 0, 0, 176, 0, 1, 0, 0],
    [9, 33, 2, 1, 34, 2, 1, 1, 0, 184, 0, 1, 0, 0],
    [9, 35, 2, 1, 36, 2, 1, 0, 0, 184, 0, 1, 0, 0],
    [9, 37, 2, 1, 38, 2, 1, 0, 0, 184, 0, 2, 0, 0],
    [9, 39, 2, 1, 40, 2, 1, 0, 0, 198, 1, 1, 0, 0],
    [9, 41, 2, 1, 42, 2, 1, 1, 0, 199, 1, 1, 0, 0],
    [9, 43, 2, 1, 44, 2, 1, 0, 0, 199, 1, 1, 0, 0],
    [9, 45, 2, 1, 46, 2, 1, 0, 0, 199, 1, 2, 0, 0]] 150, iN [7, 1] 3, iN [2, 1] 3, iN [8, 2] 3, iN [2, 1] 3, iN [9, 3] 3, iN [2, 1] 3, iN [10, 4] 3, iN [2, 1] 3, iN [1, 7] 3, iN [1, 2] 3, iN [2, 8] 3, iN [1, 2] 3, iN [3, 9] 3, iN [1, 2] 3, iN [4, 10] 3, iN [1, 2] 3, iN [1, 20] 3, iN [4, 5] 3, iN [2, 22] 3, iN [4, 5] 3, iN [3, 23] 3, iN [4, 5] 3, iN [4, 25] 3, iN [4, 5] 3, iN [7, 20] 3, iN [2, 5] 3, iN [8, 22] 3, iN [2, 5] 3, iN [9, 23] 3, iN [2, 5] 3, iN [10, 24] 3, iN [2, 5] 3], zn, []⟩,
  ⟨69, [.agg #[zi 1, .slice (some ⟨13, 0, none⟩) 2 2], zs 14 19 10], [iN [1, 4, 0, 0, 0, 0, 0, 0, 0, 0, 0, 3, 0, 0, 0, 0, 0, 0, 0, 0, 0, 5] 162, iF [[1, 15, 2, 1, 16, 2, 1, 0, 0, 4, 0, 1, 0, 0],
    [1, 17, 2, 1, 18, 2, 1, 1, 0, 5, 0, 1, 0, 0],
    [1, 19, 2, 1, 20, 2, 1, 0, 0, 5, 0, 1, 0, 0],
    [1, 21, 2, 1, 22, 2, 1, 0, 0, 5, 0, 2, 0, 0],
    [1, 23, 2, 1, 24, 2, 1, 0, 0, 128, 1, 1, 0, 0],
    [1, 25, 2, 1, 26, 2, 1, 1, 0, 129, 1, 1, 0, 0],
    [1, 27, 2, 1, 28, 2, 1, 0, 0, 129, 1, 1, 0, 0],
    [1, 29, 2, 1, 30, 2, 1, 0, 0, 129, 1, 2, 0, 0],
    [1, 31, 2, 1, 32, 2, 1, 1, 0, 131, 1, 1, 0, 0],
    [1, 33, 2, 1, 34, 2, 1, 0, 0, 131, 1, 1, 0, 0],
    [1, 35, 2, 1, 36, 2, 1, 0, 0, 131, 1, 2, 0, 0],
    [1, 37, 2, 1, 38, 2, 1, 0, 0, 0, 0, 1, 0, 0],
    [1, 39, 2, 1, 40, 2, 1, 1, 0, 1, 0, 1, 0, 0],
    [1, 41, 2, 1, 42, 2, 1, 0, 0, 1, 0, 1, 0, 0],
    [1, 43, 2, 1, 44, 2, 1, 0, 0, 1, 0, 2, 0, 0],
    [1, 45, 2, 1, 46, 2, 1, 0, 0, 2, 0, 1, 0, 0],
    [1, 47, 2, 1, 48, 2, 1, 1, 0, 3, 0, 1, 0, 0],
    [1, 49, 2, 1, 50, 2, 1, 0, 0, 3, 0, 1, 0, 0],
    [1, 51, 2, 1, 52, 2, 1, 0, 0, 3, 0, 2, 0, 0]] 150, iN [28, 20] 3, iN [6, 5] 3, iN [29, 22] 3, iN [6, 5] 3, iN [30, 23] 3, iN [6, 5] 3, iN [31, 24] 3, iN [6, 5] 3, iN [7, 20] 3, iN [2, 5] 3, iN [8, 22] 3, iN [2, 5] 3, iN [9, 23] 3, iN [2, 5] 3, iN [10, 24] 3, iN [2, 5] 3, iN [8, 21] 3, iN [2, 5] 3, iN [9, 21] 3, iN [2, 5] 3, iN [10, 21] 3, iN [2, 5] 3, iN [7, 1] 3, iN [2, 1] 3, iN [8, 2] 3, iN [2, 1] 3, iN [9, 3] 3, iN [2, 1] 3, iN [10, 4] 3, iN [2, 1] 3, iN [1, 7] 3, iN [1, 2] 3, iN [2, 8] 3, iN [1, 2] 3, iN [3, 9] 3, iN [1, 2] 3, iN [4, 10] 3, iN [1, 2] 3], zs 59 6 3, [⟨100, [zu 5, zu 5, zu 0, zu 0, zu 0], 5, false⟩,
    ⟨101, [zu 64, zu 5, zu 5, zu 0, zu 0, zu 0], 5, false⟩,
    ⟨113, [zu 129, zu 192, zu 5, zu 0, zu 0, zu 0], 5, false⟩,
    ⟨114, [zu 64, zu 129, zu 192, zu 5, zu 0, zu 0, zu 0], 5, false⟩,
    ⟨125, [zu 131, zu 192, zu 5], 5, false⟩,
    ⟨126, [zu 64, zu 131, zu 192, zu 5], 5, false⟩,
    ⟨133, [zs 53 5 1, zi 2, zm, zs 54 6 1, zi 2, zm, zs 55 6 1, zi 6, zm, zs 56 7 1, zi 6, zm, zs 57 3 1, zi 9, zm, zs 58 4 1, zi 9, zm], 72, false⟩]⟩]
noncomputable def msel6 : FuncId → List SumI := fun f => bif Nat.beq f 69 then ms5_0 else msel5 f
noncomputable def more6 : CallF := orKnown knZ (byFn Tryz.prog.globals.size tab.tabs msel6)
noncomputable def ms6_0 : List SumI := [ -- 34 1359
  ⟨34, [.agg #[zi 50, .slice (some ⟨13, 0, none⟩) 0 0], zi 0], [iN [] 162], .tuple #[zs 14 1 1, zi 0], [⟨23, [zu 144], 5, false⟩]⟩,
  ⟨34, [.agg #[zi 54, .slice (some ⟨13, 0, none⟩) 1 1], zi 1], [([zi 4, zi 0, zi 0, zi 0, zi 0, zi 0, zi 0, zi 0, zi 0, zi 0, .int .i64 (.negSucc 1)], 162)], .tuple #[zs 14 2 1, zi 0], [⟨26, [zu 235, zu 254], 5, false⟩]⟩,
  ⟨34, [.agg #[zi 9, .slice (some ⟨13, 0, none⟩) 1 1], zi 0], [iN [1, 4, 0, 0, 0, 0, 0, 0, 0, 0, 0] 162], .tuple #[zn, zi 8], []⟩,
  ⟨34, [.agg #[zi 1, .slice (some ⟨13, 0, none⟩) 2 2], zi 0], [iN [1, 4, 0, 0, 0, 0, 0, 0, 0, 0, 0, 3, 0, 0, 0, 0, 0, 0, 0, 0, 0, 5] 162], .tuple #[zs 14 3 1, zi 0], [⟨72, [zu 131, zu 192, zu 5], 5, false⟩]⟩]
noncomputable def msel7 : FuncId → List SumI := fun f => bif Nat.beq f 34 then ms6_0 else msel6 f
noncomputable def more7 : CallF := orKnown knZ (byFn Tryz.prog.globals.size tab.tabs msel7)
noncomputable def ms7_0 : List SumI := [ -- 66 1000
  ⟨66, [.agg #[zi 50, zn]], [], .tuple #[.agg #[zi 50, .slice (some ⟨13, 0, none⟩) 0 0], zi 0], [rN 25 [] 162]⟩,
  ⟨66, [.agg #[zi 54, zs 13 1 11]], [([zi 4, zi 0, zi 0, zi 0, zi 0, zi 0, zi 0, zi 0, zi 0, zi 0, .int .i64 (.negSucc 1)], 162)], .tuple #[.agg #[zi 54, .slice (some ⟨14, 0, none⟩) 1 1], zi 0], [⟨30, [zi 4, zi 0, zi 0, zi 0, zi 0, zi 0, zi 0, zi 0, zi 0, zi 0, .int .i64 (.negSucc 1)], 162, false⟩]⟩,
  ⟨66, [.agg #[zi 9, zs 13 1 11]], [iN [1, 4, 0, 0, 0, 0, 0, 0, 0, 0, 0] 162], .tuple #[.agg #[zi 9, .slice (some ⟨14, 0, none⟩) 1 1], zi 0], [rN 57 [1, 4, 0, 0, 0, 0, 0, 0, 0, 0, 0] 162]⟩,
  ⟨66, [.agg #[zi 1, zs 13 2 11]], [iN [1, 4, 0, 0, 0, 0, 0, 0, 0, 0, 0, 3, 0, 0, 0, 0, 0, 0, 0, 0, 0, 5] 162], .tuple #[.agg #[zi 1, .slice (some ⟨14, 0, none⟩) 2 2], zi 0], [rN 73 [1, 4, 0, 0, 0, 0, 0, 0, 0, 0, 0, 3, 0, 0, 0, 0, 0, 0, 0, 0, 0, 5] 162]⟩]
noncomputable def msel8 : FuncId → List SumI := fun f => bif Nat.beq f 66 then ms7_0 else msel7 f
noncomputable def more8 : CallF := orKnown knZ (byFn Tryz.prog.globals.size tab.tabs msel8)
noncomputable def ms8_0 : List SumI := [ -- 37 40923
  ⟨37, [.slice (some ⟨13, 0, none⟩) 1 1], [([zu 15], 5)], .tuple #[.agg #[zi 0, zn], zi 0, zi 9], []⟩]
noncomputable def ms8_1 : List SumI := [ -- 37 2894
  ⟨37, [.slice (some ⟨13, 0, none⟩) 2 2], [([zu 144, zu 6], 5)], .tuple #[.agg #[zi 50, zn], zi 1, zi 0], []⟩,
  ⟨37, [.slice (some ⟨13, 1, none⟩) 1 1], [([zu 144, zu 6], 5)], .tuple #[.agg #[zi 0, zn], zi 0, zi 4], []⟩,
  ⟨37, [.slice (some ⟨13, 0, none⟩) 3 3], [([zu 131, zu 192, zu 5], 5)], .tuple #[.agg #[zi 1, zs 14 2 11], zi 3, zi 0], [rN 99 [1, 4, 0, 0, 0, 0, 0, 0, 0, 0, 0, 3, 0, 0, 0, 0, 0, 0, 0, 0, 0, 5] 162]⟩]
noncomputable def msel9 : FuncId → List SumI := fun f => bif Nat.beq f 37 then ms8_0 ++ ms8_1 else msel8 f
noncomputable def more9 : CallF := orKnown knZ (byFn Tryz.prog.globals.size tab.tabs msel9)
noncomputable def ms9_0 : List SumI := [ -- 45 4147
  ⟨45, [.string (mkS [110, 111, 112, 10, 97, 58, 32, 106, 109, 112, 32, 97])], [], .tuple #[.agg #[zi 0, zn, zs 15 3 9], .agg #[zi 0, zi 0]], [⟨151, [zi 4, zi 0, zi 0, zi 0, zi 0, zi 0, zi 0, zi 0, zi 0, zi 0, zs 14 1 5, .bool false], 225, false⟩,
    ⟨154, [zi 2, zi 0, .string (mkS [97]), zi 0, zi 0], 289, false⟩,
    ⟨159, [zi 1, zi 2, .string (mkS []), zi 50, zi 0, zn, zn, zn, zi 0, zi 2, zi 1, .string (mkS [97]), zi 0, zi 0, zn, zn, zn, zi 0, zi 2, zi 2, .string (mkS []), zi 54, zi 0, zs 13 1 12, zn, zn, zi 0], 189, false⟩]⟩]
noncomputable def ms9_1 : List SumI := [ -- 45 4754
  ⟨45, [.string (mkS [110, 111, 112, 10, 97, 58, 32, 106, 109, 112, 32, 97, 10, 120])], [], .tuple #[.agg #[zi 0, zn, zn], .agg #[zi 4, zi 3]], []⟩]
noncomputable def msel10 : FuncId → List SumI := fun f => bif Nat.beq f 45 then ms9_0 ++ ms9_1 else msel9 f
noncomputable def more10 : CallF := orKnown knZ (byFn Tryz.prog.globals.size tab.tabs msel10)
noncomputable def ms10_0 : List SumI := [ -- 49 674
  ⟨49, [zs 13 3 7, zi 0], [iN [1, 1, 0, 0, 0, 0, 0, 1, 0, 0, 0, 0, 0, 0, 2, 0, 2, 5, 1, 0, 0] 106], .tuple #[.agg #[.slice (some ⟨14, 0, none⟩) 4 4, .slice (some ⟨15, 0, none⟩) 3 3, zi 1], zi 0], [rN 28 [0, 1, 1, 3] 3,
    ⟨29, [.bool false, .bool false, .bool false], 4, false⟩]⟩]
noncomputable def msel11 : FuncId → List SumI := fun f => bif Nat.beq f 49 then ms10_0 else msel10 f
noncomputable def more11 : CallF := orKnown knZ (byFn Tryz.prog.globals.size tab.tabs msel11)
noncomputable def ms11_0 : List SumI := [ -- 24 2217
  ⟨24, [.string (mkS [110, 111, 112, 10, 97, 58, 32, 106, 109, 112, 32, 97])], [], .tuple #[.agg #[zi 0, zs 13 3 1, zs 15 1 3, zs 14 2 3], .agg #[zi 0, zi 0]], [⟨111, [zu 144, zu 235, zu 254], 5, false⟩,
    rN 113 [1, 0, 1, 2, 1, 2] 124,
    ⟨117, [.string (mkS [97]), zi 1, .bool true], 121, false⟩]⟩,
  ⟨24, [.string (mkS [110, 111, 112, 10, 97, 58, 32, 106, 109, 112, 32, 97, 10, 120])], [], .tuple #[.agg #[zi 0, zn, zn, zn], .agg #[zi 4, zi 3]], []⟩]
noncomputable def msel12 : FuncId → List SumI := fun f => bif Nat.beq f 24 then ms11_0 else msel11 f
noncomputable def more12 : CallF := orKnown knZ (byFn Tryz.prog.globals.size tab.tabs msel12)
end Go.Proofs.YtfdeejjmfbfjnaaGreatDoor.code
