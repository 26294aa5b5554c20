/- What more closed calls give. -/
import Derived.Test.YtbkbdnlfkahaaaaGreatDoorLibE
namespace Go.Proofs.YtbkbdnlfkahaaaaGreatDoor.code
open Go.Ab _root_.Go.Proofs.YtbkbdnlfkahaaaaGreatDoor.tab
set_option maxRecDepth 100000
noncomputable def zu (n : Nat) : Value := .int .u8 (.ofNat n)
noncomputable def zi (n : Nat) : Value := .int .i64 (.ofNat n)
noncomputable def zs (b n c : Nat) : Value := .slice (some ⟨b, 0, none⟩) n (UNK + c)
noncomputable def zm : Value := .int .i64 (.negSucc 0)
noncomputable def zn : Value := .slice none 0 0
noncomputable def msel0 : FuncId → List SumI := fun _ => []
noncomputable def ms0_0 : List SumI := [ -- 153 3016
  ⟨153, [.string (mkS [110, 111, 112])], [], .tuple #[zi 50, .bool true], []⟩]
noncomputable def ms0_1 : List SumI := [ -- 153 19484
  ⟨153, [.string (mkS [97])], [], .tuple #[zi 0, .bool false], []⟩]
noncomputable def ms0_2 : List SumI := [ -- 153 3812
  ⟨153, [.string (mkS [106, 109, 112])], [], .tuple #[zi 54, .bool true], []⟩,
  ⟨153, [.string (mkS [109, 111, 118])], [], .tuple #[zi 9, .bool true], []⟩]
noncomputable def msel1 : FuncId → List SumI := fun f => bif Nat.beq f 153 then ms0_0 ++ ms0_1 ++ ms0_2 else msel0 f
noncomputable def more1 : CallF := orKnown knZ (byFn Tryz.prog.globals.size tab.tabs msel1)
noncomputable def ms1_0 : List SumI := [ -- 252 23391
  ⟨252, [.string (mkS [97])], [], .tuple #[.agg #[zi 0, zi 0], .bool false], []⟩]
noncomputable def ms1_1 : List SumI := [ -- 252 11108
  ⟨252, [.string (mkS [101, 97, 120])], [], .tuple #[.agg #[zi 4, zi 0], .bool true], []⟩]
noncomputable def msel2 : FuncId → List SumI := fun f => bif Nat.beq f 252 then ms1_0 ++ ms1_1 else msel1 f
noncomputable def more2 : CallF := orKnown knZ (byFn Tryz.prog.globals.size tab.tabs msel2)
noncomputable def ms2_0 : List SumI := [ -- 228 7506
  ⟨228, [.agg #[zi 50, zn, zn, zi 0, zi 0, zi 144, zm, zi 0, .bool false, zi 0], .agg #[zi 50, .slice (some ⟨13, 0, none⟩) 0 0]], [iN [] 168], .tuple #[zs 16 2 3, .bool true], [⟨93, [zu 144], 5, false⟩,
    ⟨98, [zu 64, zu 144], 5, false⟩,
    ⟨101, [zs 14 1 1, zi 0, zm, zs 15 2 1, zi 0, zm], 281, false⟩]⟩,
  ⟨228, [.agg #[zi 50, zs 13 1 1, zs 14 1 1, zi 1, zi 1, zi 31, zi 0, zi 0, .bool false, zi 0], .agg #[zi 50, .slice (some ⟨15, 0, none⟩) 0 0]], [iN [8] 3, iN [2] 3, iN [] 168], .tuple #[zn, .bool false], []⟩,
  ⟨228, [.agg #[zi 50, zs 13 1 1, zs 14 1 1, zi 0, zi 1, zi 31, zi 0, zi 0, .bool false, zi 0], .agg #[zi 50, .slice (some ⟨15, 0, none⟩) 0 0]], [iN [9] 3, iN [2] 3, iN [] 168], .tuple #[zn, .bool false], []⟩,
  ⟨228, [.agg #[zi 54, zs 13 1 1, zs 14 1 1, zi 0, zi 0, zi 235, zm, zi 0, .bool false, zi 0], .agg #[zi 54, zs 15 1 11]], [iN [26] 3, iN [5] 3, ([zi 4, zi 0, zi 0, zi 0, zi 0, zi 0, zi 0, zi 0, zi 0, zi 0, .int .i64 (.negSucc 1)], 168)], .tuple #[zs 18 2 3, .bool true], [⟨105, [zu 235, zu 254], 5, false⟩,
    ⟨111, [zu 64, zu 235, zu 254], 5, false⟩,
    ⟨114, [zs 16 2 1, zi 0, zm, zs 17 3 1, zi 0, zm], 281, false⟩]⟩,
  ⟨228, [.agg #[zi 54, zs 13 1 1, zs 14 1 1, zi 0, zi 0, zi 233, zm, zi 0, .bool false, zi 0], .agg #[zi 54, zs 15 1 11]], [iN [27] 3, iN [5] 3, ([zi 4, zi 0, zi 0, zi 0, zi 0, zi 0, zi 0, zi 0, zi 0, zi 0, .int .i64 (.negSucc 1)], 168)], .tuple #[zs 18 2 3, .bool true], [⟨105, [zu 233, zu 254, zu 255, zu 255, zu 255], 5, false⟩,
    ⟨111, [zu 64, zu 233, zu 254, zu 255, zu 255, zu 255], 5, false⟩,
    ⟨114, [zs 16 5 1, zi 0, zm, zs 17 6 1, zi 0, zm], 281, false⟩]⟩,
  ⟨228, [.agg #[zi 54, zs 13 1 1, zs 14 1 1, zi 0, zi 0, zi 255, zi 4, zi 0, .bool false, zi 0], .agg #[zi 54, zs 15 1 11]], [iN [10] 3, iN [2] 3, ([zi 4, zi 0, zi 0, zi 0, zi 0, zi 0, zi 0, zi 0, zi 0, zi 0, .int .i64 (.negSucc 1)], 168)], .tuple #[zn, .bool false], []⟩,
  ⟨228, [.agg #[zi 9, zs 13 2 1, zs 14 2 1, zi 0, zi 0, zi 136, zm, zi 0, .bool false, zi 0], .agg #[zi 9, zs 15 2 11]], [iN [7, 1] 3, iN [2, 1] 3, iN [1, 4, 0, 0, 0, 0, 0, 0, 0, 0, 0, 3, 0, 0, 0, 0, 0, 0, 0, 0, 0, 16] 168], .tuple #[zn, .bool false], []⟩]
noncomputable def ms2_1 : List SumI := [ -- 228 7332
  ⟨228, [.agg #[zi 9, zs 13 2 1, zs 14 2 1, zi 1, zi 0, zi 137, zm, zi 0, .bool false, zi 0], .agg #[zi 9, zs 15 2 11]], [iN [8, 2] 3, iN [2, 1] 3, iN [1, 4, 0, 0, 0, 0, 0, 0, 0, 0, 0, 3, 0, 0, 0, 0, 0, 0, 0, 0, 0, 16] 168], .tuple #[zn, .bool false], []⟩,
  ⟨228, [.agg #[zi 9, zs 13 2 1, zs 14 2 1, zi 0, zi 0, zi 137, zm, zi 0, .bool false, zi 0], .agg #[zi 9, zs 15 2 11]], [iN [9, 3] 3, iN [2, 1] 3, iN [1, 4, 0, 0, 0, 0, 0, 0, 0, 0, 0, 3, 0, 0, 0, 0, 0, 0, 0, 0, 0, 16] 168], .tuple #[zn, .bool false], []⟩,
  ⟨228, [.agg #[zi 9, zs 13 2 1, zs 14 2 1, zi 0, zi 0, zi 137, zm, zi 1, .bool false, zi 0], .agg #[zi 9, zs 15 2 11]], [iN [10, 4] 3, iN [2, 1] 3, iN [1, 4, 0, 0, 0, 0, 0, 0, 0, 0, 0, 3, 0, 0, 0, 0, 0, 0, 0, 0, 0, 16] 168], .tuple #[zn, .bool false], []⟩,
  ⟨228, [.agg #[zi 9, zs 13 2 1, zs 14 2 1, zi 0, zi 0, zi 138, zm, zi 0, .bool false, zi 0], .agg #[zi 9, zs 15 2 11]], [iN [1, 7] 3, iN [1, 2] 3, iN [1, 4, 0, 0, 0, 0, 0, 0, 0, 0, 0, 3, 0, 0, 0, 0, 0, 0, 0, 0, 0, 16] 168], .tuple #[zn, .bool false], []⟩,
  ⟨228, [.agg #[zi 9, zs 13 2 1, zs 14 2 1, zi 1, zi 0, zi 139, zm, zi 0, .bool false, zi 0], .agg #[zi 9, zs 15 2 11]], [iN [2, 8] 3, iN [1, 2] 3, iN [1, 4, 0, 0, 0, 0, 0, 0, 0, 0, 0, 3, 0, 0, 0, 0, 0, 0, 0, 0, 0, 16] 168], .tuple #[zn, .bool false], []⟩]
noncomputable def ms2_2 : List SumI := [ -- 228 5860
  ⟨228, [.agg #[zi 9, zs 13 2 1, zs 14 2 1, zi 0, zi 0, zi 139, zm, zi 0, .bool false, zi 0], .agg #[zi 9, zs 15 2 11]], [iN [3, 9] 3, iN [1, 2] 3, iN [1, 4, 0, 0, 0, 0, 0, 0, 0, 0, 0, 3, 0, 0, 0, 0, 0, 0, 0, 0, 0, 16] 168], .tuple #[zn, .bool false], []⟩,
  ⟨228, [.agg #[zi 9, zs 13 2 1, zs 14 2 1, zi 0, zi 0, zi 139, zm, zi 1, .bool false, zi 0], .agg #[zi 9, zs 15 2 11]], [iN [4, 10] 3, iN [1, 2] 3, iN [1, 4, 0, 0, 0, 0, 0, 0, 0, 0, 0, 3, 0, 0, 0, 0, 0, 0, 0, 0, 0, 16] 168], .tuple #[zn, .bool false], []⟩,
  ⟨228, [.agg #[zi 9, zs 13 2 1, zs 14 2 1, zi 0, zi 0, zi 176, zm, zi 0, .bool false, zi 0], .agg #[zi 9, zs 15 2 11]], [iN [1, 20] 3, iN [4, 5] 3, iN [1, 4, 0, 0, 0, 0, 0, 0, 0, 0, 0, 3, 0, 0, 0, 0, 0, 0, 0, 0, 0, 16] 168], .tuple #[zn, .bool false], []⟩,
  ⟨228, [.agg #[zi 9, zs 13 2 1, zs 14 2 1, zi 1, zi 0, zi 184, zm, zi 0, .bool false, zi 0], .agg #[zi 9, zs 15 2 11]], [iN [2, 22] 3, iN [4, 5] 3, iN [1, 4, 0, 0, 0, 0, 0, 0, 0, 0, 0, 3, 0, 0, 0, 0, 0, 0, 0, 0, 0, 16] 168], .tuple #[zn, .bool false], []⟩]
noncomputable def ms2_3 : List SumI := [ -- 228 7472
  ⟨228, [.agg #[zi 9, zs 13 2 1, zs 14 2 1, zi 0, zi 0, zi 184, zm, zi 0, .bool false, zi 0], .agg #[zi 9, zs 15 2 11]], [iN [3, 23] 3, iN [4, 5] 3, iN [1, 4, 0, 0, 0, 0, 0, 0, 0, 0, 0, 3, 0, 0, 0, 0, 0, 0, 0, 0, 0, 16] 168], .tuple #[zs 18 2 3, .bool true], [⟨141, [zu 184, zu 16, zu 0, zu 0, zu 0], 5, false⟩,
    ⟨147, [zu 64, zu 184, zu 16, zu 0, zu 0, zu 0], 5, false⟩,
    ⟨150, [zs 16 5 1, zi 0, zm, zs 17 6 1, zi 0, zm], 281, false⟩]⟩,
  ⟨228, [.agg #[zi 9, zs 13 2 1, zs 14 2 1, zi 0, zi 0, zi 184, zm, zi 1, .bool false, zi 0], .agg #[zi 9, zs 15 2 11]], [iN [4, 25] 3, iN [4, 5] 3, iN [1, 4, 0, 0, 0, 0, 0, 0, 0, 0, 0, 3, 0, 0, 0, 0, 0, 0, 0, 0, 0, 16] 168], .tuple #[zn, .bool false], []⟩,
  ⟨228, [.agg #[zi 9, zs 13 2 1, zs 14 2 1, zi 0, zi 0, zi 198, zi 0, zi 0, .bool false, zi 0], .agg #[zi 9, zs 15 2 11]], [iN [7, 20] 3, iN [2, 5] 3, iN [1, 4, 0, 0, 0, 0, 0, 0, 0, 0, 0, 3, 0, 0, 0, 0, 0, 0, 0, 0, 0, 16] 168], .tuple #[zn, .bool false], []⟩,
  ⟨228, [.agg #[zi 9, zs 13 2 1, zs 14 2 1, zi 1, zi 0, zi 199, zi 0, zi 0, .bool false, zi 0], .agg #[zi 9, zs 15 2 11]], [iN [8, 22] 3, iN [2, 5] 3, iN [1, 4, 0, 0, 0, 0, 0, 0, 0, 0, 0, 3, 0, 0, 0, 0, 0, 0, 0, 0, 0, 16] 168], .tuple #[zn, .bool false], []⟩]
noncomputable def ms2_4 : List SumI := [ -- 228 7624
  ⟨228, [.agg #[zi 9, zs 13 2 1, zs 14 2 1, zi 0, zi 0, zi 199, zi 0, zi 0, .bool false, zi 0], .agg #[zi 9, zs 15 2 11]], [iN [9, 23] 3, iN [2, 5] 3, iN [1, 4, 0, 0, 0, 0, 0, 0, 0, 0, 0, 3, 0, 0, 0, 0, 0, 0, 0, 0, 0, 16] 168], .tuple #[zs 18 2 3, .bool true], [⟨144, [zu 199, zu 192, zu 16, zu 0, zu 0, zu 0], 5, false⟩,
    ⟨151, [zu 64, zu 199, zu 192, zu 16, zu 0, zu 0, zu 0], 5, false⟩,
    ⟨154, [zs 16 6 1, zi 0, zm, zs 17 7 1, zi 0, zm], 281, false⟩]⟩,
  ⟨228, [.agg #[zi 9, zs 13 2 1, zs 14 2 1, zi 0, zi 0, zi 199, zi 0, zi 1, .bool false, zi 0], .agg #[zi 9, zs 15 2 11]], [iN [10, 24] 3, iN [2, 5] 3, iN [1, 4, 0, 0, 0, 0, 0, 0, 0, 0, 0, 3, 0, 0, 0, 0, 0, 0, 0, 0, 0, 16] 168], .tuple #[zn, .bool false], []⟩,
  ⟨228, [.agg #[zi 9, zs 13 2 1, zs 14 2 1, zi 0, zi 0, zi 136, zm, zi 0, .bool false, zi 0], .agg #[zi 9, zs 15 2 11]], [iN [7, 1] 3, iN [2, 1] 3, iN [1, 4, 0, 0, 0, 0, 0, 0, 0, 0, 0, 3, 0, 0, 0, 0, 0, 0, 0, 0, 0, 21] 168], .tuple #[zn, .bool false], []⟩,
  ⟨228, [.agg #[zi 9, zs 13 2 1, zs 14 2 1, zi 1, zi 0, zi 137, zm, zi 0, .bool false, zi 0], .agg #[zi 9, zs 15 2 11]], [iN [8, 2] 3, iN [2, 1] 3, iN [1, 4, 0, 0, 0, 0, 0, 0, 0, 0, 0, 3, 0, 0, 0, 0, 0, 0, 0, 0, 0, 21] 168], .tuple #[zn, .bool false], []⟩]
noncomputable def ms2_5 : List SumI := [ -- 228 7438
  ⟨228, [.agg #[zi 9, zs 13 2 1, zs 14 2 1, zi 0, zi 0, zi 137, zm, zi 0, .bool false, zi 0], .agg #[zi 9, zs 15 2 11]], [iN [9, 3] 3, iN [2, 1] 3, iN [1, 4, 0, 0, 0, 0, 0, 0, 0, 0, 0, 3, 0, 0, 0, 0, 0, 0, 0, 0, 0, 21] 168], .tuple #[zn, .bool false], []⟩,
  ⟨228, [.agg #[zi 9, zs 13 2 1, zs 14 2 1, zi 0, zi 0, zi 137, zm, zi 1, .bool false, zi 0], .agg #[zi 9, zs 15 2 11]], [iN [10, 4] 3, iN [2, 1] 3, iN [1, 4, 0, 0, 0, 0, 0, 0, 0, 0, 0, 3, 0, 0, 0, 0, 0, 0, 0, 0, 0, 21] 168], .tuple #[zn, .bool false], []⟩,
  ⟨228, [.agg #[zi 9, zs 13 2 1, zs 14 2 1, zi 0, zi 0, zi 138, zm, zi 0, .bool false, zi 0], .agg #[zi 9, zs 15 2 11]], [iN [1, 7] 3, iN [1, 2] 3, iN [1, 4, 0, 0, 0, 0, 0, 0, 0, 0, 0, 3, 0, 0, 0, 0, 0, 0, 0, 0, 0, 21] 168], .tuple #[zn, .bool false], []⟩,
  ⟨228, [.agg #[zi 9, zs 13 2 1, zs 14 2 1, zi 1, zi 0, zi 139, zm, zi 0, .bool false, zi 0], .agg #[zi 9, zs 15 2 11]], [iN [2, 8] 3, iN [1, 2] 3, iN [1, 4, 0, 0, 0, 0, 0, 0, 0, 0, 0, 3, 0, 0, 0, 0, 0, 0, 0, 0, 0, 21] 168], .tuple #[zn, .bool false], []⟩,
  ⟨228, [.agg #[zi 9, zs 13 2 1, zs 14 2 1, zi 0, zi 0, zi 139, zm, zi 0, .bool false, zi 0], .agg #[zi 9, zs 15 2 11]], [iN [3, 9] 3, iN [1, 2] 3, iN [1, 4, 0, 0, 0, 0, 0, 0, 0, 0, 0, 3, 0, 0, 0, 0, 0, 0, 0, 0, 0, 21] 168], .tuple #[zn, .bool false], []⟩]
noncomputable def ms2_6 : List SumI := [ -- 228 7426
  ⟨228, [.agg #[zi 9, zs 13 2 1, zs 14 2 1, zi 0, zi 0, zi 139, zm, zi 1, .bool false, zi 0], .agg #[zi 9, zs 15 2 11]], [iN [4, 10] 3, iN [1, 2] 3, iN [1, 4, 0, 0, 0, 0, 0, 0, 0, 0, 0, 3, 0, 0, 0, 0, 0, 0, 0, 0, 0, 21] 168], .tuple #[zn, .bool false], []⟩,
  ⟨228, [.agg #[zi 9, zs 13 2 1, zs 14 2 1, zi 0, zi 0, zi 176, zm, zi 0, .bool false, zi 0], .agg #[zi 9, zs 15 2 11]], [iN [1, 20] 3, iN [4, 5] 3, iN [1, 4, 0, 0, 0, 0, 0, 0, 0, 0, 0, 3, 0, 0, 0, 0, 0, 0, 0, 0, 0, 21] 168], .tuple #[zn, .bool false], []⟩,
  ⟨228, [.agg #[zi 9, zs 13 2 1, zs 14 2 1, zi 1, zi 0, zi 184, zm, zi 0, .bool false, zi 0], .agg #[zi 9, zs 15 2 11]], [iN [2, 22] 3, iN [4, 5] 3, iN [1, 4, 0, 0, 0, 0, 0, 0, 0, 0, 0, 3, 0, 0, 0, 0, 0, 0, 0, 0, 0, 21] 168], .tuple #[zn, .bool false], []⟩,
  ⟨228, [.agg #[zi 9, zs 13 2 1, zs 14 2 1, zi 0, zi 0, zi 184, zm, zi 0, .bool false, zi 0], .agg #[zi 9, zs 15 2 11]], [iN [3, 23] 3, iN [4, 5] 3, iN [1, 4, 0, 0, 0, 0, 0, 0, 0, 0, 0, 3, 0, 0, 0, 0, 0, 0, 0, 0, 0, 21] 168], .tuple #[zs 18 2 3, .bool true], [⟨141, [zu 184, zu 21, zu 0, zu 0, zu 0], 5, false⟩,
    ⟨147, [zu 64, zu 184, zu 21, zu 0, zu 0, zu 0], 5, false⟩,
    ⟨150, [zs 16 5 1, zi 0, zm, zs 17 6 1, zi 0, zm], 281, false⟩]⟩]
noncomputable def ms2_7 : List SumI := [ -- 228 7597
  ⟨228, [.agg #[zi 9, zs 13 2 1, zs 14 2 1, zi 0, zi 0, zi 184, zm, zi 1, .bool false, zi 0], .agg #[zi 9, zs 15 2 11]], [iN [4, 25] 3, iN [4, 5] 3, iN [1, 4, 0, 0, 0, 0, 0, 0, 0, 0, 0, 3, 0, 0, 0, 0, 0, 0, 0, 0, 0, 21] 168], .tuple #[zn, .bool false], []⟩,
  ⟨228, [.agg #[zi 9, zs 13 2 1, zs 14 2 1, zi 0, zi 0, zi 198, zi 0, zi 0, .bool false, zi 0], .agg #[zi 9, zs 15 2 11]], [iN [7, 20] 3, iN [2, 5] 3, iN [1, 4, 0, 0, 0, 0, 0, 0, 0, 0, 0, 3, 0, 0, 0, 0, 0, 0, 0, 0, 0, 21] 168], .tuple #[zn, .bool false], []⟩,
  ⟨228, [.agg #[zi 9, zs 13 2 1, zs 14 2 1, zi 1, zi 0, zi 199, zi 0, zi 0, .bool false, zi 0], .agg #[zi 9, zs 15 2 11]], [iN [8, 22] 3, iN [2, 5] 3, iN [1, 4, 0, 0, 0, 0, 0, 0, 0, 0, 0, 3, 0, 0, 0, 0, 0, 0, 0, 0, 0, 21] 168], .tuple #[zn, .bool false], []⟩,
  ⟨228, [.agg #[zi 9, zs 13 2 1, zs 14 2 1, zi 0, zi 0, zi 199, zi 0, zi 0, .bool false, zi 0], .agg #[zi 9, zs 15 2 11]], [iN [9, 23] 3, iN [2, 5] 3, iN [1, 4, 0, 0, 0, 0, 0, 0, 0, 0, 0, 3, 0, 0, 0, 0, 0, 0, 0, 0, 0, 21] 168], .tuple #[zs 18 2 3, .bool true], [⟨144, [zu 199, zu 192, zu 21, zu 0, zu 0, zu 0], 5, false⟩,
    ⟨151, [zu 64, zu 199, zu 192, zu 21, zu 0, zu 0, zu 0], 5, false⟩,
    ⟨154, [zs 16 6 1, zi 0, zm, zs 17 7 1, zi 0, zm], 281, false⟩]⟩]
noncomputable def ms2_8 : List SumI := [ -- 228 1452
  ⟨228, [.agg #[zi 9, zs 13 2 1, zs 14 2 1, zi 0, zi 0, zi 199, zi 0, zi 1, .bool false, zi 0], .agg #[zi 9, zs 15 2 11]], [iN [10, 24] 3, iN [2, 5] 3, iN [1, 4, 0, 0, 0, 0, 0, 0, 0, 0, 0, 3, 0, 0, 0, 0, 0, 0, 0, 0, 0, 21] 168], .tuple #[zn, .bool false], []⟩]
noncomputable def msel3 : FuncId → List SumI := fun f => bif Nat.beq f 228 then ms2_0 ++ ms2_1 ++ ms2_2 ++ ms2_3 ++ ms2_4 ++ ms2_5 ++ ms2_6 ++ ms2_7 ++ ms2_8 else msel2 f
noncomputable def more3 : CallF := orKnown knZ (byFn Tryz.prog.globals.size tab.tabs msel3)
noncomputable def ms3_0 : List SumI := [ -- 176 4025
  ⟨176, [.agg #[zi 50, .slice (some ⟨13, 0, none⟩) 0 0], zs 14 3 10], [iN [] 168, iF [[50, 0, 0, 0, 0, 0, 0, 0, 0, 144, 0, 1, 0, 0],
    [50, 15, 1, 1, 16, 1, 1, 1, 1, 31, 1, 1, 0, 0],
    [50, 17, 1, 1, 18, 1, 1, 0, 1, 31, 1, 1, 0, 0]] 64, iN [8] 3, iN [2] 3, iN [9] 3, iN [2] 3], zs 21 2 3, [⟨35, [zu 144], 5, false⟩,
    ⟨36, [zu 64, zu 144], 5, false⟩,
    ⟨43, [zs 19 1 1, zi 0, zm, zs 20 2 1, zi 0, zm], 281, false⟩]⟩,
  ⟨176, [.agg #[zi 54, .slice (some ⟨13, 0, none⟩) 1 1], zs 14 3 10], [([zi 4, zi 0, zi 0, zi 0, zi 0, zi 0, zi 0, zi 0, zi 0, zi 0, .int .i64 (.negSucc 1)], 168), iF [[54, 15, 1, 1, 16, 1, 1, 0, 0, 235, 0, 1, 0, 0],
    [54, 17, 1, 1, 18, 1, 1, 0, 0, 233, 0, 1, 0, 0],
    [54, 19, 1, 1, 20, 1, 1, 0, 0, 255, 5, 1, 0, 0]] 64, iN [26] 3, iN [5] 3, iN [27] 3, iN [5] 3, iN [10] 3, iN [2] 3], zs 25 4 3, [⟨46, [zu 235, zu 254], 5, false⟩,
    ⟨47, [zu 64, zu 235, zu 254], 5, false⟩,
    ⟨56, [zu 233, zu 254, zu 255, zu 255, zu 255], 5, false⟩,
    ⟨57, [zu 64, zu 233, zu 254, zu 255, zu 255, zu 255], 5, false⟩,
    ⟨64, [zs 21 2 1, zi 0, zm, zs 22 3 1, zi 0, zm, zs 23 5 1, zi 1, zm, zs 24 6 1, zi 1, zm], 281, false⟩]⟩,
  ⟨176, [.agg #[zi 9, .slice (some ⟨13, 0, none⟩) 2 2], zs 14 16 10], [iN [1, 4, 0, 0, 0, 0, 0, 0, 0, 0, 0, 3, 0, 0, 0, 0, 0, 0, 0, 0, 0, 16] 168, iF [[9, 15, 2, 1, 16, 2, 1, 0, 0, 136, 0, 1, 0, 0],
    [9, 17, 2, 1, 18, 2, 1, 1, 0, 137, 0, 1, 0, 0],
    [9, 19, 2, 1, 20, 2, 1, 0, 0, 137, 0, 1, 0, 0],
    [9, 21, 2, 1, 22, 2, 1, 0, 0, 137, 0, 2, 0, 0],
    [9, 23, 2, 1, 24, 2, 1, 0, 0, 138, 0, 1, 0, 0],
    [9, 25, 2, 1, 26, 2, 1, 1, 0, 139, 0, 1, 0, 0],
    [9, 27, 2, 1, 28, 2, 1, 0, 0, 139, 0, 1, 0, 0],
    [9, 29, 2, 1, 30, 2, 1, 0, 0, 139, 0, 2, 0, 0],
    [9, 31, 2, 1, 32, 2, 1, 0, 0, 176, 0, 1, 0, 0],
    [9, 33, 2, 1, 34, 2, 1, 1, 0, 184, 0, 1, 0, 0],
    [9, 35, 2, 1, 36, 2, 1, 0, 0, 184, 0, 1, 0, 0],
    [9, 37, 2, 1, 38, 2, 1, 0, 0, 184, 0, 2, 0, 0],
    [9, 39, 2, 1, 40, 2, 1, 0, 0, 198, 1, 1, 0, 0],
    [9, 41, 2, 1, 42, 2, 1, 1, 0, 199, 1, 1, 0, 0],
    [9, 43, 2, 1, 44, 2, 1, 0, 0, 199, 1, 1, 0, 0],
    [9, 45, 2, 1, 46, 2, 1, 0, 0, 199, 1, 2, 0, 0]] 64, iN [7, 1] 3, iN [2, 1] 3, iN [8, 2] 3, iN [2, 1] 3, iN [9, 3] 3, iN [2, 1] 3, iN [10, 4] 3, iN [2, 1] 3, iN [1, 7] 3, iN [1, 2] 3, iN [2, 8] 3, iN [1, 2] 3, iN [3, 9] 3, iN [1, 2] 3, iN [4, 10] 3, iN [1, 2] 3, iN [1, 20] 3, iN [4, 5] 3, iN [2, 22] 3, iN [4, 5] 3, iN [3, 23] 3, iN [4, 5] 3, iN [4, 25] 3, iN [4, 5] 3, iN [7, 20] 3, iN [2, 5] 3, iN [8, 22] 3, iN [2, 5] 3, iN [9, 23] 3, iN [2, 5] 3, iN [10, 24] 3, iN [2, 5] 3], zs 51 4 3, [⟨102, [zu 184, zu 16, zu 0, zu 0, zu 0], 5, false⟩,
    ⟨103, [zu 64, zu 184, zu 16, zu 0, zu 0, zu 0], 5, false⟩,
    ⟨115, [zu 199, zu 192, zu 16, zu 0, zu 0, zu 0], 5, false⟩,
    ⟨116, [zu 64, zu 199, zu 192, zu 16, zu 0, zu 0, zu 0], 5, false⟩,
    ⟨123, [zs 47 5 1, zi 10, zm, zs 48 6 1, zi 10, zm, zs 49 6 1, zi 14, zm, zs 50 7 1, zi 14, zm], 281, false⟩]⟩,
  ⟨176, [.agg #[zi 9, .slice (some ⟨13, 0, none⟩) 2 2], zs 14 16 10], [iN [1, 4, 0, 0, 0, 0, 0, 0, 0, 0, 0, 3, 0, 0, 0, 0, 0, 0, 0, 0, 0, 21] 168, iF [[9, 15, 2, 1, 16, 2, 1, 0, 0, 136, 0, 1, 0, 0],
    [9, 17, 2, 1, 18, 2, 1, 1, 0, 137, 0, 1, 0, 0],
    [9, 19, 2, 1, 20, 2, 1, 0, 0, 137, 0, 1, 0, 0],
    [9, 21, 2, 1, 22, 2, 1, 0, 0, 137, 0, 2, 0, 0],
    [9, 23, 2, 1, 24, 2, 1, 0, 0, 138, 0, 1, 0, 0],
    [9, 25, 2, 1, 26, 2, 1, 1, 0, 139, 0, 1, 0, 0],
    [9, 27, 2, 1, 28, 2, 1, 0, 0, 139, 0, 1, 0, 0],
    [9, 29, 2, 1, 30, 2, 1, 0, 0, 139, 0, 2, 0, 0],
    [9, 31, 2, 1, 32, 2, 1, 0, 0, 176, 0, 1, 0, 0],
    [9, 33, 2, 1, 34, 2, 1, 1, 0, 184, 0, 1, 0, 0],
    [9, 35, 2, 1, 36, 2, 1, 0, 0, 184, 0, 1, 0, 0],
    [9, 37, 2, 1, 38, 2, 1, 0, 0, 184, 0, 2, 0, 0],
    [9, 39, 2, 1, 40, 2, 1, 0, 0, 198, 1, 1, 0, 0],
    [9, 41, 2, 1, 42, 2, 1, 1, 0, 199, 1, 1, 0, 0],
    [9, 43, 2, 1, 44, 2, 1, 0, 0, 199, 1, 1, 0, 0],
    [9, 45, 2, 1, 46, 2, 1, 0, 0, 199, 1, 2, 0, 0]] 64, iN [7, 1] 3, iN [2, 1] 3, iN [8, 2] 3, iN [2, 1] 3, iN [9, 3] 3, iN [2, 1] 3, iN [10, 4] 3, iN [2, 1] 3, iN [1, 7] 3, iN [1, 2] 3, iN [2, 8] 3, iN [1, 2] 3, iN [3, 9] 3, iN [1, 2] 3, iN [4, 10] 3, iN [1, 2] 3, iN [1, 20] 3, iN [4, 5] 3, iN [2, 22] 3, iN [4, 5] 3, iN [3, 23] 3, iN [4, 5] 3, iN [4, 25] 3, iN [4, 5] 3, iN [7, 20] 3, iN [2, 5] 3, iN [8, 22] 3, iN [2, 5] 3, iN [9, 23] 3, iN [2, 5] 3, iN [10, 24] 3, iN [2, 5] 3], zs 51 4 3, [⟨102, [zu 184, zu 21, zu 0, zu 0, zu 0], 5, false⟩,
    ⟨103, [zu 64, zu 184, zu 21, zu 0, zu 0, zu 0], 5, false⟩,
    ⟨115, [zu 199, zu 192, zu 21, zu 0, zu 0, zu 0], 5, false⟩,
    ⟨116, [zu 64, zu 199, zu 192, zu 21, zu 0, zu 0, zu 0], 5, false⟩,
    ⟨123, [zs 47 5 1, zi 10, zm, zs 48 6 1, zi 10, zm, zs 49 6 1, zi 14, zm, zs 50 7 1, zi 14, zm], 281, false⟩]⟩]
noncomputable def msel4 : FuncId → List SumI := fun f => bif Nat.beq f 176 then ms3_0 else msel3 f
noncomputable def more4 : CallF := orKnown knZ (byFn Tryz.prog.globals.size tab.tabs msel4)
noncomputable def ms4_0 : List SumI := [ -- 109 2419
  ⟨109, [.agg #[zi 50, .slice (some ⟨13, 0, none⟩) 0 0], zi 0], [iN [] 168], .tuple #[zs 14 1 1, zi 0], [⟨23, [zu 144], 5, false⟩]⟩,
  ⟨109, [.agg #[zi 54, .slice (some ⟨13, 0, none⟩) 1 1], zi 1], [([zi 4, zi 0, zi 0, zi 0, zi 0, zi 0, zi 0, zi 0, zi 0, zi 0, .int .i64 (.negSucc 1)], 168)], .tuple #[zs 14 2 1, zi 0], [⟨26, [zu 235, zu 254], 5, false⟩]⟩,
  ⟨109, [.agg #[zi 9, .slice (some ⟨13, 0, none⟩) 2 2], zi 3], [iN [1, 4, 0, 0, 0, 0, 0, 0, 0, 0, 0, 3, 0, 0, 0, 0, 0, 0, 0, 0, 0, 16] 168], .tuple #[zs 14 5 1, zi 0], [⟨62, [zu 184, zu 16, zu 0, zu 0, zu 0], 5, false⟩]⟩,
  ⟨109, [.agg #[zi 9, .slice (some ⟨13, 0, none⟩) 2 2], zi 3], [iN [1, 4, 0, 0, 0, 0, 0, 0, 0, 0, 0, 3, 0, 0, 0, 0, 0, 0, 0, 0, 0, 21] 168], .tuple #[zs 14 5 1, zi 0], [⟨62, [zu 184, zu 21, zu 0, zu 0, zu 0], 5, false⟩]⟩]
noncomputable def msel5 : FuncId → List SumI := fun f => bif Nat.beq f 109 then ms4_0 else msel4 f
noncomputable def more5 : CallF := orKnown knZ (byFn Tryz.prog.globals.size tab.tabs msel5)
noncomputable def ms5_0 : List SumI := [ -- 108 1344
  ⟨108, [.agg #[zi 50, zn]], [], .tuple #[.agg #[zi 50, .slice (some ⟨13, 0, none⟩) 0 0], zi 0], [rN 25 [] 168]⟩,
  ⟨108, [.agg #[zi 54, zs 13 1 11]], [([zi 4, zi 0, zi 0, zi 0, zi 0, zi 0, zi 0, zi 0, zi 0, zi 0, .int .i64 (.negSucc 1)], 168)], .tuple #[.agg #[zi 54, .slice (some ⟨14, 0, none⟩) 1 1], zi 0], [⟨30, [zi 4, zi 0, zi 0, zi 0, zi 0, zi 0, zi 0, zi 0, zi 0, zi 0, .int .i64 (.negSucc 1)], 168, false⟩]⟩,
  ⟨108, [.agg #[zi 9, zs 13 2 11]], [iN [1, 4, 0, 0, 0, 0, 0, 0, 0, 0, 0, 3, 0, 0, 0, 0, 0, 0, 0, 0, 0, 16] 168], .tuple #[.agg #[zi 9, .slice (some ⟨14, 0, none⟩) 2 2], zi 0], [rN 67 [1, 4, 0, 0, 0, 0, 0, 0, 0, 0, 0, 3, 0, 0, 0, 0, 0, 0, 0, 0, 0, 16] 168]⟩,
  ⟨108, [.agg #[zi 9, zs 13 2 11]], [iN [1, 4, 0, 0, 0, 0, 0, 0, 0, 0, 0, 3, 0, 0, 0, 0, 0, 0, 0, 0, 0, 21] 168], .tuple #[.agg #[zi 9, .slice (some ⟨14, 0, none⟩) 2 2], zi 0], [rN 67 [1, 4, 0, 0, 0, 0, 0, 0, 0, 0, 0, 3, 0, 0, 0, 0, 0, 0, 0, 0, 0, 21] 168]⟩]
noncomputable def msel6 : FuncId → List SumI := fun f => bif Nat.beq f 108 then ms5_0 else msel5 f
noncomputable def more6 : CallF := orKnown knZ (byFn Tryz.prog.globals.size tab.tabs msel6)
noncomputable def ms6_0 : List SumI := [ -- 34 4147
  ⟨34, [.string (mkS [110, 111, 112, 10, 97, 58, 32, 106, 109, 112, 32, 97])], [], .tuple #[.agg #[zi 0, zn, zs 15 3 9], .agg #[zi 0, zi 0]], [⟨151, [zi 4, zi 0, zi 0, zi 0, zi 0, zi 0, zi 0, zi 0, zi 0, zi 0, zs 14 1 5, .bool false], 191, false⟩,
    ⟨154, [zi 2, zi 0, .string (mkS [97]), zi 0, zi 0], 33, false⟩,
    ⟨159, [zi 1, zi 2, .string (mkS []), zi 50, zi 0, zn, zn, zn, zi 0, zi 2, zi 1, .string (mkS [97]), zi 0, zi 0, zn, zn, zn, zi 0, zi 2, zi 2, .string (mkS []), zi 54, zi 0, zs 13 1 12, zn, zn, zi 0], 131, false⟩]⟩]
noncomputable def ms6_1 : List SumI := [ -- 34 8992
  ⟨34, [.string (mkS [111, 114, 103, 32, 49, 54, 10, 109, 111, 118, 32, 101, 97, 120, 44, 32, 97, 10, 97, 58, 32, 100, 119, 32, 97, 32, 45, 32, 49])], [], .tuple #[.agg #[zi 16, zn, zs 16 3 9], .agg #[zi 0, zi 0]], [⟨172, [zi 1, zi 4, zi 0, zi 0, zi 0, zi 0, zi 0, zi 0, zi 0, zi 0, zn, .bool false, zi 3, zi 0, zi 0, zi 0, zi 0, zi 0, zi 0, zi 0, zi 0, zi 0, zs 14 1 5, .bool false], 191, false⟩,
    ⟨176, [zi 2, zi 0, .string (mkS [97]), zi 0, zi 0], 33, false⟩,
    ⟨282, [zi 2, zi 0, .string (mkS [97]), zi 0, zi 0, zi 1, zi 1, .string (mkS []), zi 0, zi 0, zi 11, zi 0, .string (mkS []), zi 0, zi 1], 33, false⟩,
    ⟨286, [zi 2, zi 2, .string (mkS []), zi 9, zi 0, zs 13 2 12, zn, zn, zi 0, zi 3, zi 1, .string (mkS [97]), zi 0, zi 0, zn, zn, zn, zi 0, zi 3, zi 3, .string (mkS []), zi 0, zi 0, zn, zs 15 3 5, zn, zi 2], 131, false⟩]⟩]
noncomputable def msel7 : FuncId → List SumI := fun f => bif Nat.beq f 34 then ms6_0 ++ ms6_1 else msel6 f
noncomputable def more7 : CallF := orKnown knZ (byFn Tryz.prog.globals.size tab.tabs msel7)
noncomputable def ms7_0 : List SumI := [ -- 38 1199
  ⟨38, [zs 13 3 7, zi 0], [iN [1, 1, 0, 0, 0, 0, 0, 1, 0, 0, 0, 0, 0, 0, 2, 0, 2, 5, 1, 0, 0] 88], .tuple #[.agg #[.slice (some ⟨14, 0, none⟩) 4 4, .slice (some ⟨15, 0, none⟩) 3 3, zi 1], zi 0], [rN 28 [0, 1, 1, 3] 3,
    ⟨29, [.bool false, .bool false, .bool false], 4, false⟩]⟩,
  ⟨38, [zs 13 3 7, zi 16], [iN [1, 5, 0, 0, 0, 0, 0, 1, 0, 0, 0, 0, 0, 0, 1, 2, 0, 0, 0, 0, 0] 88], .tuple #[.agg #[.slice (some ⟨14, 0, none⟩) 4 4, .slice (some ⟨15, 0, none⟩) 3 3, zi 1], zi 0], [rN 28 [16, 21, 21, 23] 3,
    ⟨29, [.bool false, .bool false, .bool false], 4, false⟩]⟩]
noncomputable def msel8 : FuncId → List SumI := fun f => bif Nat.beq f 38 then ms7_0 else msel7 f
noncomputable def more8 : CallF := orKnown knZ (byFn Tryz.prog.globals.size tab.tabs msel8)
noncomputable def ms8_0 : List SumI := [ -- 26 6591
  ⟨26, [.string (mkS [110, 111, 112, 10, 97, 58, 32, 106, 109, 112, 32, 97])], [], .tuple #[.agg #[zi 0, zs 13 3 1, zs 15 1 3, zs 14 2 3], .agg #[zi 0, zi 0]], [⟨111, [zu 144, zu 235, zu 254], 5, false⟩,
    rN 113 [1, 0, 1, 2, 1, 2] 95,
    ⟨117, [.string (mkS [97]), zi 1, .bool true], 58, false⟩]⟩,
  ⟨26, [.string (mkS [111, 114, 103, 32, 49, 54, 10, 109, 111, 118, 32, 101, 97, 120, 44, 32, 97, 10, 97, 58, 32, 100, 119, 32, 97, 32, 45, 32, 49])], [], .tuple #[.agg #[zi 16, zs 13 7 1, zs 15 1 3, zs 14 2 3], .agg #[zi 0, zi 0]], [⟨211, [zu 184, zu 21, zu 0, zu 0, zu 0, zu 20, zu 0], 5, false⟩,
    rN 213 [2, 16, 5, 3, 21, 2] 95,
    ⟨217, [.string (mkS [97]), zi 21, .bool true], 58, false⟩]⟩]
noncomputable def msel9 : FuncId → List SumI := fun f => bif Nat.beq f 26 then ms8_0 else msel8 f
noncomputable def more9 : CallF := orKnown knZ (byFn Tryz.prog.globals.size tab.tabs msel9)
end Go.Proofs.YtbkbdnlfkahaaaaGreatDoor.code
