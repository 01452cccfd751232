/- A part of the proof that ModelLedger returns true for every input: what the last part leans on. No condition. -/
import Derived.ChangeKeysEq
import Derived.ControlIn
import Derived.KernelRfl
import Derived.RangeFuncIn
import Derived.RangeFuncLeaves
import Derived.RangeFuncRecord
import Derived.RangeFuncSeq
import Derived.Scope
import Derived.TacticsIn
import Derived.Test.YtebkegcjgkkcgaaGreatP01
import Derived.Test.YtebkegcjgkkcgaaGreatProg
set_option linter.unusedVariables false
set_option linter.unusedSimpArgs false
set_option linter.unusedSectionVars false
set_option linter.deprecated false
set_option maxHeartbeats 1000000
namespace Go.Proofs
open Go.Bk
instance : Sc Tryz.prog 2 := Sc.of (by kernel_rfl) (by kernel_rfl)
instance : Sc Tryz.prog 3 := Sc.of (by kernel_rfl) (by kernel_rfl)
instance : Zr Tryz.prog 3 [.int .i64 0] := Zr.of (by kernel_rfl)
instance : Ity Tryz.prog 3 .i64 := ⟨Tryz.underlying3⟩
instance : Sc Tryz.prog 4 := Sc.of (by kernel_rfl) (by kernel_rfl)
instance : Sc Tryz.prog 5 := Sc.of (by kernel_rfl) (by kernel_rfl)
instance : Ity Tryz.prog 5 .u8 := ⟨Tryz.underlying5⟩
instance : Sc Tryz.prog 9 := Sc.of (by kernel_rfl) (by kernel_rfl)
instance : Sc Tryz.prog 22 := Sc.of (by kernel_rfl) (by kernel_rfl)
instance : Zr Tryz.prog 22 [.int .u64 0] := Zr.of (by kernel_rfl)
instance : Ity Tryz.prog 22 .u64 := ⟨Tryz.underlying22⟩
instance : Slt Tryz.prog 23 58 10 := Slt.of Tryz.underlying23 (by kernel_rfl)
instance : Pty Tryz.prog 24 70 := ⟨Tryz.underlying24⟩
instance : Slt Tryz.prog 28 34 3 := Slt.of Tryz.underlying28 (by kernel_rfl)
instance : Pty Tryz.prog 30 80 := ⟨Tryz.underlying30⟩
instance : Ag Tryz.prog 34 3 := Ag.of (by kernel_rfl) (by kernel_rfl)
instance : Zr Tryz.prog 34 [.int .i64 0, .int .i64 0, .int .i64 0] := Zr.of (by kernel_rfl)
theorem Tryz.eq34 : Eq3 Tryz.prog 34 3 .i64 := ⟨⟨_, _, _, Tryz.underlying34, (by decide), (by decide), (by decide), rfl, rfl, rfl, rfl, rfl, rfl⟩, by kernel_rfl, by kernel_rfl⟩
instance : KeyT Tryz.prog 34 Pl Pl.v := KeyT.three Tryz.eq34
instance : Bld Tryz.prog 34 [.int .i64 0, .int .i64 0, .int .i64 0] [(0, 1), (1, 1), (2, 1)] := Bld.of Tryz.underlying34 (by kernel_rfl)
instance : FldOf Tryz.prog 34 0 0 3 := FldOf.ofB (by kernel_rfl)
instance : FldOf Tryz.prog 34 1 1 3 := FldOf.ofB (by kernel_rfl)
instance : FldOf Tryz.prog 34 2 2 3 := FldOf.ofB (by kernel_rfl)
instance : Ag Tryz.prog 38 4 := Ag.of (by kernel_rfl) (by kernel_rfl)
instance : Zr Tryz.prog 38 [.int .i64 0, .int .i64 0, .int .i64 0, .bool false] := Zr.of (by kernel_rfl)
instance : Bld Tryz.prog 38 [.int .i64 0, .int .i64 0, .int .i64 0, .bool false] [(0, 3), (3, 1)] := Bld.of Tryz.underlying38 (by kernel_rfl)
instance : FldOf Tryz.prog 38 0 0 34 := FldOf.ofB (by kernel_rfl)
instance : FldOf Tryz.prog 38 1 3 4 := FldOf.ofB (by kernel_rfl)
instance : Ag Tryz.prog 39 8 := Ag.of (by kernel_rfl) (by kernel_rfl)
instance : Zr Tryz.prog 39 [.int .i64 0, .int .i64 0, .int .i64 0, .bool false, .int .i64 0, .int .i64 0, .int .i64 0, .bool false] := Zr.of (by kernel_rfl)
instance : Arr Tryz.prog 39 2 38 4 := Arr.of Tryz.underlying39 (by kernel_rfl)
instance : Bld Tryz.prog 39 [.int .i64 0, .int .i64 0, .int .i64 0, .bool false, .int .i64 0, .int .i64 0, .int .i64 0, .bool false] [(0, 4), (4, 4)] := Bld.arrB rfl
instance : Ag Tryz.prog 41 4 := Ag.of (by kernel_rfl) (by kernel_rfl)
instance : Zr Tryz.prog 41 [.int .i64 0, .int .i64 0, .int .i64 0, .int .i64 0] := Zr.of (by kernel_rfl)
instance : FldOf Tryz.prog 41 0 0 2 := FldOf.ofB (by kernel_rfl)
instance : FldOf Tryz.prog 41 1 1 2 := FldOf.ofB (by kernel_rfl)
instance : FldOf Tryz.prog 41 2 2 2 := FldOf.ofB (by kernel_rfl)
instance : FldOf Tryz.prog 41 3 3 2 := FldOf.ofB (by kernel_rfl)
instance : Zr Tryz.prog 43 [.int .i64 0, .int .u64 0, .int .i64 0, .int .i64 0, .int .i64 0, .bool false, .int .i64 0, .int .i64 0, .int .i64 0, .bool false, .int .i64 0, .int .i64 0, .int .i64 0, .int .i64 0] := Zr.of (by kernel_rfl)
instance : Bld Tryz.prog 43 [.int .i64 0, .int .u64 0, .int .i64 0, .int .i64 0, .int .i64 0, .bool false, .int .i64 0, .int .i64 0, .int .i64 0, .bool false, .int .i64 0, .int .i64 0, .int .i64 0, .int .i64 0] [(0, 1), (1, 1), (2, 8), (10, 4)] := Bld.of Tryz.underlying43 (by kernel_rfl)
instance : FldOf Tryz.prog 43 0 0 2 := FldOf.ofB (by kernel_rfl)
instance : FldOf Tryz.prog 43 1 1 22 := FldOf.ofB (by kernel_rfl)
instance : FldOf Tryz.prog 43 2 2 39 := FldOf.ofB (by kernel_rfl)
instance : FldOf Tryz.prog 43 3 10 41 := FldOf.ofB (by kernel_rfl)
instance : Sc Tryz.prog 44 := Sc.of (by kernel_rfl) (by kernel_rfl)
instance : Pty Tryz.prog 44 43 := ⟨Tryz.underlying44⟩
instance : Sc Tryz.prog 48 := Sc.of (by kernel_rfl) (by kernel_rfl)
instance : Ag Tryz.prog 49 3 := Ag.of (by kernel_rfl) (by kernel_rfl)
instance : Zr Tryz.prog 49 [.int .i64 0, .int .i64 0, .int .i64 0] := Zr.of (by kernel_rfl)
theorem Tryz.eq49 : Eq3 Tryz.prog 49 3 .i64 := ⟨⟨_, _, _, Tryz.underlying49, (by decide), (by decide), (by decide), rfl, rfl, rfl, rfl, rfl, rfl⟩, by kernel_rfl, by kernel_rfl⟩
instance : KeyT Tryz.prog 49 Pl Pl.v := KeyT.three Tryz.eq49
instance : Bld Tryz.prog 49 [.int .i64 0, .int .i64 0, .int .i64 0] [(0, 1), (1, 1), (2, 1)] := Bld.of Tryz.underlying49 (by kernel_rfl)
instance : FldOf Tryz.prog 49 0 0 3 := FldOf.ofB (by kernel_rfl)
instance : FldOf Tryz.prog 49 1 1 3 := FldOf.ofB (by kernel_rfl)
instance : FldOf Tryz.prog 49 2 2 3 := FldOf.ofB (by kernel_rfl)
instance : Ag Tryz.prog 51 2 := Ag.of (by kernel_rfl) (by kernel_rfl)
instance : Zr Tryz.prog 51 [.int .u8 0, .int .u8 0] := Zr.of (by kernel_rfl)
theorem Tryz.eq51 : Eq2 Tryz.prog 51 5 .u8 := ⟨⟨_, _, Tryz.underlying51, (by decide), (by decide), rfl, rfl, rfl, rfl⟩, by kernel_rfl, by kernel_rfl⟩
instance : Bld Tryz.prog 51 [.int .u8 0, .int .u8 0] [(0, 1), (1, 1)] := Bld.of Tryz.underlying51 (by kernel_rfl)
instance : FldOf Tryz.prog 51 0 0 5 := FldOf.ofB (by kernel_rfl)
instance : FldOf Tryz.prog 51 1 1 5 := FldOf.ofB (by kernel_rfl)
instance : Ag Tryz.prog 53 2 := Ag.of (by kernel_rfl) (by kernel_rfl)
instance : Zr Tryz.prog 53 [.int .u8 0, .int .u8 0] := Zr.of (by kernel_rfl)
theorem Tryz.eq53 : Eq2 Tryz.prog 53 5 .u8 := ⟨⟨_, _, Tryz.underlying53, (by decide), (by decide), rfl, rfl, rfl, rfl⟩, by kernel_rfl, by kernel_rfl⟩
instance : Bld Tryz.prog 53 [.int .u8 0, .int .u8 0] [(0, 1), (1, 1)] := Bld.of Tryz.underlying53 (by kernel_rfl)
instance : FldOf Tryz.prog 53 0 0 5 := FldOf.ofB (by kernel_rfl)
instance : FldOf Tryz.prog 53 1 1 5 := FldOf.ofB (by kernel_rfl)
instance : Ag Tryz.prog 55 14 := Ag.of (by kernel_rfl) (by kernel_rfl)
instance : Zr Tryz.prog 55 [.int .i64 0, .int .i64 0, .int .i64 0, .int .i64 0, .int .u8 0, .int .u8 0, .int .u8 0, .int .u8 0, .int .i64 0, .int .i64 0, .int .i64 0, .int .i64 0, .int .i64 0, .int .i64 0] := Zr.of (by kernel_rfl)
instance : FldOf Tryz.prog 55 0 0 48 := FldOf.ofB (by kernel_rfl)
instance : FldOf Tryz.prog 55 1 1 49 := FldOf.ofB (by kernel_rfl)
instance : FldOf Tryz.prog 55 2 4 51 := FldOf.ofB (by kernel_rfl)
instance : FldOf Tryz.prog 55 3 6 53 := FldOf.ofB (by kernel_rfl)
instance : FldOf Tryz.prog 55 4 8 2 := FldOf.ofB (by kernel_rfl)
instance : FldOf Tryz.prog 55 5 9 3 := FldOf.ofB (by kernel_rfl)
instance : FldOf Tryz.prog 55 6 10 41 := FldOf.ofB (by kernel_rfl)
instance : Ag Tryz.prog 58 10 := Ag.of (by kernel_rfl) (by kernel_rfl)
instance : Zr Tryz.prog 58 [.int .i64 0, .int .i64 0, .int .i64 0, .int .i64 0, .int .i64 0, .int .i64 0, .int .i64 0, .int .u8 0, .int .u8 0, .int .i64 0] := Zr.of (by kernel_rfl)
instance : Bld Tryz.prog 58 [.int .i64 0, .int .i64 0, .int .i64 0, .int .i64 0, .int .i64 0, .int .i64 0, .int .i64 0, .int .u8 0, .int .u8 0, .int .i64 0] [(0, 1), (1, 3), (4, 3), (7, 2), (9, 1)] := Bld.of Tryz.underlying58 (by kernel_rfl)
instance : FldOf Tryz.prog 58 0 0 3 := FldOf.ofB (by kernel_rfl)
instance : FldOf Tryz.prog 58 1 1 49 := FldOf.ofB (by kernel_rfl)
instance : FldOf Tryz.prog 58 2 4 49 := FldOf.ofB (by kernel_rfl)
instance : FldOf Tryz.prog 58 3 7 51 := FldOf.ofB (by kernel_rfl)
instance : FldOf Tryz.prog 58 4 9 3 := FldOf.ofB (by kernel_rfl)
instance : Slt Tryz.prog 61 49 3 := Slt.of Tryz.underlying61 (by kernel_rfl)
instance : Sc Tryz.prog 68 := Sc.of (by kernel_rfl) (by kernel_rfl)
instance : MapT Tryz.prog 68 34 30 := ⟨Tryz.underlying68⟩
instance : Zr Tryz.prog 70 [.int .i64 0, .int .u64 0, .int .i64 0, .int .i64 0, .int .i64 0, .bool false, .int .i64 0, .int .i64 0, .int .i64 0, .bool false, .int .i64 0, .int .i64 0, .int .i64 0, .int .i64 0, .map none] := Zr.of (by kernel_rfl)
instance : Bld Tryz.prog 70 [.int .i64 0, .int .u64 0, .int .i64 0, .int .i64 0, .int .i64 0, .bool false, .int .i64 0, .int .i64 0, .int .i64 0, .bool false, .int .i64 0, .int .i64 0, .int .i64 0, .int .i64 0, .map none] [(0, 14), (14, 1)] := Bld.of Tryz.underlying70 (by kernel_rfl)
instance : FldOf Tryz.prog 70 0 0 43 := FldOf.ofB (by kernel_rfl)
instance : FldOf Tryz.prog 70 1 14 68 := FldOf.ofB (by kernel_rfl)
instance : Ag Tryz.prog 75 8192 := Ag.of (by kernel_rfl) (by kernel_rfl)
instance : Arr Tryz.prog 75 4096 51 2 := Arr.of Tryz.underlying75 (by kernel_rfl)
instance : Ag Tryz.prog 77 8192 := Ag.of (by kernel_rfl) (by kernel_rfl)
instance : Arr Tryz.prog 77 4096 53 2 := Arr.of Tryz.underlying77 (by kernel_rfl)
instance : Sc Tryz.prog 78 := Sc.of (by kernel_rfl) (by kernel_rfl)
instance : Slt Tryz.prog 78 103 2 := Slt.of Tryz.underlying78 (by kernel_rfl)
instance : Ag Tryz.prog 80 16385 := Ag.of (by kernel_rfl) (by kernel_rfl)
instance : FldOf Tryz.prog 80 0 0 75 := FldOf.ofB (by kernel_rfl)
instance : FldOf Tryz.prog 80 1 8192 77 := FldOf.ofB (by kernel_rfl)
instance : FldOf Tryz.prog 80 2 16384 78 := FldOf.ofB (by kernel_rfl)
instance : Sc Tryz.prog 82 := Sc.of (by kernel_rfl) (by kernel_rfl)
instance : Ity Tryz.prog 99 .u64 := ⟨Tryz.underlying99⟩
instance : Ag Tryz.prog 103 2 := Ag.of (by kernel_rfl) (by kernel_rfl)
instance : Zr Tryz.prog 103 [.int .i64 0, .int .i64 0] := Zr.of (by kernel_rfl)
instance : Bld Tryz.prog 103 [.int .i64 0, .int .i64 0] [(0, 1), (1, 1)] := Bld.of Tryz.underlying103 (by kernel_rfl)
instance : FldOf Tryz.prog 103 0 0 3 := FldOf.ofB (by kernel_rfl)
instance : FldOf Tryz.prog 103 1 1 2 := FldOf.ofB (by kernel_rfl)
instance : Ag Tryz.prog 109 4 := Ag.of (by kernel_rfl) (by kernel_rfl)
instance : Zr Tryz.prog 109 [.string ⟨#[]⟩, .int .u8 0, .int .u8 0, .int .u8 0] := Zr.of (by kernel_rfl)
instance : Bld Tryz.prog 109 [.string ⟨#[]⟩, .int .u8 0, .int .u8 0, .int .u8 0] [(0, 1), (1, 1), (2, 1), (3, 1)] := Bld.of Tryz.underlying109 (by kernel_rfl)
instance : FldOf Tryz.prog 109 0 0 9 := FldOf.ofB (by kernel_rfl)
instance : FldOf Tryz.prog 109 1 1 5 := FldOf.ofB (by kernel_rfl)
instance : FldOf Tryz.prog 109 2 2 5 := FldOf.ofB (by kernel_rfl)
instance : FldOf Tryz.prog 109 3 3 5 := FldOf.ofB (by kernel_rfl)
instance : Ag Tryz.prog 114 2 := Ag.of (by kernel_rfl) (by kernel_rfl)
instance : Zr Tryz.prog 114 [.nilIface, .pointer none] := Zr.of (by kernel_rfl)
instance : Bld Tryz.prog 114 [.nilIface, .pointer none] [(0, 1), (1, 1)] := Bld.of Tryz.underlying114 (by kernel_rfl)
instance : FldOf Tryz.prog 114 0 0 82 := FldOf.ofB (by kernel_rfl)
instance : FldOf Tryz.prog 114 1 1 44 := FldOf.ofB (by kernel_rfl)
instance : Slt Tryz.prog 119 51 2 := Slt.of Tryz.underlying119 (by kernel_rfl)
instance : Sc Tryz.prog 127 := Sc.of (by kernel_rfl) (by kernel_rfl)
instance : Zr Tryz.prog 127 [.nilFunc] := Zr.of (by kernel_rfl)
instance : Ag Tryz.prog 131 3 := Ag.of (by kernel_rfl) (by kernel_rfl)
instance : Zr Tryz.prog 131 [.int .i64 0, .int .i64 0, .int .i64 0] := Zr.of (by kernel_rfl)
instance : Arr Tryz.prog 131 3 3 1 := Arr.of Tryz.underlying131 (by kernel_rfl)
instance : Bld Tryz.prog 131 [.int .i64 0, .int .i64 0, .int .i64 0] [(0, 1), (1, 1), (2, 1)] := Bld.arrB rfl
instance : Ag Tryz.prog 146 60 := Ag.of (by kernel_rfl) (by kernel_rfl)
instance : Zr Tryz.prog 146 (.string ⟨#[]⟩ :: .int .u8 0 :: .int .u8 0 :: .int .u8 0 :: .string ⟨#[]⟩ :: .int .u8 0 :: .int .u8 0 :: .int .u8 0 :: .string ⟨#[]⟩ :: .int .u8 0 :: .int .u8 0 :: .int .u8 0 :: .string ⟨#[]⟩ :: .int .u8 0 :: .int .u8 0 :: .int .u8 0 :: .string ⟨#[]⟩ :: .int .u8 0 :: .int .u8 0 :: .int .u8 0 :: .string ⟨#[]⟩ :: .int .u8 0 :: .int .u8 0 :: .int .u8 0 :: .string ⟨#[]⟩ :: .int .u8 0 :: .int .u8 0 :: .int .u8 0 :: .string ⟨#[]⟩ :: .int .u8 0 :: .int .u8 0 :: .int .u8 0 :: .string ⟨#[]⟩ :: .int .u8 0 :: .int .u8 0 :: .int .u8 0 :: .string ⟨#[]⟩ :: .int .u8 0 :: .int .u8 0 :: .int .u8 0 :: .string ⟨#[]⟩ :: .int .u8 0 :: .int .u8 0 :: .int .u8 0 :: .string ⟨#[]⟩ :: .int .u8 0 :: .int .u8 0 :: .int .u8 0 :: .string ⟨#[]⟩ :: .int .u8 0 :: .int .u8 0 :: .int .u8 0 :: .string ⟨#[]⟩ :: .int .u8 0 :: .int .u8 0 :: .int .u8 0 :: .string ⟨#[]⟩ :: .int .u8 0 :: .int .u8 0 :: .int .u8 0 :: []) := Zr.of (by kernel_rfl)
instance : Arr Tryz.prog 146 15 109 4 := Arr.of Tryz.underlying146 (by kernel_rfl)
instance : Bld Tryz.prog 146 (.string ⟨#[]⟩ :: .int .u8 0 :: .int .u8 0 :: .int .u8 0 :: .string ⟨#[]⟩ :: .int .u8 0 :: .int .u8 0 :: .int .u8 0 :: .string ⟨#[]⟩ :: .int .u8 0 :: .int .u8 0 :: .int .u8 0 :: .string ⟨#[]⟩ :: .int .u8 0 :: .int .u8 0 :: .int .u8 0 :: .string ⟨#[]⟩ :: .int .u8 0 :: .int .u8 0 :: .int .u8 0 :: .string ⟨#[]⟩ :: .int .u8 0 :: .int .u8 0 :: .int .u8 0 :: .string ⟨#[]⟩ :: .int .u8 0 :: .int .u8 0 :: .int .u8 0 :: .string ⟨#[]⟩ :: .int .u8 0 :: .int .u8 0 :: .int .u8 0 :: .string ⟨#[]⟩ :: .int .u8 0 :: .int .u8 0 :: .int .u8 0 :: .string ⟨#[]⟩ :: .int .u8 0 :: .int .u8 0 :: .int .u8 0 :: .string ⟨#[]⟩ :: .int .u8 0 :: .int .u8 0 :: .int .u8 0 :: .string ⟨#[]⟩ :: .int .u8 0 :: .int .u8 0 :: .int .u8 0 :: .string ⟨#[]⟩ :: .int .u8 0 :: .int .u8 0 :: .int .u8 0 :: .string ⟨#[]⟩ :: .int .u8 0 :: .int .u8 0 :: .int .u8 0 :: .string ⟨#[]⟩ :: .int .u8 0 :: .int .u8 0 :: .int .u8 0 :: []) [(0, 4), (4, 4), (8, 4), (12, 4), (16, 4), (20, 4), (24, 4), (28, 4), (32, 4), (36, 4), (40, 4), (44, 4), (48, 4), (52, 4), (56, 4)] := Bld.arrB rfl
instance : Pty Tryz.prog 152 194 := ⟨Tryz.underlying152⟩
instance : Slt Tryz.prog 167 3 1 := Slt.of Tryz.underlying167 (by kernel_rfl)
instance : Sc Tryz.prog 170 := Sc.of (by kernel_rfl) (by kernel_rfl)
instance : Zr Tryz.prog 170 [.map none] := Zr.of (by kernel_rfl)
instance : MapT Tryz.prog 170 49 53 := ⟨Tryz.underlying170⟩
instance : Sc Tryz.prog 172 := Sc.of (by kernel_rfl) (by kernel_rfl)
instance : Sc Tryz.prog 173 := Sc.of (by kernel_rfl) (by kernel_rfl)
instance : Ag Tryz.prog 175 4 := Ag.of (by kernel_rfl) (by kernel_rfl)
instance : Zr Tryz.prog 175 [.nilIface, .nilFunc, .nilFunc, .nilFunc] := Zr.of (by kernel_rfl)
instance : Bld Tryz.prog 175 [.nilIface, .nilFunc, .nilFunc, .nilFunc] [(0, 1), (1, 1), (2, 1), (3, 1)] := Bld.of Tryz.underlying175 (by kernel_rfl)
instance : FldOf Tryz.prog 175 0 0 82 := FldOf.ofB (by kernel_rfl)
instance : FldOf Tryz.prog 175 1 1 172 := FldOf.ofB (by kernel_rfl)
instance : FldOf Tryz.prog 175 2 2 172 := FldOf.ofB (by kernel_rfl)
instance : FldOf Tryz.prog 175 3 3 173 := FldOf.ofB (by kernel_rfl)
instance : Sc Tryz.prog 178 := Sc.of (by kernel_rfl) (by kernel_rfl)
instance : Zr Tryz.prog 178 [.map none] := Zr.of (by kernel_rfl)
instance : MapT Tryz.prog 178 49 3 := ⟨Tryz.underlying178⟩
instance : Sc Tryz.prog 184 := Sc.of (by kernel_rfl) (by kernel_rfl)
instance : Ag Tryz.prog 186 3 := Ag.of (by kernel_rfl) (by kernel_rfl)
instance : Zr Tryz.prog 186 [.int .u8 0, .int .i64 0, .nilFunc] := Zr.of (by kernel_rfl)
instance : Bld Tryz.prog 186 [.int .u8 0, .int .i64 0, .nilFunc] [(0, 1), (1, 1), (2, 1)] := Bld.of Tryz.underlying186 (by kernel_rfl)
instance : FldOf Tryz.prog 186 0 0 5 := FldOf.ofB (by kernel_rfl)
instance : FldOf Tryz.prog 186 1 1 3 := FldOf.ofB (by kernel_rfl)
instance : FldOf Tryz.prog 186 2 2 184 := FldOf.ofB (by kernel_rfl)
instance : MapT Tryz.prog 188 34 3 := ⟨Tryz.underlying188⟩
instance : Sc Tryz.prog 189 := Sc.of (by kernel_rfl) (by kernel_rfl)
instance : Slt Tryz.prog 189 103 2 := Slt.of Tryz.underlying189 (by kernel_rfl)
instance : Arr Tryz.prog 190 4096 3 1 := Arr.of Tryz.underlying190 (by kernel_rfl)
instance : FldOf Tryz.prog 192 0 0 189 := FldOf.ofB (by kernel_rfl)
instance : FldOf Tryz.prog 192 1 1 190 := FldOf.ofB (by kernel_rfl)
instance : FldOf Tryz.prog 194 0 0 192 := FldOf.ofB (by kernel_rfl)
instance : FldOf Tryz.prog 194 1 4097 4 := FldOf.ofB (by kernel_rfl)
instance : Sc Tryz.prog 200 := Sc.of (by kernel_rfl) (by kernel_rfl)
instance : Slt Tryz.prog 200 209 3 := Slt.of Tryz.underlying200 (by kernel_rfl)
instance : Ag Tryz.prog 202 3 := Ag.of (by kernel_rfl) (by kernel_rfl)
instance : Zr Tryz.prog 202 [.slice none 0 0, .int .i64 0, .int .i64 0] := Zr.of (by kernel_rfl)
instance : Bld Tryz.prog 202 [.slice none 0 0, .int .i64 0, .int .i64 0] [(0, 1), (1, 1), (2, 1)] := Bld.of Tryz.underlying202 (by kernel_rfl)
instance : FldOf Tryz.prog 202 0 0 200 := FldOf.ofB (by kernel_rfl)
instance : FldOf Tryz.prog 202 1 1 3 := FldOf.ofB (by kernel_rfl)
instance : FldOf Tryz.prog 202 2 2 3 := FldOf.ofB (by kernel_rfl)
instance : Ag Tryz.prog 203 12 := Ag.of (by kernel_rfl) (by kernel_rfl)
instance : Arr Tryz.prog 203 6 51 2 := Arr.of Tryz.underlying203 (by kernel_rfl)
instance : Ag Tryz.prog 204 8 := Ag.of (by kernel_rfl) (by kernel_rfl)
instance : Zr Tryz.prog 204 [.int .u8 0, .int .u8 0, .int .u8 0, .int .u8 0, .int .u8 0, .int .u8 0, .int .u8 0, .int .u8 0] := Zr.of (by kernel_rfl)
instance : Arr Tryz.prog 204 4 51 2 := Arr.of Tryz.underlying204 (by kernel_rfl)
instance : Bld Tryz.prog 204 [.int .u8 0, .int .u8 0, .int .u8 0, .int .u8 0, .int .u8 0, .int .u8 0, .int .u8 0, .int .u8 0] [(0, 2), (2, 2), (4, 2), (6, 2)] := Bld.arrB rfl
instance : Ag Tryz.prog 206 24 := Ag.of (by kernel_rfl) (by kernel_rfl)
instance : Zr Tryz.prog 206 (.int .u8 0 :: .int .u8 0 :: .int .u8 0 :: .int .u8 0 :: .int .u8 0 :: .int .u8 0 :: .int .u8 0 :: .int .u8 0 :: .int .u8 0 :: .int .u8 0 :: .int .u8 0 :: .int .u8 0 :: .int .u8 0 :: .int .u8 0 :: .int .u8 0 :: .int .u8 0 :: .int .u8 0 :: .int .u8 0 :: .int .u8 0 :: .int .u8 0 :: .int .u8 0 :: .int .u8 0 :: .int .u8 0 :: .int .u64 0 :: []) := Zr.of (by kernel_rfl)
instance : Bld Tryz.prog 206 (.int .u8 0 :: .int .u8 0 :: .int .u8 0 :: .int .u8 0 :: .int .u8 0 :: .int .u8 0 :: .int .u8 0 :: .int .u8 0 :: .int .u8 0 :: .int .u8 0 :: .int .u8 0 :: .int .u8 0 :: .int .u8 0 :: .int .u8 0 :: .int .u8 0 :: .int .u8 0 :: .int .u8 0 :: .int .u8 0 :: .int .u8 0 :: .int .u8 0 :: .int .u8 0 :: .int .u8 0 :: .int .u8 0 :: .int .u64 0 :: []) [(0, 2), (2, 12), (14, 8), (22, 1), (23, 1)] := Bld.of Tryz.underlying206 (by kernel_rfl)
instance : FldOf Tryz.prog 206 0 0 51 := FldOf.ofB (by kernel_rfl)
instance : FldOf Tryz.prog 206 1 2 203 := FldOf.ofB (by kernel_rfl)
instance : FldOf Tryz.prog 206 2 14 204 := FldOf.ofB (by kernel_rfl)
instance : FldOf Tryz.prog 206 3 22 5 := FldOf.ofB (by kernel_rfl)
instance : FldOf Tryz.prog 206 4 23 22 := FldOf.ofB (by kernel_rfl)
instance : Ag Tryz.prog 209 3 := Ag.of (by kernel_rfl) (by kernel_rfl)
instance : Zr Tryz.prog 209 [.int .i64 0, .int .u8 0, .int .u8 0] := Zr.of (by kernel_rfl)
instance : Bld Tryz.prog 209 [.int .i64 0, .int .u8 0, .int .u8 0] [(0, 1), (1, 2)] := Bld.of Tryz.underlying209 (by kernel_rfl)
instance : FldOf Tryz.prog 209 0 0 3 := FldOf.ofB (by kernel_rfl)
instance : FldOf Tryz.prog 209 1 1 51 := FldOf.ofB (by kernel_rfl)
instance : MapT Tryz.prog 214 49 5 := ⟨Tryz.underlying214⟩
instance : Zr Tryz.prog 217 [.int .u8 0, .int .i64 0, .nilFunc, .int .u8 0, .int .i64 0, .nilFunc, .int .u8 0, .int .i64 0, .nilFunc, .int .u8 0, .int .i64 0, .nilFunc, .int .u8 0, .int .i64 0, .nilFunc, .int .u8 0, .int .i64 0, .nilFunc] := Zr.of (by kernel_rfl)
instance : Arr Tryz.prog 217 6 186 3 := Arr.of Tryz.underlying217 (by kernel_rfl)
instance : Bld Tryz.prog 217 [.int .u8 0, .int .i64 0, .nilFunc, .int .u8 0, .int .i64 0, .nilFunc, .int .u8 0, .int .i64 0, .nilFunc, .int .u8 0, .int .i64 0, .nilFunc, .int .u8 0, .int .i64 0, .nilFunc, .int .u8 0, .int .i64 0, .nilFunc] [(0, 3), (3, 3), (6, 3), (9, 3), (12, 3), (15, 3)] := Bld.arrB rfl
instance : Slt Tryz.prog 248 22 1 := Slt.of Tryz.underlying248 (by kernel_rfl)
instance : ByT Tryz.prog 34 24 := ByT.of (by kernel_rfl)
instance : ByT Tryz.prog 49 24 := ByT.of (by kernel_rfl)
instance : ByT Tryz.prog 51 2 := ByT.of (by kernel_rfl)
instance : ByT Tryz.prog 103 16 := ByT.of (by kernel_rfl)
instance : ByT Tryz.prog 209 16 := ByT.of (by kernel_rfl)
theorem Tryz.fol : Tryz.prog.follows .mixedOrders = true := by kernel_rfl
instance : Fun Tryz.prog 4 := Fun.of Tryz.func4 (by kernel_rfl) rfl
instance : Fun Tryz.prog 5 := Fun.of Tryz.func5 (by kernel_rfl) rfl
instance : Fun Tryz.prog 6 := Fun.of Tryz.func6 (by kernel_rfl) rfl
instance : Fun Tryz.prog 7 := Fun.of Tryz.func7 (by kernel_rfl) rfl
instance : Fun Tryz.prog 8 := Fun.of Tryz.func8 (by kernel_rfl) rfl
instance : Fun Tryz.prog 9 := Fun.of Tryz.func9 (by kernel_rfl) rfl
instance : Fun Tryz.prog 10 := Fun.of Tryz.func10 (by kernel_rfl) rfl
instance : Fun Tryz.prog 11 := Fun.of Tryz.func11 (by kernel_rfl) rfl
instance : Fun Tryz.prog 12 := Fun.of Tryz.func12 (by kernel_rfl) rfl
instance : Fun Tryz.prog 13 := Fun.of Tryz.func13 (by kernel_rfl) rfl
instance : Fun Tryz.prog 14 := Fun.of Tryz.func14 (by kernel_rfl) rfl
instance : Fun Tryz.prog 15 := Fun.of Tryz.func15 (by kernel_rfl) rfl
instance : Fun Tryz.prog 16 := Fun.of Tryz.func16 (by kernel_rfl) rfl
instance : Fun Tryz.prog 17 := Fun.of Tryz.func17 (by kernel_rfl) rfl
instance : Fun Tryz.prog 18 := Fun.of Tryz.func18 (by kernel_rfl) rfl
instance : Fun Tryz.prog 19 := Fun.of Tryz.func19 (by kernel_rfl) rfl
instance : Fun Tryz.prog 20 := Fun.of Tryz.func20 (by kernel_rfl) rfl
instance : Fun Tryz.prog 21 := Fun.of Tryz.func21 (by kernel_rfl) rfl
instance : Fun Tryz.prog 22 := Fun.of Tryz.func22 (by kernel_rfl) rfl
instance : Fun Tryz.prog 23 := Fun.of Tryz.func23 (by kernel_rfl) rfl
instance : Fun Tryz.prog 24 := Fun.of Tryz.func24 (by kernel_rfl) rfl
instance : Fun Tryz.prog 25 := Fun.of Tryz.func25 (by kernel_rfl) rfl
instance : Fun Tryz.prog 26 := Fun.of Tryz.func26 (by kernel_rfl) rfl
instance : Fun Tryz.prog 27 := Fun.of Tryz.func27 (by kernel_rfl) rfl
instance : Fun Tryz.prog 28 := Fun.of Tryz.func28 (by kernel_rfl) rfl
instance : Fun Tryz.prog 29 := Fun.of Tryz.func29 (by kernel_rfl) rfl
instance : Fun Tryz.prog 30 := Fun.of Tryz.func30 (by kernel_rfl) rfl
instance : Fun Tryz.prog 31 := Fun.of Tryz.func31 (by kernel_rfl) rfl
instance : Fun Tryz.prog 32 := Fun.of Tryz.func32 (by kernel_rfl) rfl
instance : Fun Tryz.prog 33 := Fun.of Tryz.func33 (by kernel_rfl) rfl
instance : Fun Tryz.prog 34 := Fun.of Tryz.func34 (by kernel_rfl) rfl
instance : Fun Tryz.prog 35 := Fun.of Tryz.func35 (by kernel_rfl) rfl
instance : Fun Tryz.prog 36 := Fun.of Tryz.func36 (by kernel_rfl) rfl
instance : Fun Tryz.prog 37 := Fun.of Tryz.func37 (by kernel_rfl) rfl
instance : Fun Tryz.prog 38 := Fun.of Tryz.func38 (by kernel_rfl) rfl
instance : Fun Tryz.prog 41 := Fun.of Tryz.func41 (by kernel_rfl) rfl
instance : Fun Tryz.prog 42 := Fun.of Tryz.func42 (by kernel_rfl) rfl
instance : Fun Tryz.prog 43 := Fun.of Tryz.func43 (by kernel_rfl) rfl
instance : Fun Tryz.prog 44 := Fun.of Tryz.func44 (by kernel_rfl) rfl
instance : Fun Tryz.prog 45 := Fun.of Tryz.func45 (by kernel_rfl) rfl
instance : Fun Tryz.prog 46 := Fun.of Tryz.func46 (by kernel_rfl) rfl
instance : Fun Tryz.prog 47 := Fun.of Tryz.func47 (by kernel_rfl) rfl
instance : Fun Tryz.prog 48 := Fun.of Tryz.func48 (by kernel_rfl) rfl
instance : Fun Tryz.prog 49 := Fun.of Tryz.func49 (by kernel_rfl) rfl
instance : Fun Tryz.prog 50 := Fun.of Tryz.func50 (by kernel_rfl) rfl
instance : Fun Tryz.prog 51 := Fun.of Tryz.func51 (by kernel_rfl) rfl
instance : Fun Tryz.prog 52 := Fun.of Tryz.func52 (by kernel_rfl) rfl
instance : Fun Tryz.prog 53 := Fun.of Tryz.func53 (by kernel_rfl) rfl
instance : Fun Tryz.prog 54 := Fun.of Tryz.func54 (by kernel_rfl) rfl
instance : Fun Tryz.prog 55 := Fun.of Tryz.func55 (by kernel_rfl) rfl
instance : Fun Tryz.prog 56 := Fun.of Tryz.func56 (by kernel_rfl) rfl
instance : Fun Tryz.prog 57 := Fun.of Tryz.func57 (by kernel_rfl) rfl
instance : Fun Tryz.prog 58 := Fun.of Tryz.func58 (by kernel_rfl) rfl
instance : Fun Tryz.prog 59 := Fun.of Tryz.func59 (by kernel_rfl) rfl
instance : Fun Tryz.prog 60 := Fun.of Tryz.func60 (by kernel_rfl) rfl
instance : Fun Tryz.prog 61 := Fun.of Tryz.func61 (by kernel_rfl) rfl
instance : Fun Tryz.prog 62 := Fun.of Tryz.func62 (by kernel_rfl) rfl
instance : Fun Tryz.prog 73 := Fun.of Tryz.func73 (by kernel_rfl) rfl
instance : Fun Tryz.prog 74 := Fun.of Tryz.func74 (by kernel_rfl) rfl
instance : Fun Tryz.prog 75 := Fun.of Tryz.func75 (by kernel_rfl) rfl
instance : Fun Tryz.prog 76 := Fun.of Tryz.func76 (by kernel_rfl) rfl
instance : Fun Tryz.prog 77 := Fun.of Tryz.func77 (by kernel_rfl) rfl
instance : Fun Tryz.prog 78 := Fun.of Tryz.func78 (by kernel_rfl) rfl
instance : Fun Tryz.prog 79 := Fun.of Tryz.func79 (by kernel_rfl) rfl
instance : Fun Tryz.prog 80 := Fun.of Tryz.func80 (by kernel_rfl) rfl
instance : Fun Tryz.prog 81 := Fun.of Tryz.func81 (by kernel_rfl) rfl
instance : Fun Tryz.prog 82 := Fun.of Tryz.func82 (by kernel_rfl) rfl
instance : Fun Tryz.prog 83 := Fun.of Tryz.func83 (by kernel_rfl) rfl
instance : Fun Tryz.prog 84 := Fun.of Tryz.func84 (by kernel_rfl) rfl
instance : Fun Tryz.prog 85 := Fun.of Tryz.func85 (by kernel_rfl) rfl
instance : Fun Tryz.prog 86 := Fun.of Tryz.func86 (by kernel_rfl) rfl
instance : Fun Tryz.prog 87 := Fun.of Tryz.func87 (by kernel_rfl) rfl
instance : Fun Tryz.prog 88 := Fun.of Tryz.func88 (by kernel_rfl) rfl
instance : Fun Tryz.prog 89 := Fun.of Tryz.func89 (by kernel_rfl) rfl
instance : Fun Tryz.prog 95 := Fun.of Tryz.func95 (by kernel_rfl) rfl
instance : Fun Tryz.prog 96 := Fun.of Tryz.func96 (by kernel_rfl) rfl
instance : Fun Tryz.prog 97 := Fun.of Tryz.func97 (by kernel_rfl) rfl
instance : Fun Tryz.prog 98 := Fun.of Tryz.func98 (by kernel_rfl) rfl
instance : Fun Tryz.prog 99 := Fun.of Tryz.func99 (by kernel_rfl) rfl
instance : Fun Tryz.prog 100 := Fun.of Tryz.func100 (by kernel_rfl) rfl
instance : Fun Tryz.prog 101 := Fun.of Tryz.func101 (by kernel_rfl) rfl
instance : Fun Tryz.prog 102 := Fun.of Tryz.func102 (by kernel_rfl) rfl
instance : Fun Tryz.prog 103 := Fun.of Tryz.func103 (by kernel_rfl) rfl
instance : Fun Tryz.prog 104 := Fun.of Tryz.func104 (by kernel_rfl) rfl
instance : Fun Tryz.prog 105 := Fun.of Tryz.func105 (by kernel_rfl) rfl
instance : Fun Tryz.prog 106 := Fun.of Tryz.func106 (by kernel_rfl) rfl
instance : Fun Tryz.prog 107 := Fun.of Tryz.func107 (by kernel_rfl) rfl
instance : Fun Tryz.prog 108 := Fun.of Tryz.func108 (by kernel_rfl) rfl
instance : Fun Tryz.prog 109 := Fun.of Tryz.func109 (by kernel_rfl) rfl
instance : Fun Tryz.prog 110 := Fun.of Tryz.func110 (by kernel_rfl) rfl
instance : Fun Tryz.prog 111 := Fun.of Tryz.func111 (by kernel_rfl) rfl
instance : Fun Tryz.prog 112 := Fun.of Tryz.func112 (by kernel_rfl) rfl
instance : Fun Tryz.prog 113 := Fun.of Tryz.func113 (by kernel_rfl) rfl
instance : Fun Tryz.prog 114 := Fun.of Tryz.func114 (by kernel_rfl) rfl
instance : Fun Tryz.prog 115 := Fun.of Tryz.func115 (by kernel_rfl) rfl
instance : Fun Tryz.prog 116 := Fun.of Tryz.func116 (by kernel_rfl) rfl
instance : Fun Tryz.prog 117 := Fun.of Tryz.func117 (by kernel_rfl) rfl
instance : Fun Tryz.prog 119 := Fun.of Tryz.func119 (by kernel_rfl) rfl
instance : Fun Tryz.prog 120 := Fun.of Tryz.func120 (by kernel_rfl) rfl
instance : Fun Tryz.prog 121 := Fun.of Tryz.func121 (by kernel_rfl) rfl
instance : Fun Tryz.prog 122 := Fun.of Tryz.func122 (by kernel_rfl) rfl
instance : Fun Tryz.prog 125 := Fun.of Tryz.func125 (by kernel_rfl) rfl
instance : Fun Tryz.prog 126 := Fun.of Tryz.func126 (by kernel_rfl) rfl
instance : Fun Tryz.prog 127 := Fun.of Tryz.func127 (by kernel_rfl) rfl
instance : Fun Tryz.prog 128 := Fun.of Tryz.func128 (by kernel_rfl) rfl
instance : Fun Tryz.prog 129 := Fun.of Tryz.func129 (by kernel_rfl) rfl
instance : Fun Tryz.prog 130 := Fun.of Tryz.func130 (by kernel_rfl) rfl
instance : Fun Tryz.prog 131 := Fun.of Tryz.func131 (by kernel_rfl) rfl
instance : Fun Tryz.prog 132 := Fun.of Tryz.func132 (by kernel_rfl) rfl
instance : Fun Tryz.prog 133 := Fun.of Tryz.func133 (by kernel_rfl) rfl
instance : Fun Tryz.prog 134 := Fun.of Tryz.func134 (by kernel_rfl) rfl
instance : Fun Tryz.prog 135 := Fun.of Tryz.func135 (by kernel_rfl) rfl
instance : Fun Tryz.prog 136 := Fun.of Tryz.func136 (by kernel_rfl) rfl
instance : Fun Tryz.prog 145 := Fun.of Tryz.func145 (by kernel_rfl) rfl
instance : Fun Tryz.prog 146 := Fun.of Tryz.func146 (by kernel_rfl) rfl
instance : Fun Tryz.prog 147 := Fun.of Tryz.func147 (by kernel_rfl) rfl
instance : Fun Tryz.prog 148 := Fun.of Tryz.func148 (by kernel_rfl) rfl
instance : Fun Tryz.prog 149 := Fun.of Tryz.func149 (by kernel_rfl) rfl
instance : Fun Tryz.prog 150 := Fun.of Tryz.func150 (by kernel_rfl) rfl
instance : Fun Tryz.prog 151 := Fun.of Tryz.func151 (by kernel_rfl) rfl
instance : Fun Tryz.prog 152 := Fun.of Tryz.func152 (by kernel_rfl) rfl
instance : Fun Tryz.prog 153 := Fun.of Tryz.func153 (by kernel_rfl) rfl
instance : Fun Tryz.prog 154 := Fun.of Tryz.func154 (by kernel_rfl) rfl
instance : Fun Tryz.prog 155 := Fun.of Tryz.func155 (by kernel_rfl) rfl
instance : Fun Tryz.prog 156 := Fun.of Tryz.func156 (by kernel_rfl) rfl
instance : Fun Tryz.prog 157 := Fun.of Tryz.func157 (by kernel_rfl) rfl
instance : Fun Tryz.prog 161 := Fun.of Tryz.func161 (by kernel_rfl) rfl
instance : Fun Tryz.prog 162 := Fun.of Tryz.func162 (by kernel_rfl) rfl
instance : Fun Tryz.prog 180 := Fun.of Tryz.func180 (by kernel_rfl) rfl
instance : Fun Tryz.prog 181 := Fun.of Tryz.func181 (by kernel_rfl) rfl
instance : Fun Tryz.prog 182 := Fun.of Tryz.func182 (by kernel_rfl) rfl
instance : Fun Tryz.prog 183 := Fun.of Tryz.func183 (by kernel_rfl) rfl
instance : Fun Tryz.prog 184 := Fun.of Tryz.func184 (by kernel_rfl) rfl
instance : Fun Tryz.prog 185 := Fun.of Tryz.func185 (by kernel_rfl) rfl
instance : Fun Tryz.prog 186 := Fun.of Tryz.func186 (by kernel_rfl) rfl
instance : Fun Tryz.prog 187 := Fun.of Tryz.func187 (by kernel_rfl) rfl
instance : Fun Tryz.prog 188 := Fun.of Tryz.func188 (by kernel_rfl) rfl
instance : Fun Tryz.prog 189 := Fun.of Tryz.func189 (by kernel_rfl) rfl
instance : Fun Tryz.prog 190 := Fun.of Tryz.func190 (by kernel_rfl) rfl
instance : Fun Tryz.prog 191 := Fun.of Tryz.func191 (by kernel_rfl) rfl
instance : Fun Tryz.prog 192 := Fun.of Tryz.func192 (by kernel_rfl) rfl
instance : Fun Tryz.prog 193 := Fun.of Tryz.func193 (by kernel_rfl) rfl
instance : Fun Tryz.prog 194 := Fun.of Tryz.func194 (by kernel_rfl) rfl
instance : Fun Tryz.prog 195 := Fun.of Tryz.func195 (by kernel_rfl) rfl
instance : Fun Tryz.prog 196 := Fun.of Tryz.func196 (by kernel_rfl) rfl
instance : Fun Tryz.prog 197 := Fun.of Tryz.func197 (by kernel_rfl) rfl
instance : Fun Tryz.prog 198 := Fun.of Tryz.func198 (by kernel_rfl) rfl
instance : Fun Tryz.prog 199 := Fun.of Tryz.func199 (by kernel_rfl) rfl
instance : Fun Tryz.prog 200 := Fun.of Tryz.func200 (by kernel_rfl) rfl
instance : Fun Tryz.prog 201 := Fun.of Tryz.func201 (by kernel_rfl) rfl
instance : Fun Tryz.prog 202 := Fun.of Tryz.func202 (by kernel_rfl) rfl
instance : Fun Tryz.prog 203 := Fun.of Tryz.func203 (by kernel_rfl) rfl
instance : Fun Tryz.prog 204 := Fun.of Tryz.func204 (by kernel_rfl) rfl
instance : Fun Tryz.prog 205 := Fun.of Tryz.func205 (by kernel_rfl) rfl
instance : Fun Tryz.prog 206 := Fun.of Tryz.func206 (by kernel_rfl) rfl
instance : Fun Tryz.prog 207 := Fun.of Tryz.func207 (by kernel_rfl) rfl
instance : Fun Tryz.prog 210 := Fun.of Tryz.func210 (by kernel_rfl) rfl
instance : Fun Tryz.prog 211 := Fun.of Tryz.func211 (by kernel_rfl) rfl
instance : Fun Tryz.prog 213 := Fun.of Tryz.func213 (by kernel_rfl) rfl
instance : Fun Tryz.prog 215 := Fun.of Tryz.func215 (by kernel_rfl) rfl
instance : Fun Tryz.prog 223 := Fun.of Tryz.func223 (by kernel_rfl) rfl
instance : Fun Tryz.prog 224 := Fun.of Tryz.func224 (by kernel_rfl) rfl
instance : Fun Tryz.prog 225 := Fun.of Tryz.func225 (by kernel_rfl) rfl
instance : Fun Tryz.prog 226 := Fun.of Tryz.func226 (by kernel_rfl) rfl
end Go.Proofs

namespace Go.Proofs
open Go.Bk
end Go.Proofs
namespace Go.Proofs
open Go.Bk
set_option maxRecDepth 2000000 in
instance : Zr Tryz.prog 80 (List.replicate 16384 (.int .u8 0) ++ [.slice none 0 0]) := Zr.of (by kernel_rfl)
end Go.Proofs

namespace Go.Bk
theorem Mth.of {P : Program} {t : TypeId} {name : String} {g : FuncId} {i : TypeInfo} {m : Method} {E : TypeId} (hi : P.info? t = some i) (hm : i.methods.find? (·.name == name) = some m) (hp : m.path.toList = []) (hf : m.func = some (g, true)) (hu : P.underlying t = some (.pointer E)) (hs : P.types.size + Made.depth ≠ 0) : Mth P t name g where
 mth v w := by
  obtain ⟨k, hk⟩ := Nat.exists_eq_succ_of_ne_zero hs
  rw [hk]
  unfold method
  rw [ok_of (run_info hi w), hm]
  simp only [hp, follow, pure_bind, hf, bind_assoc]
  unfold receiverAt
  rw [bind_assoc, ok_of (run_underlying' hu w)]
  simp [Place.get]
def mthB (P : Program) (t : TypeId) (name : String) (g : FuncId) : Bool :=
 match P.info? t with
 | some i => match i.methods.find? (·.name == name) with
  | some m => m.path.toList.isEmpty && (match m.func with
   | some (f, b) => Nat.beq f g && b
   | none => false) && (match P.underlying t with
   | some (.pointer _) => true
   | _ => false) && !(Nat.beq (P.types.size + Made.depth) 0)
  | none => false
 | none => false
theorem Mth.ofB {P : Program} {t : TypeId} {name : String} {g : FuncId} (h : mthB P t name g = true) : Mth P t name g := by
 unfold mthB at h
 split at h
 ·rename_i i hi
  split at h
  ·rename_i m hm
   simp only [Bool.and_eq_true] at h
   obtain ⟨⟨⟨h1, h2⟩, h3⟩, h4⟩ := h
   split at h2
   ·rename_i f b hf
    simp only [Bool.and_eq_true] at h2
    obtain ⟨h2, rfl⟩ := h2
    have := Nat.eq_of_beq_eq_true h2; subst this
    split at h3
    ·rename_i E hE
     exact Mth.of hi hm (by simpa using h1) hf hE (fun e => by rw [e] at h4; simp at h4)
    ·cases h3
   ·cases h2
  ·cases h
 ·cases h
end Go.Bk
namespace Go.Proofs
open Go.Bk
instance : EqT Tryz.prog 34 Pl Pl.cs := EqT.three Tryz.eq34
instance : EqT Tryz.prog 49 Pl Pl.cs := EqT.three Tryz.eq49
instance : EqT Tryz.prog 51 C2 C2.cs := EqT.two Tryz.eq51
instance : EqT Tryz.prog 53 C2 C2.cs := EqT.two Tryz.eq53
instance : EqT Tryz.prog 75 (Row C2 4096) (fun r => r.l.flatMap C2.cs) := EqT.arr (t := 5) Tryz.eq51 Tryz.underlying75 (by kernel_rfl) (by kernel_rfl) (by kernel_rfl)
instance : EqT Tryz.prog 77 (Row C2 4096) (fun r => r.l.flatMap C2.cs) := EqT.arr (t := 5) Tryz.eq53 Tryz.underlying77 (by kernel_rfl) (by kernel_rfl) (by kernel_rfl)
instance : Mth Tryz.prog 24 "Cell" 180 := Mth.ofB (by kernel_rfl)
instance : Mth Tryz.prog 24 "Drop" 181 := Mth.ofB (by kernel_rfl)
instance : Mth Tryz.prog 24 "Due" 182 := Mth.ofB (by kernel_rfl)
instance : Mth Tryz.prog 24 "Light" 183 := Mth.ofB (by kernel_rfl)
instance : Mth Tryz.prog 24 "Lit" 184 := Mth.ofB (by kernel_rfl)
instance : Mth Tryz.prog 24 "Put" 185 := Mth.ofB (by kernel_rfl)
instance : Mth Tryz.prog 24 "Ready" 186 := Mth.ofB (by kernel_rfl)
instance : Mth Tryz.prog 24 "Wake" 187 := Mth.ofB (by kernel_rfl)
instance : Mth Tryz.prog 197 "Push" 225 := Mth.ofB (by kernel_rfl)
instance : Mth Tryz.prog 197 "Pop" 224 := Mth.ofB (by kernel_rfl)
instance : Mth Tryz.prog 197 "Swap" 226 := Mth.ofB (by kernel_rfl)
theorem Ext.of {P : Program} {f : FuncId} {fn : Func} {e : Array Value → Sem Value} (hf : P.funcs[f]? = some fn) (hname : (fn.name == "runtime.NumGoroutine") = false)
  (hb : fn.body.isNone = true) (hn : Extern.findNext fn = none) (he : Extern.find fn = some e) : Ext P f e := ⟨fun args w => run_callFunc_extern hf hname hb hn he args w⟩
instance : Ext Tryz.prog 124 Extern.MapsClone.clone := Ext.of Tryz.func124 (by kernel_rfl) (by kernel_rfl) (by kernel_rfl) (by kernel_rfl)
instance : Ext Tryz.prog 208 (Extern.SlicesOverlaps.overlaps #[78, 78] #[4]) := Ext.of Tryz.func208 (by kernel_rfl) (by kernel_rfl) (by kernel_rfl) (by kernel_rfl)
end Go.Proofs

namespace Go.Bk
def MpE {κ β : Type} [DecidableEq κ] (ek : κ → Value) (ev : β → Value) (r : Nat) (l : List (κ × β)) (k : κ) (z : β) (s : Nat) : Asn := fun h =>
 ∃ es c l1 j e, h r = some (.map es c) ∧ entOk ek ev c 0 es.toList l1 ∧ idxM l1 k = some j ∧ es.toList[j]? = some e ∧ e.born = s ∧ getM l1 k = some ((getM l k).getD z) ∧ ∀ v, setM l1 k v = setM l k v
section
variable {P : Program} {w0 : World} {h0 : Hp} {q : Bool} {ops : Array Oper} {K : Act → World → Prop} {Q : Exit → Act → World → Prop} {rest : List Oper} {n : Nat} {L : Sl} {Γ Γ' Γ2 : List Asn}
variable {d : Tmp} {ty : TypeId} {pos : String} {af : Array Edge}
variable {κ β : Type} [DecidableEq κ] {ek : κ → Value} {ev' : β → Value} {l : List (κ × β)} {r : Nat}
theorem setM_twice (l : List (κ × β)) (k : κ) (u v : β) : setM (setM l k u) k v = setM l k v := by
 induction l with
 | nil => simp [setM]
 | cons p r ih =>
  obtain ⟨a, x⟩ := p
  simp only [setM]
  by_cases g : k = a
  ·simp [g, setM]
  ·simp only [if_neg g, setM, ih]
theorem idxM_end (l : List (κ × β)) (k : κ) (v : β) (h : getM l k = none) : idxM (l ++ [(k, v)]) k = some l.length := by
 induction l with
 | nil => simp [idxM]
 | cons p r ih =>
  obtain ⟨a, x⟩ := p
  simp only [getM] at h
  by_cases g : k = a
  ·simp [g] at h
  ·simp only [if_neg g] at h
   simp only [List.cons_append, idxM, if_neg g, ih h, Option.map_some, List.length_cons]
theorem entOk_len {c : Nat} : ∀ (es : List MapEntry) (l : List (κ × β)) (lo : Nat), entOk ek ev' c lo es l → es.length = l.length
 | [], [], _, _ => rfl
 | [], _ :: _, lo, h => by simp [entOk] at h
 | _ :: _, [], lo, h => by simp [entOk] at h
 | e :: es, (a, u) :: r, lo, h => by
  obtain ⟨_, _, _, _, h5⟩ := h
  simp [entOk_len es r _ h5]
theorem entOk_same {c : Nat} (k : κ) : ∀ (es : List MapEntry) (l : List (κ × β)) (lo j : Nat), idxM l k = some j → entOk ek ev' c lo es l → es.modify j (fun e => { e with key := ek k }) = es
 | [], [], lo, j, hj, _ => by simp [idxM] at hj
 | [], _ :: _, lo, j, hj, h => by simp [entOk] at h
 | _ :: _, [], lo, j, hj, h => by simp [entOk] at h
 | e :: es, (a, u) :: r, lo, j, hj, h => by
  obtain ⟨h1, h2, h3, h4, h5⟩ := h
  simp only [idxM] at hj
  by_cases g : k = a
  ·simp only [g, if_true, Option.some.injEq] at hj
   subst hj
   simp only [List.modify_zero_cons]
   congr 1
   rw [g, ← h1]
  ·simp only [if_neg g] at hj
   obtain ⟨j', hj', rfl⟩ := Option.map_eq_some_iff.1 hj
   simp only [List.modify_succ_cons]
   rw [entOk_same k es r _ j' hj' h5]
theorem entOk_val {c : Nat} (k : κ) (v : β) : ∀ (es : List MapEntry) (l : List (κ × β)) (lo j : Nat), idxM l k = some j → entOk ek ev' c lo es l → entOk ek ev' c lo (es.modify j fun e => { e with val := ev' v }) (setM l k v)
 | [], [], lo, j, hj, _ => by simp [idxM] at hj
 | [], _ :: _, lo, j, hj, h => by simp [entOk] at h
 | _ :: _, [], lo, j, hj, h => by simp [entOk] at h
 | e :: es, (a, u) :: r, lo, j, hj, h => by
  obtain ⟨h1, h2, h3, h4, h5⟩ := h
  simp only [idxM] at hj
  by_cases g : k = a
  ·simp only [g, if_true, Option.some.injEq] at hj
   subst hj
   simp only [setM, g, if_true, List.modify_zero_cons]
   exact ⟨h1, rfl, h3, h4, h5⟩
  ·simp only [if_neg g] at hj
   obtain ⟨j', hj', rfl⟩ := Option.map_eq_some_iff.1 hj
   simp only [setM, if_neg g, List.modify_succ_cons]
   exact ⟨h1, h2, h3, h4, entOk_val k v es r _ j' hj' h5⟩
theorem XL.mapEntry {x y : Operand} {T KT ET : Nat} {k : κ} {z : β} (hx : ev L x = some (.map (some r))) (hy : ev L y = some (ek k)) [hT : MapT P T KT ET] [hk : KeyT P KT κ ek] (hz : ∀ w, (zeroValue ET).run P w = .ok (ev' z) w) (hs : Rm (MpR ek ev' r l) Γ Γ2) (hd : Nat.blt d n = true)
  (kk : ∀ v (s : Nat), XL P w0 h0 false ops K Q rest n ((d, .tuple #[v, .int .i64 (s : Int)]) :: L) (MpE ek ev' r l k z s :: Γ2)) : XL P w0 h0 false ops K Q (⟨some d, .mapEntry T x y, ty, pos, af, none⟩ :: rest) n L Γ :=
 XL.valueW (R := fun v Γ' => ∃ u s, v = .tuple #[u, .int .i64 ((s : Nat) : Int)] ∧ Γ' = MpE ek ev' r l k z s :: Γ2) (fun a w f s => by
  obtain ⟨h, st, ag, fr⟩ := s
  obtain ⟨h1, hr, e, dd, ⟨es, c, hm, ho⟩, st2⟩ := hs.to h st
  have hw : w.heap[r]? = some (.map es c) := ag r _ (by rw [e]; exact un_left hm)
  have hS : Wd w0 h0 (pt r (.map es c) :: Γ2) w := ⟨h, ⟨h1, hr, e, dd, hm, st2⟩, ag, fr⟩
  have run : ∀ es' c', (setObj r (.map es' c')).run P w = .ok () (setB w r (.map es' c')) := fun es' c' => setObj_map hw
  simp only [execOp, f.ev hx, f.ev hy, Instr.mapEntry]
  cases hg : getM l k with
  | none =>
   refine ⟨_, _, _, ?_, ⟨ev' z, c, rfl, rfl⟩, ((PtAt.here r (.map es c) Γ2).set hS (.map (es.push ⟨ek k, ev' z, c⟩) (c + 1))).mono fun h hs => star_head (fun h hp => ?_) hs⟩
   ·simp only [bind_assoc]
    rw [ok_of (run_underlying' hT.map w)]
    simp only [bind_assoc]
    rw [ok_of (getObj_map hw)]
    simp only [bind_assoc]
    rw [ok_of (hk.chk _ k w), ok_of (findKey_spec k w es.toList l 0 ho), findKey_none hg]
    simp only [bind_assoc]
    rw [ok_of (hz w), ok_of (run _ _)]; rfl
   ·refine ⟨_, _, l ++ [(k, z)], l.length, ⟨ek k, ev' z, c⟩, hp, by simpa using entOk_push k z es.toList l 0 (Nat.zero_le _) ho, idxM_end l k z hg, ?_, rfl, by rw [← setM_none hg, getM_setM, if_pos rfl, hg]; rfl, fun v => by rw [← setM_none hg, setM_twice]⟩
    have := entOk_len _ _ _ ho
    rw [Array.toList_push, ← this]
    exact List.getElem?_concat_length
  | some u =>
   obtain ⟨j, hj, hij⟩ := findKey_some (ev' := ev') hg
   obtain ⟨e0, he0, hek⟩ := entOk_key k es.toList l 0 j hij ho
   have hmod : (es.modify j fun e => { e with key := ek k }) = es := by
    apply Array.ext'
    rw [Array.toList_modify]; exact entOk_same k es.toList l 0 j hij ho
   refine ⟨_, _, _, ?_, ⟨ev' u, e0.born, rfl, rfl⟩, ((PtAt.here r (.map es c) Γ2).set hS (.map es c)).mono fun h hs => star_head (fun h hp => ⟨es, c, l, j, e0, hp, ho, hij, he0, rfl, by rw [hg]; rfl, fun v => rfl⟩) hs⟩
   simp only [bind_assoc]
   rw [ok_of (run_underlying' hT.map w)]
   simp only [bind_assoc]
   rw [ok_of (getObj_map hw)]
   simp only [bind_assoc]
   rw [ok_of (hk.chk _ k w), ok_of (findKey_spec k w es.toList l 0 ho), hj]
   try simp only [bind_assoc]
   have hkk : (Instr.keyThatStays (((es[j]?).map (·.key)).getD (ek k)) (ek k)).run P w = .ok (ek k) w := by
    have : ((es[j]?).map (·.key)).getD (ek k) = ek k := by
     rw [← Array.getElem?_toList, he0]; exact hek
    rw [this]; unfold Instr.keyThatStays; rw [if_pos (hk.bits k)]; rfl
   rw [ok_of hkk, hmod, ok_of (run _ _)]
   have hb : ((es[j]?).map fun x => (x.born : Int)).getD 0 = (e0.born : Int) := by rw [← Array.getElem?_toList, he0]; rfl
   simp only [hb]; rfl) hd (by rintro v Γ' ⟨u, s, rfl, rfl⟩; exact kk u s)
theorem find_born : ∀ (es : List MapEntry) (j : Nat) (e : MapEntry), es[j]? = some e → (∀ e ∈ es, ∀ e' ∈ es, e.born = e'.born → e = e') → es.Pairwise (fun a b => a.born ≠ b.born) → es.findIdx? (fun x => ((x.born : Int) == ((e.born : Nat) : Int))) = some j
 | [], j, e, h, _, _ => by simp at h
 | x :: es, 0, e, h, _, _ => by simp at h; subst h; simp [List.findIdx?_cons]
 | x :: es, j + 1, e, h, inj, nd => by
  have h' : es[j]? = some e := by simpa using h
  have hx : x.born ≠ e.born := (List.pairwise_cons.1 nd).1 e (List.mem_of_getElem? h')
  have := find_born es j e h' (fun a ha b hb => inj a (List.mem_cons_of_mem _ ha) b (List.mem_cons_of_mem _ hb)) (List.pairwise_cons.1 nd).2
  rw [List.findIdx?_cons]
  rw [if_neg (by simp; omega), this]; rfl
theorem XL.entryStore {x y zz : Operand} {T : Nat} {k : κ} {s : Nat} {v z : β} (hx : ev L x = some (.map (some r))) (hy : ev L y = some (.int .i64 (s : Int))) (hz : ev L zz = some (ev' v)) (hs : Rm (MpE ek ev' r l k z s) Γ Γ2)
  (kk : XL P w0 h0 false ops K Q rest n L (MpR ek ev' r (setM l k v) :: Γ2)) : XL P w0 h0 false ops K Q (⟨none, .entryStore T x y zz, ty, pos, af, none⟩ :: rest) n L Γ :=
 XL.nothing (fun a w f st0 => by
  obtain ⟨h, st, ag, fr⟩ := st0
  obtain ⟨h1, hr, e, dd, ⟨es, c, l1, j, e0, hm, ho, hij, he0, hb, _, hset⟩, st2⟩ := hs.to h st
  have hw : w.heap[r]? = some (.map es c) := ag r _ (by rw [e]; exact un_left hm)
  have hS : Wd w0 h0 (pt r (.map es c) :: Γ2) w := ⟨h, ⟨h1, hr, e, dd, hm, st2⟩, ag, fr⟩
  refine ⟨setB w r (.map (es.modify j fun e => { e with val := ev' v }) c), ?_, ((PtAt.here r (.map es c) Γ2).set hS (.map (es.modify j fun e => { e with val := ev' v }) c)).mono fun h hs => star_head (fun h hp => ⟨_, c, hp, ?_⟩) hs⟩
  ·simp only [execOp, f.ev hx, f.ev hy, f.ev hz, Instr.entryStore, bind_assoc]
   rw [ok_of (getObj_map hw)]
   simp only [asInt, asIntOf, pure_bind, bind_assoc]
   have hf : es.findIdx? (fun e => (e.born : Int) == (s : Int)) = some j := by
    rw [← hb, show es = es.toList.toArray by simp, List.findIdx?_toArray]
    exact find_born es.toList j e0 he0 (entOk_inj _ _ _ ho) (entOk_nd _ _ _ ho)
   simp only [hf]
   rw [ok_of (setObj_map hw)]; rfl
  ·rw [Array.toList_modify, ← hset v]; exact entOk_val k v es.toList l1 0 j hij ho) kk
theorem XL.lookupE {x y : Operand} {T KT ET : Nat} {k : κ} {z : β} {s : Nat} (hx : ev L x = some (.map (some r))) (hy : ev L y = some (ek k)) [hT : MapT P T KT ET] [hk : KeyT P KT κ ek] (hs : Rm (MpE ek ev' r l k z s) Γ Γ2) (hz : ∀ w, (zeroValue ET).run P w = .ok (ev' z) w) (hd : Nat.blt d n = true)
  (kk : XL P w0 h0 q ops K Q rest n ((d, ev' ((getM l k).getD z)) :: L) Γ) : XL P w0 h0 q ops K Q (⟨some d, .lookup T x y false, ty, pos, af, none⟩ :: rest) n L Γ :=
 XL.value (fun a w f s => by
  obtain ⟨h, ⟨es, c, l1, j, e0, h1, h2, _, _, _, hg, _⟩, ag⟩ := star_get hs s
  simp only [execOp, f.ev hx, f.ev hy]
  rw [ok_of (lookup_run (ok := false) (ag r _ h1) h2 hz), hg]; rfl) hd kk
theorem clone_run {f : FuncId} {t : TypeId} [hf : Ext P f Extern.MapsClone.clone] {x : Operand} {tys : Array TypeId} (hx : ev L x = some (.iface t (.map (some r)))) (hs : Rm (MpR ek ev' r l) Γ Γ2) (hd : Nat.blt d n = true)
  (k : ∀ r', XL P w0 h0 false ops K Q rest n ((d, .iface t (.map (some r'))) :: L) (MpR ek ev' r' l :: Γ)) : XL P w0 h0 false ops K Q (⟨some d, .call ⟨.value (.func f), #[x], tys⟩, ty, pos, af, none⟩ :: rest) n L Γ :=
 XL.extW (l := [x]) (vs := [.iface t (.map (some r))]) (R := fun v Γ' => ∃ r', v = .iface t (.map (some r')) ∧ Γ' = MpR ek ev' r' l :: Γ) (by simp [evs, hx]) (fun w s => by
  obtain ⟨h, ⟨es, c, hm, ho⟩, ag⟩ := star_get hs s
  refine ⟨_, { w with heap := w.heap.push (.map es c) }, _, ?_, ⟨w.heap.size, rfl, rfl⟩, (s.new (.map es c)).mono fun h' hs' => star_head (fun k hk => ⟨es, c, hk, ho⟩) hs'⟩
  change Sem.run P (getObj r >>= _) w = _
  rw [ok_of (getObj_map (ag r _ hm))]
  simp only []
  rw [ok_of (newB w _)]; rfl) hd (by rintro v Γ' ⟨r', rfl, rfl⟩; exact k r')
end
class NilA (P : Program) (t : TypeId) (name : String) : Prop where
 na : ∀ v w, (nilAhead (P.types.size + Made.depth) t v name).run P w = .ok (some false) w
theorem NilA.of {P : Program} {t : TypeId} {name : String} {g : FuncId} {i : TypeInfo} {m : Method} (hi : P.info? t = some i) (hm : i.methods.find? (·.name == name) = some m) (hp : m.path.toList = []) (hf : m.func = some (g, true)) (hs : P.types.size + Made.depth ≠ 0) : NilA P t name where
 na v w := by
  obtain ⟨k, hk⟩ := Nat.exists_eq_succ_of_ne_zero hs
  rw [hk]
  unfold nilAhead
  rw [ok_of (run_info hi w), hm]
  simp only [hp, followBlind, pure_bind, hf]
  rfl
theorem NilA.ofB {P : Program} {t : TypeId} {name : String} {g : FuncId} (h : mthB P t name g = true) : NilA P t name := by
 unfold mthB at h
 split at h
 ·rename_i i hi
  split at h
  ·rename_i m hm
   simp only [Bool.and_eq_true] at h
   obtain ⟨⟨⟨h1, h2⟩, h3⟩, h4⟩ := h
   split at h2
   ·rename_i f b hf
    simp only [Bool.and_eq_true] at h2
    obtain ⟨h5, h6⟩ := h2
    subst h6
    exact NilA.of hi hm (by simpa using h1) hf (fun e => by rw [e] at h4; simp at h4)
   ·cases h2
  ·cases h
 ·cases h
section
variable {P : Program} {w0 : World} {h0 : Hp} {q : Bool} {ops : Array Oper} {K : Act → World → Prop} {Q : Exit → Act → World → Prop} {rest : List Oper} {n : Nat} {L : Sl} {Γ : List Asn}
variable {d : Tmp} {ty : TypeId} {pos : String} {af : Array Edge}
theorem XL.nilCheckM {x : Operand} {t : TypeId} {name : String} {v : Value} {l2 : List Value} (hx : ev L x = some (.func (.method name) [.iface t v].toArray l2.toArray)) [hn : NilA P t name] (hd : Nat.blt d n = true) (k : XL P w0 h0 q ops K Q rest n ((d, .func (.method name) #[.iface t v] l2.toArray) :: L) Γ) :
  XL P w0 h0 q ops K Q (⟨some d, .nilCheck x, ty, pos, af, none⟩ :: rest) n L Γ :=
 XL.value (fun a w f s => by
  simp only [execOp, f.ev hx]
  simp only [List.getElem?_toArray, List.getElem?_cons_zero]
  rw [ok_of (show (program).run P w = .ok P w from rfl), ok_of (hn.na v w)]; rfl) hd k
end
instance : NilA Go.Proofs.Tryz.prog 24 "Lit" := NilA.ofB (g := 184) (by kernel_rfl)
end Go.Bk

namespace Go.Bk
class MthE (P : Program) (t : TypeId) (name : String) (g : outParam FuncId) : Prop where
 mth : ∀ b w u, (∃ cs T, w.heap[b]? = some (cel (u :: cs) T)) → (method (P.types.size + Made.depth) t (.pointer (some ⟨b, 0, none⟩)) name).run P w = .ok (g, u) w
theorem MthE.of {P : Program} {t : TypeId} {name : String} {g : FuncId} {i : TypeInfo} {m : Method} {s : FieldStep} {fs : Array Field} {fd : Field} {E : TypeId} {k : Nat} (hi : P.info? t = some i) (hm : i.methods.find? (·.name == name) = some m) (hp : m.path.toList = [s]) (hd : s.deref = true)
  (hu : P.underlying s.struct = some (.struct fs)) (hf : fs[s.index]? = some fd) (ho : fd.offset = 0) (hfn : m.func = some (g, false)) (hu2 : P.underlying fd.type = some (.slice E)) (hk : (P.info? fd.type).map (·.size) = some (k + 1)) (hs : P.types.size + Made.depth ≠ 0) (hsc : Sc P fd.type) : MthE P t name g where
 mth b w u h := by
  obtain ⟨cs, T, hc⟩ := h
  obtain ⟨n, hn⟩ := Nat.exists_eq_succ_of_ne_zero hs
  rw [hn]
  unfold method
  rw [ok_of (run_info hi w), hm]
  simp only [hp, follow, bind_assoc]
  rw [ok_of (run_underlying' hu w)]
  simp only [hf, hd, if_true, Place.get, pure_bind, asAddr, bind_assoc]
  unfold fieldPlace
  simp only [bind_assoc]
  rw [ok_of (run_size hk w), if_neg (by omega)]
  simp only [pure_bind, hfn, ho, add_none, Nat.add_zero]
  have hpe : m.path.isEmpty = false := by
   have : m.path.size = 1 := by rw [← Array.length_toList, hp]; rfl
   cases e : m.path.isEmpty with
   | false => rfl
   | true => rw [Array.isEmpty_iff] at e; rw [e] at this; simp at this
  simp only [hpe, Bool.false_eq_true, if_false]
  unfold receiverAt
  simp only [bind_assoc]
  rw [ok_of (run_underlying' hu2 w)]
  simp only [Place.get]
  rw [ok_of (loadVar_sc hc (off := 0) (v := u) rfl)]
  rfl
def mthEB (P : Program) (t : TypeId) (name : String) (g : FuncId) : Bool :=
 match P.info? t with
 | some i => match i.methods.find? (·.name == name) with
  | some m => match m.path.toList with
   | [s] => s.deref && (match P.underlying s.struct with
    | some (.struct fs) => match fs[s.index]? with
     | some fd => Nat.beq fd.offset 0 && (match m.func with
      | some (f, b) => Nat.beq f g && !b
      | none => false) && (match P.underlying fd.type with
      | some (.slice _) => true
      | _ => false) && (match (P.info? fd.type).map (·.size) with
      | some k => Nat.beq k 1
      | none => false) && !(Nat.beq (P.types.size + Made.depth) 0)
     | none => false
    | _ => false)
   | _ => false
  | none => false
 | none => false
theorem MthE.ofB {P : Program} {t : TypeId} {name : String} {g : FuncId} (h : mthEB P t name g = true) : MthE P t name g := by
 unfold mthEB at h
 split at h
 ·rename_i i hi
  split at h
  ·rename_i m hm
   split at h
   ·rename_i s hs
    simp only [Bool.and_eq_true] at h
    obtain ⟨hd, h⟩ := h
    split at h
    ·rename_i fs hfs
     split at h
     ·rename_i fd hfd
      simp only [Bool.and_eq_true] at h
      obtain ⟨⟨⟨⟨h1, h2⟩, h3⟩, h4⟩, h5⟩ := h
      split at h2
      ·rename_i f b hf
       simp only [Bool.and_eq_true, Bool.not_eq_true'] at h2
       obtain ⟨h6, h7⟩ := h2
       subst h7
       have := Nat.eq_of_beq_eq_true h6; subst this
       split at h3
       ·rename_i E hE
        split at h4
        ·rename_i k hk
         have := Nat.eq_of_beq_eq_true h4; subst this
         exact MthE.of hi hm hs hd hfs hfd (Nat.eq_of_beq_eq_true h1) hf hE hk (fun e => by rw [e] at h5; simp at h5) (Sc.of (by unfold scB; rw [hE]) hk)
        ·cases h4
       ·cases h3
      ·cases h2
     ·cases h
    ·cases h
   ·cases h
  ·cases h
 ·cases h
section
variable {P : Program} {w0 : World} {h0 : Hp} {q : Bool} {ops : Array Oper} {K : Act → World → Prop} {Q : Exit → Act → World → Prop} {rest : List Oper} {n : Nat} {L : Sl} {Γ Γ' : List Asn}
variable {d : Tmp} {ty : TypeId} {pos : String} {af : Array Edge}
theorem yielded_none {a : Act} (f : Fit n L a) {j e : Nat} {o : Oper} (ho : ops[j]? = some o) (hd : o.dst = some e) (hu : lk L e = some undef) : yielded ops a.tmps j = none := by
 unfold yielded
 simp [ho, hd, f.get e _ hu, undef]
theorem XL.skipU {op : Op} {j e : Nat} {b : Bool} {o : Oper} (ho : ops[j]? = some o) (hdj : o.dst = some e) (hu : lk L e = some undef) (hd : Nat.blt d n = true)
  (k : XL P w0 h0 q ops K Q rest n ((d, undef) :: L) Γ) : XL P w0 h0 q ops K Q (⟨some d, op, ty, pos, af, some (j, b)⟩ :: rest) n L Γ := by
 cases q with
 | false =>
  intro a w f s
  unfold wpList
  rw [if_neg (by simp [Region.wanted, yielded_none f ho hdj hu])]
  exact k _ _ (f.put d undef hd) s
 | true =>
  intro a f
  unfold wpQD
  rw [if_neg (by simp [Region.wanted, yielded_none f ho hdj hu])]
  exact k _ (f.put d undef hd)
theorem runC_invE {dst : Option Tmp} {x : Operand} {l : List Operand} {tys : Array TypeId} {t : TypeId} {name : String} {b : Nat} {u : Value} {cs : List Value} {KK : List Value → List Asn} {vs : List Value} {g : FuncId} (hr : ev L x = some (.iface t (.pointer (some ⟨b, 0, none⟩)))) (hx : evs L l = some vs) [hp : PtC Γ b (u :: cs) KK] [hm : MthE P t name g] [hf : Fun P g] :
  RunC P w0 h0 n L Γ ⟨dst, .call ⟨.invoke x name, l.toArray, tys⟩, ty, pos, af, none⟩ g (u :: vs) := fun a w fi s => by
 have hmw : (method (P.types.size + Made.depth) t (.pointer (some ⟨b, 0, none⟩)) name).run P w = .ok (g, u) w := by
  obtain ⟨rest, T, e, _⟩ := hp.get s
  exact hm.mth b w u ⟨_, T, e⟩
 simp only [execOp, resolve, fi.ev hr, List.map_toArray, fi.evs hx]
 rw [pure_bind]
 simp only [invoke]
 have e : (#[Value.iface t (.pointer (some ⟨b, 0, none⟩))] ++ vs.toArray : Array Value)[0]? = some (.iface t (.pointer (some ⟨b, 0, none⟩))) := by simp
 rw [e]
 have e2 : (#[Value.iface t (.pointer (some ⟨b, 0, none⟩))] ++ vs.toArray : Array Value).extract 1 (#[Value.iface t (.pointer (some ⟨b, 0, none⟩))] ++ vs.toArray : Array Value).size = vs.toArray := by
  apply Array.ext'; simp
 simp only [e2, callMethod, program]
 show Sem.run P (method _ t (.pointer (some ⟨b, 0, none⟩)) name >>= _) w = _
 rw [ok_of hmw]
 simp only []
 rw [hf.cal]; simp
theorem XL.ep {x : Operand} {l : List Operand} {tys : Array TypeId} {t : TypeId} {name : String} {b : Nat} {u r : Value} {cs : List Value} {KK : List Value → List Asn} {vs : List Value} {g : FuncId} (hr : ev L x = some (.iface t (.pointer (some ⟨b, 0, none⟩)))) (hx : evs L l = some vs) [hc : PtC Γ b (u :: cs) KK] [hm : MthE P t name g] [hf : Fun P g] (hp : Pur P g (u :: vs) r) (hd : Nat.blt d n = true)
  (k : XL P w0 h0 q ops K Q rest n ((d, r) :: L) Γ) : XL P w0 h0 q ops K Q (⟨some d, .call ⟨.invoke x name, l.toArray, tys⟩, ty, pos, af, none⟩ :: rest) n L Γ :=
 XL.callP (runC_invE hr hx) hp hd k
theorem XL.er {x : Operand} {l : List Operand} {tys : Array TypeId} {t : TypeId} {name : String} {b : Nat} {u r : Value} {cs : List Value} {KK : List Value → List Asn} {vs : List Value} {g : FuncId} {Γ1 Γ2 : List Asn} (hr : ev L x = some (.iface t (.pointer (some ⟨b, 0, none⟩)))) (hx : evs L l = some vs) [hc : PtC Γ b (u :: cs) KK] [hm : MthE P t name g] [hf : Fun P g] (hp : Tri P g (u :: vs) Γ1 fun v' Γ' => v' = r ∧ Γ' = Γ1) (hs : Pk Γ1 Γ Γ2) (hd : Nat.blt d n = true)
  (k : XL P w0 h0 q ops K Q rest n ((d, r) :: L) Γ) : XL P w0 h0 q ops K Q (⟨some d, .call ⟨.invoke x name, l.toArray, tys⟩, ty, pos, af, none⟩ :: rest) n L Γ :=
 XL.callR (runC_invE hr hx) hp hs.to hs.from hd k
theorem XL.ers {x : Operand} {l : List Operand} {tys : Array TypeId} {t : TypeId} {name : String} {b : Nat} {u : Value} {cs : List Value} {KK : List Value → List Asn} {vs : List Value} {g : FuncId} {p : Prop} [Decidable p] {Γ1 Γ2 : List Asn} (hr : ev L x = some (.iface t (.pointer (some ⟨b, 0, none⟩)))) (hx : evs L l = some vs) [hc : PtC Γ b (u :: cs) KK] [hm : MthE P t name g] [hf : Fun P g] (hp : Tri P g (u :: vs) Γ1 fun v' Γ' => v' = .bool (decide p) ∧ Γ' = Γ1) (hs : Pk Γ1 Γ Γ2) (hd : Nat.blt d n = true)
  (kt : p → XL P w0 h0 q ops K Q rest n ((d, .bool true) :: L) Γ) (kf : ¬ p → XL P w0 h0 q ops K Q rest n ((d, .bool false) :: L) Γ) : XL P w0 h0 q ops K Q (⟨some d, .call ⟨.invoke x name, l.toArray, tys⟩, ty, pos, af, none⟩ :: rest) n L Γ := by
 by_cases h : p
 ·exact XL.er hr hx (by rwa [decide_eq_true h] at hp) hs hd (kt h)
 ·exact XL.er hr hx (by rwa [decide_eq_false h] at hp) hs hd (kf h)
end
instance : MthE Go.Proofs.Tryz.prog 197 "Len" 132 := MthE.ofB (by kernel_rfl)
instance : MthE Go.Proofs.Tryz.prog 197 "Less" 223 := MthE.ofB (by kernel_rfl)
end Go.Bk

namespace Go.Bk
section
variable {P : Program} {w0 : World} {h0 : Hp} {Q : Exit → Act → World → Prop} {n : Nat} {L : Sl} {Γ : List Asn}
theorem SP.scope {c : Code} (k : SP P w0 h0 c (Exit.noGoto Q) n L Γ) : SP P w0 h0 (.scope c) Q n L Γ := fun a w f s => wp_scope_straight (k a w f s)
theorem SP.label {l : Nat} (k : Jp w0 h0 .normal Q n L Γ) : SP P w0 h0 (.label l) Q n L Γ := fun a w f s => wp_label (k a w f s)
instance NPT.scope [h : NPT Q] : NPT (Exit.noGoto Q) := ⟨fun c a w d v hh => h.npt c a w d v hh⟩
theorem Jp.scope_normal (k : Jp w0 h0 .normal Q n L Γ) : Jp w0 h0 .normal (Exit.noGoto Q) n L Γ := k
theorem Jp.scope_ret (k : Jp w0 h0 .ret Q n L Γ) : Jp w0 h0 .ret (Exit.noGoto Q) n L Γ := k
end
section
variable {P : Program} {w0 : World} {h0 : Hp} {q : Bool} {ops : Array Oper} {K : Act → World → Prop} {Q : Exit → Act → World → Prop} {rest : List Oper} {n : Nat} {L : Sl} {Γ Γ' : List Asn}
variable {d : Tmp} {ty : TypeId} {pos : String} {af : Array Edge}
theorem XL.indexS {x y : Operand} {T N E : Nat} {k : IntKind} {i : Int} {j : Nat} {cs : List Value} {v : Value} (hx : ev L x = some (.agg cs.toArray)) (hy : ev L y = some (.int k i)) [hT : Arr P T N E 1] [hE : Sc P E] (hj : i = (j : Int)) (h2 : j < N) (hs : GtL cs j v) (hd : Nat.blt d n = true)
  (kk : XL P w0 h0 q ops K Q rest n ((d, v) :: L) Γ) : XL P w0 h0 q ops K Q (⟨some d, .index T x y, ty, pos, af, none⟩ :: rest) n L Γ :=
 XL.value (fun a w f s => by
  subst hj
  simp only [execOp, f.ev hx, f.ev hy, Instr.index, asIntOf, pure_bind]
  rw [bind_assoc, ok_of (run_underlying' hT.arr w)]
  simp only []
  rw [if_pos (show 0 ≤ (j : Int) ∧ (j : Int) < (N : Int) by omega)]
  simp only [Int.toNat_natCast, bind_assoc]
  rw [ok_of (hT.size w)]
  have : (part E cs.toArray (j * 1)).run P w = .ok v w := part_sc (by rw [Nat.mul_one]; simpa using hs.gt)
  rw [ok_of this]; rfl) hd kk
end
theorem EqT.arr3 {P : Program} {T E : Nat} [hs : Sc P E] [hi : Ity P E .i64] (hu : P.underlying T = some (.array 3 E)) (hsz : (P.info? E).map (·.size) = some 1) (hg : P.eqGuardType P.depth T = false) : EqT P T Pl Pl.cs where
 eq a b w := by
  obtain ⟨i, hi', hk⟩ := Option.map_eq_some_iff.1 hsz
  show (Op.equalIn (9999 + 1) T _ _).run P w = _
  rw [run_equalIn_array w 9999 _ _ hu hi']
  have hc : P.cellsOf E = 1 := by unfold Program.cellsOf; rw [hsz]; rfl
  rw [hc, show List.range 3 = [0, 1, 2] from rfl]
  obtain ⟨a0, a1, a2⟩ := a
  obtain ⟨b0, b1, b2⟩ := b
  have e : ∀ x y : Int, (Op.equalIn 9999 E (.int .i64 x) (.int .i64 y)).run P w = .ok (x == y) w := fun x y => run_equalIn_int w 9998 E .i64 .i64 x y hi.int
  have p : ∀ (cs : Array Value) off v, cs[off]? = some v → (part E cs off).run P w = .ok v w := fun cs off v hv => part_sc hv
  simp only [Op.eqItems]
  rw [ok_of (p _ (0 * 1) (.int .i64 a0) rfl), ok_of (p _ (0 * 1) (.int .i64 b0) rfl), ok_of (e _ _)]
  by_cases g0 : a0 = b0
  ·simp only [g0, beq_self_eq_true, Bool.not_true, Bool.false_eq_true, if_false]
   rw [ok_of (p _ (1 * 1) (.int .i64 a1) rfl), ok_of (p _ (1 * 1) (.int .i64 b1) rfl), ok_of (e _ _)]
   by_cases g1 : a1 = b1
   ·simp only [g1, beq_self_eq_true, Bool.not_true, Bool.false_eq_true, if_false]
    rw [ok_of (p _ (2 * 1) (.int .i64 a2) rfl), ok_of (p _ (2 * 1) (.int .i64 b2) rfl), ok_of (e _ _)]
    by_cases g2 : a2 = b2
    ·simp [g2]
    ·simp [g2]
   ·simp [g1]
  ·simp [g0]
 guard := hg
end Go.Bk

namespace Go.Bk
theorem Wd.glue {w0 : World} {h0 : Hp} {Γ Δ : List Asn} {w : World} (s : Wd w0 h0 (Γ ++ Δ) w) : ∃ h1, star Γ h1 ∧ Agr w h1 ∧ ∀ Γ' w', Wd w h1 Γ' w' → Wd w0 h0 (Γ' ++ Δ) w' := by
 obtain ⟨h, st, ag, fr⟩ := s
 obtain ⟨h1, h2, e, d, s1, s2⟩ := (star_app Γ Δ).1 st
 subst e
 have ag1 : Agr w h1 := fun b o hb => ag b o (un_left hb)
 have ag2 : Agr w h2 := fun b o hb => ag b o (by
  rcases d b with e | e
  ·rw [un_right e]; exact hb
  ·rw [e] at hb; cases hb)
 refine ⟨h1, s1, ag1, fun Γ' w' ⟨h1', st', ag', fr'⟩ => ?_⟩
 have d' : dj h1' h2 := fun b => by
  by_cases g : h2 b = none
  ·exact .inr g
  ·left
   by_cases g1 : h1' b = none
   ·exact g1
   ·exfalso
    rcases fr'.own b g1 with g2 | g2
    ·rcases d b with e | e
     ·exact g2 e
     ·exact g e
    ·have := ag2.lt g; omega
 refine ⟨un h1' h2, (star_app _ _).2 ⟨h1', h2, rfl, d', st', s2⟩, ?_, ?_⟩
 ·intro b o hb
  rcases un_some hb with e | ⟨e1, e2⟩
  ·exact ag' b o e
  ·have hlt : b < w.heap.size := ag2.lt (by rw [e2]; simp)
   have h1n : h1 b = none := by
    rcases d b with e | e
    ·exact e
    ·rw [e2] at e; cases e
   rw [fr'.old b hlt h1n]; exact ag2 b o e2
 ·refine ⟨fr'.os.trans fr.os, fr'.tape.trans fr.tape, fr'.output.trans fr.output, Nat.le_trans fr.drawn fr'.drawn, Nat.le_trans fr.size fr'.size, fun b hb h0b => ?_, fun b hb => ?_⟩
  ·have hn : un h1 h2 b = none := by
    by_cases g : un h1 h2 b = none
    ·exact g
    ·rcases fr.own b g with g | g
     ·exact absurd h0b g
     ·omega
   rw [fr'.old b (Nat.lt_of_lt_of_le hb fr.size) (un_none.1 hn).1, fr.old b hb h0b]
  ·by_cases g : h1' b = none
   ·have g2 : h2 b ≠ none := fun e => hb (un_none.2 ⟨g, e⟩)
    exact fr.own b fun e => g2 (un_none.1 e).2
   ·rcases fr'.own b g with g | g
    ·exact fr.own b fun e => g (un_none.1 e).1
    ·right; exact Nat.le_trans fr.size g
def TriY (P : Program) (m l : Nat) (vs : List Value) (Γ : List Asn) (post : Value → List Asn → Prop) : Prop :=
 ∀ w h, star Γ h → Agr w h → YieldAt Fence.wide m P l vs.toArray w fun e w' => ∃ v Γ', e = .returned v ∧ post v Γ' ∧ Wd w h Γ' w'
structure FWide (F : Fence) (n : Nat) (P : Program) : Prop where
 fn : ∀ f, F.fn f
 depth : F.depth.isSome = true → 1 ≤ n
 calls : ∀ f args w R, Calls P f args w R → CallsIn F (n - 1) P f args w R
 rows : ∀ r args w R, Rows P r args w R → RowsIn F (n - 1) P r args w R
theorem FWide.wide (n : Nat) (P : Program) : FWide Fence.wide n P := ⟨fun _ => trivial, fun h => by simp [Fence.wide] at h, fun _ _ _ _ h => callsIn_wide.2 h, fun _ _ _ _ h c cs _ => let ⟨v, w', r, s⟩ := h c cs; ⟨v, w', r, stepsIn_wide.2 s⟩⟩
theorem FWide.round (n : Nat) (P : Program) (l : Nat) : FWide (Fence.wide.inRound l) n P := ⟨fun _ => trivial, fun h => by simp [Fence.wide, Fence.inRound] at h, fun _ _ _ _ h => (callsIn_wide.2 h : CallsIn Fence.wide (n - 1) P _ _ _ _), fun _ _ _ _ h c cs _ => let ⟨v, w', r, s⟩ := h c cs; ⟨v, w', r, stepsIn_wide.2 s⟩⟩
class NLO (Q : Exit → Act → World → Prop) : Prop where
 no : ¬ LetsOut Q
section
variable {Q : Exit → Act → World → Prop}
instance NLO.thn (N : Act → World → Prop) [h : NLO Q] : NLO (Exit.then N Q) := ⟨fun ⟨a, w, q⟩ => h.no ⟨a, w, q⟩⟩
instance NLO.blk (i : Nat) [h : NLO Q] : NLO (Exit.inBlock i Q) := ⟨fun ⟨a, w, q⟩ => h.no ⟨a, w, q⟩⟩
instance NLO.scp [h : NLO Q] : NLO (Exit.noGoto Q) := ⟨fun ⟨a, w, q⟩ => h.no ⟨a, w, q⟩⟩
instance NLO.body (P : Program) (fn : Func) (w0 : World) (h0 : Hp) (post : Value → List Asn → Prop) : NLO (bodyPost P fn (Post w0 h0 post)) := ⟨fun ⟨_, _, _, _, e, _⟩ => by cases e⟩
instance NLO.fls (N : Act → World → Prop) : NLO (Exit.then N (fun _ _ _ => False)) := ⟨fun ⟨_, _, q⟩ => q⟩
end
def noDef : List Oper → Bool := fun l => l.all fun o => match o.op with
 | .defer _ => false
 | _ => true
theorem noDef_spec {l : List Oper} (h : noDef l = true) : ∀ o ∈ l, ∀ c, o.op ≠ .defer c := fun o ho c e => by
 have := List.all_eq_true.1 h o ho
 simp [e] at this
theorem toIn {F : Fence} {n : Nat} {P : Program} {ops : Array Oper} {Q : Exit → Act → World → Prop} (hF : FWide F n P) (hQ : ¬ LetsOut Q) (l2 : List Oper) :
  ∀ (l1 : List Oper) (a : Act) (w : World), (∀ o ∈ l1, ∀ c, o.op ≠ .defer c) → wpList P ops (Exit.then (wpListIn F n P ops Q l2) Q) l1 a w → wpListIn F n P ops Q (l1 ++ l2) a w
 | [], _, _, _, h => h
 | o :: l1, a, w, hd, h => by
  have hd' : ∀ o ∈ l1, ∀ c, o.op ≠ .defer c := fun o ho => hd o (List.mem_cons_of_mem _ ho)
  show wpListIn F n P ops Q (o :: (l1 ++ l2)) a w
  unfold wpList at h
  unfold wpListIn
  by_cases hw : Region.wanted o (yielded ops a.tmps) = true
  ·rw [if_pos hw] at h
   rw [if_pos hw]
   rcases h with h | ⟨_, a', w', h⟩
   ·refine ⟨fun f _ => hF.fn f, ?_⟩
    rw [Oper.semAt_eq _ _ _ (hd o (List.mem_cons_self ..))]
    unfold Oper.wp at h
    generalize (execOp a.eval o).run P w = r at h ⊢
    cases r with
    | ok nx w' =>
     cases nx with
     | value v => exact toIn hF hQ l2 l1 _ _ hd' h
     | skip => exact toIn hF hQ l2 l1 _ _ hd' h
     | defer d => exact toIn hF hQ l2 l1 _ _ hd' h
     | enter f args =>
      refine ⟨hF.depth, (hF.calls _ _ _ _ h).mono fun e w'' hr => ?_⟩
      cases e with
      | returned v => exact toIn hF hQ l2 l1 _ _ hd' hr
      | panicked c => exact hr
      | outgrown => exact hr
     | row r args => exact ⟨hF.depth, (hF.rows _ _ _ _ h).mono fun v w'' hr => toIn hF hQ l2 l1 _ _ hd' hr⟩
     | _ => exact h.elim
    | halt hh w' =>
     cases hh with
     | panic v => exact h
     | _ => exact h.elim
   ·exact absurd ⟨a', w', h⟩ hQ
  ·rw [if_neg hw] at h
   rw [if_neg hw]
   exact ⟨fun f _ => hF.fn f, toIn hF hQ l2 l1 _ _ hd' h⟩
section
variable {P : Program} {w0 : World} {h0 : Hp} {Q : Exit → Act → World → Prop} {n m r : Nat} {L : Sl} {Γ Γ1 Γ2 : List Asn} {c c1 c2 : Code} {K : Act → World → Prop}
def SPr (P : Program) (m r : Nat) (w0 : World) (h0 : Hp) (c : Code) (Q : Exit → Act → World → Prop) (n : Nat) (L : Sl) (Γ : List Asn) : Prop :=
 ∀ a w, Fit n L a → Wd w0 h0 Γ w → c.wpIn (Fence.wide.inRound r) m P Q a w
theorem SPr.seq (k : SPr P m r w0 h0 c1 (Exit.then (c2.wpIn (Fence.wide.inRound r) m P Q) Q) n L Γ) : SPr P m r w0 h0 (.seq c1 c2) Q n L Γ := fun a w f s => wpIn_seq (k a w f s)
theorem SPr.skip (k : Jp w0 h0 .normal Q n L Γ) : SPr P m r w0 h0 .skip Q n L Γ := fun a w f s => wpIn_skip (k a w f s)
theorem SPr.block {i : Nat} (k : SPr P m r w0 h0 c (Exit.inBlock i Q) n L Γ) : SPr P m r w0 h0 (.block i c) Q n L Γ := fun a w f s => wpIn_block (k a w f s)
theorem SPr.cond_t {x : Operand} (hx : ev L x = some (.bool true)) (k : SPr P m r w0 h0 c1 Q n L Γ) : SPr P m r w0 h0 (.cond x c1 c2) Q n L Γ := fun a w f s => wpIn_cond_true (f.ev hx) (k a w f s)
theorem SPr.cond_f {x : Operand} (hx : ev L x = some (.bool false)) (k : SPr P m r w0 h0 c2 Q n L Γ) : SPr P m r w0 h0 (.cond x c1 c2) Q n L Γ := fun a w f s => wpIn_cond_false (f.ev hx) (k a w f s)
theorem Jp.then_r (k : SPr P m r w0 h0 c Q n L Γ) : Jp w0 h0 .normal (Exit.then (c.wpIn (Fence.wide.inRound r) m P Q) Q) n L Γ := k
theorem Jp.then_k (k : ∀ a w, Fit n L a → Wd w0 h0 Γ w → K a w) : Jp w0 h0 .normal (Exit.then K Q) n L Γ := k
theorem Jp.inNil {F : Fence} {ops : Array Oper} (k : Jp w0 h0 .normal Q n L Γ) : Jp w0 h0 .normal (Exit.then (wpListIn F m P ops Q []) Q) n L Γ := k
theorem SPr.region {id : Nat} {l : List Oper} [hQ : NLO Q] (hd : noDef l = true) (k : XL P w0 h0 false l.toArray (fun _ _ => True) (Exit.then (wpListIn (Fence.wide.inRound r) m P l.toArray Q []) Q) l n L Γ) : SPr P m r w0 h0 (.region id l.toArray false) Q n L Γ := fun a w f s => by
 refine wpIn_region_lit ?_
 have := toIn (FWide.round m P r) hQ.no [] l a w (noDef_spec hd) (k a w f s)
 rwa [List.append_nil] at this
theorem SP.regionY {id : Nat} {l : List Oper} (m i : Nat) [hQ : NLO Q] (hi : l = l.take i ++ l.drop i) (hd : noDef (l.take i) = true) (k : XL P w0 h0 false l.toArray (fun _ _ => True) (Exit.then (wpListIn Fence.wide m P l.toArray Q (l.drop i)) Q) (l.take i) n L Γ) : SP P w0 h0 (.region id l.toArray false) Q n L Γ := fun a w f s => by
 refine (wpIn_wide (n := m)).1 (wpIn_region_lit ?_)
 have := toIn (FWide.wide m P) hQ.no (l.drop i) (l.take i) a w (noDef_spec hd) (k a w f s)
 rwa [← hi] at this
theorem Jp.yield {ops : Array Oper} {x : Operand} {l3 : List Oper} {xs : List Operand} {tys : Array TypeId} {vs : List Value} {d : Tmp} {ty : TypeId} {pos : String} {af : Array Edge} {post : Value → List Asn → Prop} [hQ : NLO Q] (hx : ev L x = some (.func (.yield r) #[] #[])) (hxs : evs L xs = some vs) (hY : TriY P m r vs Γ1 post) (hs : Pk Γ1 Γ Γ2) (hd : Nat.blt d n = true) (hn : noDef l3 = true)
  (k : ∀ v Γ', post v Γ' → XL P w0 h0 false ops (fun _ _ => True) (Exit.then (wpListIn Fence.wide (m + 1) P ops Q []) Q) l3 n ((d, v) :: L) (Γ' ++ Γ2)) :
  Jp w0 h0 .normal (Exit.then (wpListIn Fence.wide (m + 1) P ops Q (⟨some d, .call ⟨.value x, xs.toArray, tys⟩, ty, pos, af, none⟩ :: l3)) Q) n L Γ := fun a w f s => by
 show wpListIn Fence.wide (m + 1) P ops Q (_ :: l3) a w
 unfold wpListIn
 rw [if_pos (wanted_none rfl _)]
 refine ⟨fun f _ => trivial, ?_⟩
 obtain ⟨h1, st1, ag1, back⟩ := Wd.glue (s.mono hs.to)
 obtain ⟨fn, tmps, asg, body, hy, hR⟩ := hY w h1 st1 ag1
 have e : (execOp a.eval ⟨some d, .call ⟨.value x, xs.toArray, tys⟩, ty, pos, af, none⟩).run P w = .ok (.round r fn tmps asg body) w := by
  simp only [execOp, resolve, f.ev hx, Deferred.ofValue]
  rw [pure_bind]
  simp only [invoke, List.map_toArray, f.evs hxs]
  simpa using hy
 show Oper.uponIn Fence.wide (m + 1) P _ a _ Q ((Oper.semAt none a.eval _).run P w)
 rw [Oper.semAt_none, e]
 refine ⟨fun h => by simp [Fence.wide] at h, hR.mono fun e' w' ⟨v, Γ', he, hp, hW⟩ => ?_⟩
 subst he
 have := toIn (FWide.wide (m + 1) P) hQ.no [] l3 _ w' (noDef_spec hn) (k v Γ' hp _ w' (f.put d v hd) (back Γ' w' hW))
 rwa [List.append_nil] at this
end
end Go.Bk

namespace Go.Bk
def lrec (fn : FuncId) (tmps : Array Value) (t : Tmp) (asg body : Code) (D : Nat) (st : LoopState) (pe : Option Code) : Loop := { state := st, pending := pe, fn := fn, tmps := tmps, params := #[t], assign := asg, body := body, defers := D }
def NrmQ (R : World → Prop) : Exit → Act → World → Prop := fun e _ w => e = .normal ∧ R w
instance NLO.nrm (R : World → Prop) : NLO (NrmQ R) := ⟨fun ⟨_, _, h, _⟩ => by cases h⟩
section
variable {P : Program} {w0 : World} {h0 : Hp} {Q : Exit → Act → World → Prop} {n m : Nat} {L : Sl} {Γ Γ' Γ1 Γ2 Δ : List Asn}
theorem Jp.nrm (hΓ : ∀ h, star Γ h → star Γ' h) : Jp w0 h0 .normal (NrmQ (Wd w0 h0 Γ')) n L Γ := fun a w f s => ⟨rfl, s.mono hΓ⟩
theorem TriY.round {l t D : Nat} {fn : FuncId} {tmps : Array Value} {asg body : Code} {x : Value} (L1 : Nat → Sl) (G1 : Nat → List Asn) (hfit : Fit n L { tmps := tmps, defers := [] }) (ht : Nat.blt t n = true)
  (h1 : ∀ w0 h0, SPr P m l w0 h0 asg (Exit.then (fun a' w' => ∃ b, Fit n (L1 b) a' ∧ Wd w0 h0 (pt l (.loop (lrec fn tmps t asg body D .ready none)) :: G1 b) w') (fun _ _ _ => False)) n ((t, x) :: L) (pt l (.loop (lrec fn tmps t asg body D .ready none)) :: Δ))
  (h2 : ∀ w0 h0 b, SPr P m l w0 h0 body (NrmQ (Wd w0 h0 (pt l (.loop (lrec fn tmps t asg body D .busy none)) :: Δ))) n (L1 b) (pt l (.loop (lrec fn tmps t asg body D .busy none)) :: G1 b)) :
  TriY P m l [x] [star (pt l (.loop (lrec fn tmps t asg body D .ready none)) :: Δ)] (fun v Γ' => v = .bool true ∧ Γ' = [star (pt l (.loop (lrec fn tmps t asg body D .ready none)) :: Δ)]) := fun w h st ag => by
 have st' := (star_flat h).1 st
 rw [List.append_nil] at st'
 have s : Wd w h (pt l (.loop (lrec fn tmps t asg body D .ready none)) :: Δ) w := Wd.start st' ag
 have hl := (PtAt.here l _ Δ).get s
 refine ⟨fn, tmps.setIfInBounds t x, asg, body, ?_, roundIn_of_wpIn trivial ?_⟩
 ·have := run_yield (P := P) (args := #[x]) hl (by rfl)
  rw [show [x].toArray = #[x] from rfl, this]; simp [lrec]
 ·refine wpIn_mono (h1 w h (Act.put { tmps := tmps, defers := [] } (some t) x) w (hfit.put t x ht) s) ?_
  intro e a1 w1 hq
  cases e with
  | normal =>
   obtain ⟨b, f1, s1⟩ := hq
   refine ⟨_, run_beginRound ((PtAt.here l _ _).get s1) rfl, ?_⟩
   have s2 := (PtAt.here l _ _).set s1 (.loop (lrec fn tmps t asg body D .busy none))
   refine wpIn_mono (h2 w h b a1 _ f1 s2) ?_
   rintro e a2 w3 ⟨rfl, s3⟩
   refine ⟨_, _, run_endRound none ((PtAt.here l _ _).get s3), .bool true, _, rfl, ⟨rfl, rfl⟩, ?_⟩
   have s4 := (PtAt.here l _ _).set s3 (.loop (lrec fn tmps t asg body D .ready none))
   exact s4.mono fun k hk => (star_flat k).2 (by rw [List.append_nil]; exact hk)
  | _ => exact hq.elim
theorem star_drop : ∀ (Γ1 : List Asn) {Δ : List Asn} {h : Hp}, star (Γ1 ++ Δ) h → star Δ h
 | [], _, _, s => s
 | A :: Γ1, _, _, s => star_drop Γ1 (star_weaken s)
theorem star_amap {Γ A B : List Asn} {h : Hp} (f : ∀ k, star A k → star B k) (s : star (Γ ++ A) h) : star (Γ ++ B) h := by
 obtain ⟨h1, h2, e, d, s1, s2⟩ := (star_app _ _).1 s
 exact (star_app _ _).2 ⟨h1, h2, e, d, s1, f _ s2⟩
theorem SP.ranged {α : Type} {enc : α → Value} {c : α → Prop} {g : Operand} {t gf : Nat} {lb : List Value} {asg body : Code} (hg : ev L g = some (.func (.func gf) #[] lb.toArray)) [hf : Fun P gf] (hs : Pk (Γ1 ++ Δ) Γ Γ2)
  (hround : ∀ fn tmps D l, Fit n L { tmps := tmps, defers := [] } → ∀ x, c x → TriY P m l [enc x] [star (pt l (.loop (lrec fn tmps t asg body D .ready none)) :: Δ)] (fun v Γ' => v = .bool true ∧ Γ' = [star (pt l (.loop (lrec fn tmps t asg body D .ready none)) :: Δ)]))
  (hcall : ∀ l J, (∀ x, c x → TriY P m l [enc x] [J] fun v Γ' => v = .bool true ∧ Γ' = [J]) → Tri P gf (.func (.yield l) #[] #[] :: lb) (Γ1 ++ [J]) fun v Γ' => v = .tuple #[] ∧ Γ' = Γ1 ++ [J])
  (k : ∀ a w D, Fit n L a → Wd w0 h0 (pt D (.deferred (some [])) :: (Δ ++ Γ2)) w → Q .normal { a with defers := [{ target := .collected D, args := #[] }] } w) :
  SP P w0 h0 (.rangeFunc g #[t] asg body) Q n L Γ := fun a w f s => by
 refine (wpIn_wide (n := m + 1)).1 (wpIn_rangeFunc ?_)
 intro fn _
 have s1 : Wd w0 h0 ((Γ1 ++ Δ) ++ Γ2) w := s.mono hs.to
 have s2 := s1.new (.deferred (some []))
 have s3 := s2.new (.loop (lrec fn a.tmps t asg body w.heap.size .ready none))
 have hsz : (World.heap { w with heap := w.heap.push (Obj.deferred (some [])) }).size = w.heap.size + 1 := by simp
 rw [hsz] at s3
 have fa : Fit n L { tmps := a.tmps, defers := [] } := ⟨f.size, rfl, f.get⟩
 have hY := hround fn a.tmps w.heap.size (w.heap.size + 1) fa
 have hC := hcall (w.heap.size + 1) _ hY
 have s4 : Wd w0 h0 ((Γ1 ++ [star (pt (w.heap.size + 1) (.loop (lrec fn a.tmps t asg body w.heap.size .ready none)) :: Δ)]) ++ (pt w.heap.size (.deferred (some [])) :: Γ2)) _ := s3.mono fun h st => by
  have p : (pt (w.heap.size + 1) (.loop (lrec fn a.tmps t asg body w.heap.size .ready none)) :: pt w.heap.size (.deferred (some [])) :: ((Γ1 ++ Δ) ++ Γ2)).Perm (Γ1 ++ ((pt (w.heap.size + 1) (.loop (lrec fn a.tmps t asg body w.heap.size .ready none)) :: Δ) ++ (pt w.heap.size (.deferred (some [])) :: Γ2))) := by
   refine List.Perm.symm ?_
   rw [List.cons_append]
   refine List.perm_middle.trans (List.Perm.cons _ ?_)
   rw [← List.append_assoc]
   exact List.perm_middle
  have st2 := star_perm p h st
  rw [List.append_assoc]
  exact star_amap (fun k hk => (star_flat k).2 hk) st2
 have hcl := Tri.frame hC s4
 have ea : (Value.func (.yield (w.heap.size + 1)) #[] #[] :: lb).toArray = #[.func (.yield (w.heap.size + 1)) #[] #[]] ++ lb.toArray := by simp
 rw [ea] at hcl
 refine ⟨w.heap.size + 1, [{ target := .collected w.heap.size, args := #[] }], ((w.alloc (.deferred (some []))).alloc (.loop (lrec fn a.tmps t asg body w.heap.size .ready none))), { target := .fn (.func gf) lb.toArray, args := #[.func (.yield (w.heap.size + 1)) #[] #[]] }, ((w.alloc (.deferred (some []))).alloc (.loop (lrec fn a.tmps t asg body w.heap.size .ready none))), gf,
  #[.func (.yield (w.heap.size + 1)) #[] #[]] ++ lb.toArray, ((w.alloc (.deferred (some []))).alloc (.loop (lrec fn a.tmps t asg body w.heap.size .ready none))), run_enterLoop_outer fn a.tmps #[t] asg body, ?_, fun _ _ => trivial, ?_, fun h => by simp [Fence.wide] at h, ?_⟩
 ·simp only [resolve, f.ev hg]
  simp [go_sem]
 ·simp [invoke, go_sem, hf.cal]
 ·refine ((callsIn_wide (n := m)).2 hcl).mono ?_
  rintro e w3 ⟨v, Γ', rfl, ⟨_, rfl⟩, s5⟩
  have s6 : Wd w0 h0 (pt (w.heap.size + 1) (.loop (lrec fn a.tmps t asg body w.heap.size .ready none)) :: pt w.heap.size (.deferred (some [])) :: (Δ ++ Γ2)) w3 := s5.mono fun h st => by
   rw [List.append_assoc] at st
   have st2 := (star_flat h).1 (star_drop Γ1 st)
   refine star_perm ?_ h st2
   rw [List.cons_append]
   exact List.Perm.cons _ List.perm_middle
  have hl := (PtAt.here _ _ _).get s6
  have s7 := (PtAt.here _ _ _).set s6 (.loop { lrec fn a.tmps t asg body w.heap.size .ready none with state := .exhausted })
  refine ⟨none, _, run_endLoop hl (by simp [lrec]), ?_⟩
  have := k a _ w.heap.size f (s7.mono fun h st => star_weaken st)
  rw [f.defers]
  exact this
theorem PcallsM {f : FuncId} {fn : Func} {c : Code} {vs : List Value} {post : Value → List Asn → Prop} (m : Nat) (hf : P.funcs[f]? = some fn) (hb : fn.body = some c) (hn : fn.ntmps = n) (hl : Nat.ble vs.length n = true)
  (h : ∀ w0 h0, SP P w0 h0 c (bodyPostM Fence.wide m P fn (Post w0 h0 post)) n (ini vs) Γ) : Tri P f vs Γ post := by
 intro w hp s a
 refine (callsIn_wide (n := m)).1 (callsIn_of_wp_marks hf hb trivial (wpIn_wide.2 ?_))
 refine h w hp _ w ⟨?_, rfl, fun i v hv => ?_⟩ (Wd.start s a)
 ·have := Nat.le_of_ble_eq_true hl
  simp [hn]; omega
 ·have := (lk_ini vs 0 i v hv).2
  simp only [Nat.sub_zero] at this
  have hlt : i < vs.length := (List.getElem?_eq_some_iff.1 this).1
  simp [Array.getElem?_append, hlt]; simpa [hlt] using this
theorem Jp.marks {fn : Func} {e : Exit} {R : Ending → World → Prop} (m : Nat) (he : e = .normal ∨ e = .ret) (k : Jp w0 h0 e (bodyPost P fn R) n L Γ) : Jp w0 h0 e (bodyPostM Fence.wide m P fn R) n L Γ := fun a w f s => by
 have := k a w f s
 rcases he with rfl | rfl <;> (obtain ⟨hd, v, hv, hR⟩ := this; show LeavesInM _ _ _ _ _ _ a.defers .returning w; rw [hd]; exact ⟨v, hv, hR⟩)
theorem leaves_mark {fn : Func} {post : Value → List Asn → Prop} {m D t : Nat} {v : Value} {a : Act} {w : World} (hr : fn.results = #[.tmp t]) (f : Fit n ((t, v) :: L) { a with defers := [] }) (hd : a.defers = [{ target := .collected D, args := #[] }])
  (s : Wd w0 h0 (pt D (.deferred (some [])) :: Γ) w) (hp : post v Γ) : bodyPostM Fence.wide m P fn (Post w0 h0 post) .ret a w := by
 show LeavesInM _ _ _ _ _ _ a.defers .returning w
 rw [hd]
 have hK := (PtAt.here _ _ _).get s
 have s2 := (PtAt.here _ _ _).set s (.deferred none)
 refine ⟨by simp, .inl ⟨D, _, rfl, run_takeDeferred hK, ?_⟩⟩
 have := Jp.end1 (P := P) (fn := fn) (e := .ret) (post := post) (.inr rfl) hr (lk_cons_self ..) hp _ _ f (s2.mono fun h st => star_weaken st)
 obtain ⟨_, u, hu, hR⟩ := this
 exact ⟨u, hu, hR⟩
end
end Go.Bk

namespace Go.Bk
def ptI (b : Nat) (cs : List Value) (T : TypeId) (fr : Nat × Nat) : Asn := pt b (.cells cs.toArray T fr)
theorem cell_ofI {w : World} {b : Nat} {cs : List Value} {T : TypeId} {fr : Nat × Nat} (h : w.heap[b]? = some (.cells cs.toArray T fr)) (off : Nat) : w.cell? ⟨b, off, none⟩ = cs[off]? := by
 unfold World.cell?; simp only [h]; simp
theorem loadCellsFrom_runI {P : Program} {w : World} {b : Nat} {cs : List Value} {T : TypeId} {fr : Nat × Nat} (h : w.heap[b]? = some (.cells cs.toArray T fr)) (off : Nat) :
  ∀ (k i : Nat) (acc : Array Value), off + i + k ≤ cs.length → (loadCellsFrom ⟨b, off, none⟩ i k acc).run P w = .ok (acc ++ ((cs.drop (off + i)).take k).toArray) w
 | 0, i, acc, _ => by simp [loadCellsFrom]
 | k + 1, i, acc, hl => by
  have hlt : off + i < cs.length := by omega
  have hc : w.cell? (Addr.add ⟨b, off, none⟩ i) = some cs[off + i] := by rw [add_none, cell_ofI h]; simp [hlt]
  have hL : (load (Addr.add ⟨b, off, none⟩ i)).run P w = .ok cs[off + i] w := by rw [run_load, hc]
  unfold loadCellsFrom
  rw [ok_of hL, loadCellsFrom_runI h off k (i + 1) _ (by omega)]
  congr 1
  rw [List.drop_eq_getElem_cons hlt]
  simp [Nat.add_assoc]
theorem loadVar_aggI {P : Program} {T T' k : Nat} {fr : Nat × Nat} [a : Ag P T k] {w : World} {b off : Nat} {cs vs : List Value} (h : w.heap[b]? = some (.cells cs.toArray T' fr)) (s : SbL cs off k vs) :
  (loadVar T ⟨b, off, none⟩).run P w = .ok (.agg vs.toArray) w := by
 unfold loadVar
 rw [ok_of (a.agg w)]
 simp only [if_true]
 rw [ok_of (a.size w)]
 have := loadCellsFrom_runI (P := P) h off k 0 #[] (by have := s.sub.1; omega)
 unfold loadCells
 rw [ok_of this]
 simp [s.sub.2]
section
variable {P : Program} {w0 : World} {h0 : Hp} {q : Bool} {ops : Array Oper} {K : Act → World → Prop} {Q : Exit → Act → World → Prop} {rest : List Oper} {n : Nat} {L : Sl} {Γ Γ2 : List Asn}
variable {d : Tmp} {ty : TypeId} {pos : String} {af : Array Edge}
theorem XL.loadI {x : Operand} {T b o k TI : Nat} {fr : Nat × Nat} {cs vs : List Value} (hx : ev L x = some (.pointer (some ⟨b, o, none⟩))) (hr : Rm (ptI b cs TI fr) Γ Γ2) [ht : Ag P T k] (hs : SbL cs o k vs) (hd : Nat.blt d n = true) (kk : XL P w0 h0 q ops K Q rest n ((d, .agg vs.toArray) :: L) Γ) :
  XL P w0 h0 q ops K Q (⟨some d, .load T x, ty, pos, af, none⟩ :: rest) n L Γ :=
 XL.value (fun a w f s => by
  obtain ⟨h, hp, ag⟩ := star_get hr s
  simp only [execOp, f.ev hx, Instr.loadAt, Instr.sureAddr, pure_bind]
  rw [ok_of (loadVar_aggI (ag b _ hp) hs)]; rfl) hd kk
end
end Go.Bk

namespace Go.Bk
section
variable {P : Program} {w0 : World} {h0 : Hp} {q : Bool} {ops : Array Oper} {K : Act → World → Prop} {Q : Exit → Act → World → Prop} {rest : List Oper} {n : Nat} {L : Sl} {Γ Γ1 Γ2 : List Asn} {c c1 c2 : Code}
variable {d : Tmp} {ty : TypeId} {pos : String} {af : Array Edge}
theorem XL.m {x : Operand} {v : Value} (k : XL P w0 h0 q ops K Q rest n ((d, v) :: L) Γ) (hx : ev L x = some v := by rfl) (hd : Nat.blt d n = true := by rfl) : XL P w0 h0 q ops K Q (⟨some d, .move x, ty, pos, af, none⟩ :: rest) n L Γ := XL.move hx hd k
theorem XL.a {x : Operand} {v : Value} (k : XL P w0 h0 q ops K Q rest n ((d, v) :: L) Γ) (hx : ev L x = some v := by rfl) (hd : Nat.blt d n = true := by rfl) : XL P w0 h0 q ops K Q (⟨some d, .assign x, ty, pos, af, none⟩ :: rest) n L Γ := XL.assign hx hd k
theorem XL.f {x : Operand} {T i b o off t r : Nat} (k : XL P w0 h0 q ops K Q rest n ((d, .pointer (some ⟨b, r, none⟩)) :: L) Γ) (hx : ev L x = some (.pointer (some ⟨b, o, none⟩)) := by rfl) [hf : FldOf P T i off t] [ha : NAdd o off r] (hd : Nat.blt d n = true := by rfl) : XL P w0 h0 q ops K Q (⟨some d, .fieldAddr T x i, ty, pos, af, none⟩ :: rest) n L Γ := XL.fieldAddr hx hd k
theorem XL.l {x : Operand} {T b o : Nat} {cs : List Value} {v : Value} {KK : List Value → List Asn} (k : XL P w0 h0 q ops K Q rest n ((d, v) :: L) Γ) (hx : ev L x = some (.pointer (some ⟨b, o, none⟩)) := by rfl) [hp : PtC Γ b cs KK] [ht : Sc P T] [hv : GtL cs o v] (hd : Nat.blt d n = true := by rfl) : XL P w0 h0 q ops K Q (⟨some d, .load T x, ty, pos, af, none⟩ :: rest) n L Γ := XL.load hx hd k
theorem XL.lA {x : Operand} {T b o k : Nat} {cs vs : List Value} {KK : List Value → List Asn} (kk : XL P w0 h0 q ops K Q rest n ((d, .agg vs.toArray) :: L) Γ) (hx : ev L x = some (.pointer (some ⟨b, o, none⟩)) := by rfl) [hp : PtC Γ b cs KK] [ht : Ag P T k] [hs : SbL cs o k vs] (hd : Nat.blt d n = true := by rfl) : XL P w0 h0 q ops K Q (⟨some d, .load T x, ty, pos, af, none⟩ :: rest) n L Γ := XL.loadA hx hd kk
theorem XL.sA {x y : Operand} {T b o m : Nat} {cs cs' vs : List Value} {KK : List Value → List Asn} (k : XL P w0 h0 false ops K Q rest n L (KK cs')) (hx : ev L x = some (.pointer (some ⟨b, o, none⟩)) := by rfl) (hy : ev L y = some (.agg vs.toArray) := by rfl) [hp : PtC Γ b cs KK] [ht : Ag P T m] (hm : vs.length = m := by rfl) (hv : vs.all sca = true := by rfl) [hs : StL cs o vs cs'] : XL P w0 h0 false ops K Q (⟨none, .store T x y, ty, pos, af, none⟩ :: rest) n L Γ := XL.storeA hx hy hm hv k
theorem XL.k {op : Op} {j : Nat} {b b' : Bool} (k : XL P w0 h0 q ops K Q rest n ((d, undef) :: L) Γ) (hy : yl ops L j = some b' := by rfl) (hne : (b' == b) = false := by rfl) (hd : Nat.blt d n = true := by rfl) : XL P w0 h0 q ops K Q (⟨some d, op, ty, pos, af, some (j, b)⟩ :: rest) n L Γ := XL.skip hy hne hd k
theorem XL.g {dst : Option Tmp} {op : Op} {j : Nat} {b : Bool} (k : XL P w0 h0 q ops K Q (⟨dst, op, ty, pos, af, none⟩ :: rest) n L Γ) (hy : yl ops L j = some b := by rfl) : XL P w0 h0 q ops K Q (⟨dst, op, ty, pos, af, some (j, b)⟩ :: rest) n L Γ := XL.go hy k
theorem XL.x {x : Operand} {i : Nat} {vs : List Value} {v : Value} (k : XL P w0 h0 q ops K Q rest n ((d, v) :: L) Γ) (hx : ev L x = some (.tuple vs.toArray) := by rfl) (hk : vs[i]? = some v := by rfl) (hd : Nat.blt d n = true := by rfl) : XL P w0 h0 q ops K Q (⟨some d, .extract x i, ty, pos, af, none⟩ :: rest) n L Γ := XL.extract hx hk hd k
theorem XL.n2 (k : SP P w0 h0 c Q n L Γ) : XL P w0 h0 false ops K (Exit.then (c.wp P Q) Q) [] n L Γ := XL.nil (Jp.then_normal k)
theorem SP.r2 {id : Nat} {l : List Oper} (k : XL P w0 h0 false l.toArray (Exit.then (c2.wp P Q) Q .normal) (Exit.then (c2.wp P Q) Q) l n L Γ) : SP P w0 h0 (.seq (.region id l.toArray false) c2) Q n L Γ := SP.seq (SP.region k)
theorem XL.n3 {id : Nat} {l : List Oper} (k : XL P w0 h0 false l.toArray (Q .normal) Q l n L Γ) : XL P w0 h0 false ops K (Exit.then ((Code.region id l.toArray false).wp P Q) Q) [] n L Γ := XL.n2 (SP.region k)
theorem XL.n4 {id : Nat} {l : List Oper} (k : XL P w0 h0 false l.toArray (Exit.then (c2.wp P Q) Q .normal) (Exit.then (c2.wp P Q) Q) l n L Γ) : XL P w0 h0 false ops K (Exit.then ((Code.seq (.region id l.toArray false) c2).wp P Q) Q) [] n L Γ := XL.n2 (SP.r2 k)
theorem XL.n5 (k : SP P w0 h0 c1 (Exit.then (c2.wp P Q) Q) n L Γ) : XL P w0 h0 false ops K (Exit.then ((Code.seq c1 c2).wp P Q) Q) [] n L Γ := XL.n2 (SP.seq k)
theorem Jp.n4 {Q' : Exit → Act → World → Prop} {id : Nat} {l : List Oper} (k : XL P w0 h0 false l.toArray (Exit.then (c2.wp P Q') Q' .normal) (Exit.then (c2.wp P Q') Q') l n L Γ) : Jp w0 h0 .normal (Exit.then ((Code.seq (.region id l.toArray false) c2).wp P Q') Q) n L Γ := Jp.then_normal (SP.r2 k)
theorem SP.s2 {c' : Code} (k : SP P w0 h0 c' Q n L Γ) : SP P w0 h0 .skip (Exit.then (c'.wp P Q) Q) n L Γ := SP.skip (Jp.then_normal k)
theorem SP.t {x : Operand} (k : SP P w0 h0 c1 Q n L Γ) (h : ev L x = some (.bool true) := by rfl) : SP P w0 h0 (.cond x c1 c2) Q n L Γ := SP.cond_t h k
theorem SP.f {x : Operand} (k : SP P w0 h0 c2 Q n L Γ) (h : ev L x = some (.bool false) := by rfl) : SP P w0 h0 (.cond x c1 c2) Q n L Γ := SP.cond_f h k
theorem XL.on {fuel : Nat} {listed : Array Bool} {K' : Act → World → Prop} (k : XA P w0 h0 ops Q fuel listed n L Γ) : XL P w0 h0 false ops K' (nrm (wpAny P .any ops Q fuel listed)) [] n L Γ := XL.nil (XA.on k)
theorem XA.o (i : Nat) {o : Oper} {fuel : Nat} {listed : Array Bool} (hx : XL P w0 h0 false ops (fun _ _ => True) (nrm (wpAny P .any ops Q fuel (listed.setIfInBounds i true))) [o] n L Γ) (hi : ops[i]? = some o := by rfl) (hr : Region.ready .any ops listed = [i] := by kernel_rfl) (hg : o.guard = none := by rfl) : XA P w0 h0 ops Q (fuel + 1) listed n L Γ := XA.one hi hr hg hx
theorem XA.tk {i : Nat} {d : Tmp} {op : Op} {ty : TypeId} {pos : String} {af : Array Edge} {v : Value} {fuel : Nat} {listed : Array Bool} (hi : ops[i]? = some ⟨some d, op, ty, pos, af, none⟩) (hv : valB op = true) (hd : Nat.blt d n = true) [hQ : NPT Q]
  (hx : ∀ (w0 : World) (h0 : Hp) (K : Act → World → Prop), XL P w0 h0 true ops K Q [] n ((d, v) :: L) [] → XL P w0 h0 true ops K Q [⟨some d, op, ty, pos, af, none⟩] n L [])
  (k : XA P w0 h0 ops Q fuel (listed.setIfInBounds i true) n ((d, v) :: L) Γ) (hs : Region.noSelect ops = true := by kernel_rfl) (hf : Region.free .any ops listed i = true := by kernel_rfl) (hr : (Region.ready .any ops listed).contains i = true := by kernel_rfl) : XA P w0 h0 ops Q (fuel + 1) listed n L Γ := XA.take hi hv hd hs hf hr hx k
theorem Jp.rd {X : Type} {M : X → Sl} {Δ : X → List Asn} {I : X → Prop} {μ : X → Nat} {m : Nat} (y : X) (hI : I y) (hμ : μ y < m) (hs : Sub L (M y) := by repeat' constructor) (hΓ : ∀ h, star Γ h → star (Δ y) h := by exact Pk.drop (by repeat' constructor)) :
  Jp w0 h0 .normal (Exit.then (fun a w => ∃ y, (I y ∧ μ y < m) ∧ Fit n (M y) a ∧ Wd w0 h0 (Δ y) w) Q) n L Γ := Jp.round y hI hμ hs hΓ
theorem Jp.mt {X : Type} {M : X → Sl} {Δ : X → List Asn} {I : X → Prop} (x : X) (hI : I x) (hs : Sub L (M x) := by repeat' constructor) (hΓ : ∀ h, star Γ h → star (Δ x) h := by exact Pk.drop (by repeat' constructor)) :
  Jp w0 h0 .normal (Exit.then (fun a w => ∃ x, I x ∧ Fit n (M x) a ∧ Wd w0 h0 (Δ x) w) Q) n L Γ := Jp.meet x hI hs hΓ
end
end Go.Bk

namespace Go.Proofs
open Go.Bk

def MayP (x y z : Int) : Prop := -1048576 ≤ x ∧ x < 1048576 ∧ -1048576 ≤ z ∧ z < 1048576 ∧ 0 ≤ y ∧ y < 64
instance (x y z : Int) : Decidable (MayP x y z) := by unfold MayP; infer_instance
def kname (k : Int) : ByteArray := if k = 0 then ⟨#[97, 105, 114]⟩ else if k = 1 then ⟨#[98, 101, 100, 114, 111, 99, 107]⟩ else if k = 2 then ⟨#[115, 116, 111, 110, 101]⟩ else if k = 3 then ⟨#[115, 111, 105, 108]⟩ else if k = 4 then ⟨#[115, 97, 110, 100]⟩ else if k = 5 then ⟨#[103, 114, 97, 118, 101, 108]⟩ else if k = 6 then ⟨#[119, 111, 111, 100]⟩ else if k = 7 then ⟨#[108, 101, 97, 118, 101, 115]⟩ else if k = 8 then ⟨#[97, 115, 104]⟩ else if k = 9 then ⟨#[103, 108, 97, 115, 115]⟩ else if k = 10 then ⟨#[109, 111, 118, 101, 114]⟩ else if k = 11 then ⟨#[116, 111, 114, 99, 104]⟩ else if k = 12 then ⟨#[112, 108, 97, 110, 116]⟩ else if k = 13 then ⟨#[119, 97, 116, 101, 114]⟩ else if k = 14 then ⟨#[102, 105, 114, 101]⟩ else ⟨#[]⟩
def kis (k : Int) : Int := if k = 0 then 13 else if k = 1 then 0 else if k = 2 then 2 else if k = 3 then 2 else if k = 4 then 18 else if k = 5 then 18 else if k = 6 then 34 else if k = 7 then 34 else if k = 8 then 18 else if k = 9 then 3 else if k = 10 then 0 else if k = 11 then 13 else if k = 12 then 45 else if k = 13 then 5 else if k = 14 then 13 else 0
def kleast (k : Int) : Int := if k = 11 then 1 else 0
def kmost (k : Int) : Int := if k = 11 then 15 else if k = 12 then 3 else if k = 13 then 7 else if k = 14 then 1 else 0
def kindRows : List Value := .string ⟨#[97, 105, 114]⟩ :: .int .u8 13 :: .int .u8 0 :: .int .u8 0 :: .string ⟨#[98, 101, 100, 114, 111, 99, 107]⟩ :: .int .u8 0 :: .int .u8 0 :: .int .u8 0 :: .string ⟨#[115, 116, 111, 110, 101]⟩ :: .int .u8 2 :: .int .u8 0 :: .int .u8 0 :: .string ⟨#[115, 111, 105, 108]⟩ :: .int .u8 2 :: .int .u8 0 :: .int .u8 0 :: .string ⟨#[115, 97, 110, 100]⟩ :: .int .u8 18 :: .int .u8 0 :: .int .u8 0 :: .string ⟨#[103, 114, 97, 118, 101, 108]⟩ :: .int .u8 18 :: .int .u8 0 :: .int .u8 0 :: .string ⟨#[119, 111, 111, 100]⟩ :: .int .u8 34 :: .int .u8 0 :: .int .u8 0 :: .string ⟨#[108, 101, 97, 118, 101, 115]⟩ :: .int .u8 34 :: .int .u8 0 :: .int .u8 0 :: .string ⟨#[97, 115, 104]⟩ :: .int .u8 18 :: .int .u8 0 :: .int .u8 0 :: .string ⟨#[103, 108, 97, 115, 115]⟩ :: .int .u8 3 :: .int .u8 0 :: .int .u8 0 :: .string ⟨#[109, 111, 118, 101, 114]⟩ :: .int .u8 0 :: .int .u8 0 :: .int .u8 0 :: .string ⟨#[116, 111, 114, 99, 104]⟩ :: .int .u8 13 :: .int .u8 1 :: .int .u8 15 :: .string ⟨#[112, 108, 97, 110, 116]⟩ :: .int .u8 45 :: .int .u8 0 :: .int .u8 3 :: .string ⟨#[119, 97, 116, 101, 114]⟩ :: .int .u8 5 :: .int .u8 0 :: .int .u8 7 :: .string ⟨#[102, 105, 114, 101]⟩ :: .int .u8 13 :: .int .u8 0 :: .int .u8 1 :: []
theorem kindRows_at (k : Int) (h0 : 0 ≤ k) (h : k < 15) : SbL kindRows (0 + k.toNat * 4) 4 [.string (kname k), .int .u8 (kis k), .int .u8 (kleast k), .int .u8 (kmost k)] := by
 have : k = 0 ∨ k = 1 ∨ k = 2 ∨ k = 3 ∨ k = 4 ∨ k = 5 ∨ k = 6 ∨ k = 7 ∨ k = 8 ∨ k = 9 ∨ k = 10 ∨ k = 11 ∨ k = 12 ∨ k = 13 ∨ k = 14 := by omega
 rcases this with rfl | rfl | rfl | rfl | rfl | rfl | rfl | rfl | rfl | rfl | rfl | rfl | rfl | rfl | rfl <;> exact ⟨by decide, rfl⟩

theorem c48 (x y z : Int) : Pur Tryz.prog 48 [.agg #[.int .i64 x, .int .i64 y, .int .i64 z]] (.bool (decide (MayP x y z))) := by
 refine Pcalls (n := 31) Tryz.func48 rfl rfl rfl fun W0 H0 => ?_
 refine SP.r2 ?_
 refine XL.boxA rfl rfl (fun b1 => ?_)
 refine XL.a ?_
 refine XL.n4 ?_
 refine XL.f ?_
 refine XL.l ?_
 refine XL.geq_s rfl rfl rfl (fun h1 => ?_) (fun h1 => ?_)
 ·refine XL.m ?_
  refine XL.g ?_
  refine XL.f ?_
  refine XL.g ?_
  refine XL.l ?_
  refine XL.g ?_
  refine XL.lss_s rfl rfl rfl (fun h2 => ?_) (fun h2 => ?_)
  ·refine XL.pick_t rfl rfl rfl ?_
   refine XL.m ?_
   refine XL.g ?_
   refine XL.f ?_
   refine XL.g ?_
   refine XL.l ?_
   refine XL.g ?_
   refine XL.geq_s rfl rfl rfl (fun h3 => ?_) (fun h3 => ?_)
   ·refine XL.pick_t rfl rfl rfl ?_
    refine XL.m ?_
    refine XL.g ?_
    refine XL.f ?_
    refine XL.g ?_
    refine XL.l ?_
    refine XL.g ?_
    refine XL.lss_s rfl rfl rfl (fun h4 => ?_) (fun h4 => ?_)
    ·refine XL.pick_t rfl rfl rfl ?_
     refine XL.m ?_
     refine XL.g ?_
     refine XL.f ?_
     refine XL.g ?_
     refine XL.l ?_
     refine XL.g ?_
     refine XL.geq_s rfl rfl rfl (fun h5 => ?_) (fun h5 => ?_)
     ·refine XL.pick_t rfl rfl rfl ?_
      refine XL.m ?_
      refine XL.g ?_
      refine XL.f ?_
      refine XL.g ?_
      refine XL.l ?_
      refine XL.g ?_
      refine XL.lss_s rfl rfl rfl (fun h6 => ?_) (fun h6 => ?_)
      ·refine XL.pick_t rfl rfl rfl ?_
       refine XL.a ?_
       refine XL.n2 ?_
       refine SP.ret ?_
       refine Jp.pur1 (.inr rfl) rfl rfl ?_
       first | exact bt (by unfold MayP; omega) | exact bf (by unfold MayP; omega)
      ·refine XL.pick_t rfl rfl rfl ?_
       refine XL.a ?_
       refine XL.n2 ?_
       refine SP.ret ?_
       refine Jp.pur1 (.inr rfl) rfl rfl ?_
       first | exact bt (by unfold MayP; omega) | exact bf (by unfold MayP; omega)
     ·refine XL.pick_t rfl rfl rfl ?_
      refine XL.m ?_
      refine XL.k ?_
      refine XL.k ?_
      refine XL.k ?_
      refine XL.pick_f rfl rfl rfl ?_
      refine XL.a ?_
      refine XL.n2 ?_
      refine SP.ret ?_
      refine Jp.pur1 (.inr rfl) rfl rfl ?_
      first | exact bt (by unfold MayP; omega) | exact bf (by unfold MayP; omega)
    ·refine XL.pick_t rfl rfl rfl ?_
     refine XL.m ?_
     refine XL.k ?_
     refine XL.k ?_
     refine XL.k ?_
     refine XL.pick_f rfl rfl rfl ?_
     refine XL.m ?_
     refine XL.k ?_
     refine XL.k ?_
     refine XL.k ?_
     refine XL.pick_f rfl rfl rfl ?_
     refine XL.a ?_
     refine XL.n2 ?_
     refine SP.ret ?_
     refine Jp.pur1 (.inr rfl) rfl rfl ?_
     first | exact bt (by unfold MayP; omega) | exact bf (by unfold MayP; omega)
   ·refine XL.pick_t rfl rfl rfl ?_
    refine XL.m ?_
    refine XL.k ?_
    refine XL.k ?_
    refine XL.k ?_
    refine XL.pick_f rfl rfl rfl ?_
    refine XL.m ?_
    refine XL.k ?_
    refine XL.k ?_
    refine XL.k ?_
    refine XL.pick_f rfl rfl rfl ?_
    refine XL.m ?_
    refine XL.k ?_
    refine XL.k ?_
    refine XL.k ?_
    refine XL.pick_f rfl rfl rfl ?_
    refine XL.a ?_
    refine XL.n2 ?_
    refine SP.ret ?_
    refine Jp.pur1 (.inr rfl) rfl rfl ?_
    first | exact bt (by unfold MayP; omega) | exact bf (by unfold MayP; omega)
  ·refine XL.pick_t rfl rfl rfl ?_
   refine XL.m ?_
   refine XL.k ?_
   refine XL.k ?_
   refine XL.k ?_
   refine XL.pick_f rfl rfl rfl ?_
   refine XL.m ?_
   refine XL.k ?_
   refine XL.k ?_
   refine XL.k ?_
   refine XL.pick_f rfl rfl rfl ?_
   refine XL.m ?_
   refine XL.k ?_
   refine XL.k ?_
   refine XL.k ?_
   refine XL.pick_f rfl rfl rfl ?_
   refine XL.m ?_
   refine XL.k ?_
   refine XL.k ?_
   refine XL.k ?_
   refine XL.pick_f rfl rfl rfl ?_
   refine XL.a ?_
   refine XL.n2 ?_
   refine SP.ret ?_
   refine Jp.pur1 (.inr rfl) rfl rfl ?_
   first | exact bt (by unfold MayP; omega) | exact bf (by unfold MayP; omega)
 ·refine XL.m ?_
  refine XL.k ?_
  refine XL.k ?_
  refine XL.k ?_
  refine XL.pick_f rfl rfl rfl ?_
  refine XL.m ?_
  refine XL.k ?_
  refine XL.k ?_
  refine XL.k ?_
  refine XL.pick_f rfl rfl rfl ?_
  refine XL.m ?_
  refine XL.k ?_
  refine XL.k ?_
  refine XL.k ?_
  refine XL.pick_f rfl rfl rfl ?_
  refine XL.m ?_
  refine XL.k ?_
  refine XL.k ?_
  refine XL.k ?_
  refine XL.pick_f rfl rfl rfl ?_
  refine XL.m ?_
  refine XL.k ?_
  refine XL.k ?_
  refine XL.k ?_
  refine XL.pick_f rfl rfl rfl ?_
  refine XL.a ?_
  refine XL.n2 ?_
  refine SP.ret ?_
  refine Jp.pur1 (.inr rfl) rfl rfl ?_
  first | exact bt (by unfold MayP; omega) | exact bf (by unfold MayP; omega)
theorem c47 (k : Int) (h0 : 0 ≤ k) (h1 : k ≤ 255) : Pur Tryz.prog 47 [.int .u8 k] (.agg #[.string (kname k), .int .u8 (kis k), .int .u8 (kleast k), .int .u8 (kmost k)]) := by
 refine Pcalls (n := 27) Tryz.func47 rfl rfl rfl fun W0 H0 => ?_
 refine SP.r2 ?_
 refine XL.alloc (by rfl) (fun b1 => ?_)
 refine XL.n4 ?_
 refine XL.build (by rfl) (by rfl) ?_
 refine XL.build (by rfl) (by rfl) ?_
 refine XL.build (by rfl) (by rfl) ?_
 refine XL.build (by rfl) (by rfl) ?_
 refine XL.build (by rfl) (by rfl) ?_
 refine XL.build (by rfl) (by rfl) ?_
 refine XL.build (by rfl) (by rfl) ?_
 refine XL.build (by rfl) (by rfl) ?_
 refine XL.build (by rfl) (by rfl) ?_
 refine XL.build (by rfl) (by rfl) ?_
 refine XL.build (by rfl) (by rfl) ?_
 refine XL.build (by rfl) (by rfl) ?_
 refine XL.build (by rfl) (by rfl) ?_
 refine XL.build (by rfl) (by rfl) ?_
 refine XL.build (by rfl) (by rfl) ?_
 refine XL.build (cs := kindRows) (hf := ⟨by kernel_rfl⟩) (by rfl) (by rfl) ?_
 refine XL.alloc (by rfl) (fun b2 => ?_)
 refine XL.storeA (hp := PtC.here _ _ _ _) (hs := StL.whole (by rfl)) (by rfl) (by rfl) (by rfl) (by rfl) ?_
 refine XL.n5 ?_
 refine SP.r2 ?_
 refine XL.m ?_
 refine XL.conv (by rfl) ⟨_, Tryz.underlying5⟩ (by first | rfl | exact wrap64_of (by omega) (by omega) | exact wrapU8_of (by omega) (by omega) | exact wrapU64_of (by omega) (by omega)) (by rfl) ?_
 refine XL.lss_s rfl rfl rfl (fun h1 => ?_) (fun h1 => ?_)
 ·refine XL.n2 ?_
  refine SP.t ?_
  refine SP.r2 ?_
  refine XL.m ?_
  refine XL.indexArr rfl rfl (by omega) (by omega) rfl rfl ?_
  refine XL.loadA (hs := kindRows_at k h0 (by omega)) (by rfl) (by rfl) ?_
  refine XL.sA ?_
  refine XL.n2 ?_
  refine SP.ret ?_
  refine Jp.then_ret ?_
  refine Jp.purc (.inr rfl) rfl (Res.cellA (by rfl)) ?_
  first | rfl | (simp only [kname, kis, kleast, kmost]; repeat rw [if_neg (by omega)])
 ·refine XL.n2 ?_
  refine SP.f ?_
  refine SP.skip ?_
  refine Jp.n4 ?_
  refine XL.build (by rfl) (by rfl) ?_
  refine XL.sA ?_
  refine XL.n2 ?_
  refine SP.ret ?_
  refine Jp.purc (.inr rfl) rfl (Res.cellA (by rfl)) ?_
  first | rfl | (simp only [kname, kis, kleast, kmost]; repeat rw [if_neg (by omega)])
end Go.Proofs

namespace Go.Proofs
open Go.Bk
def KClr (k : Int) : Prop := k = 0 ∨ k = 9 ∨ (11 ≤ k ∧ k ≤ 14)
instance (k : Int) : Decidable (KClr k) := by unfold KClr; infer_instance
theorem KClr_iff (k : Int) (h0 : 0 ≤ k) : (¬ bitsV .and .u8 (kis k) 1 = 0) ↔ KClr k := by
 by_cases h : k < 15
 ·have : k = 0 ∨ k = 1 ∨ k = 2 ∨ k = 3 ∨ k = 4 ∨ k = 5 ∨ k = 6 ∨ k = 7 ∨ k = 8 ∨ k = 9 ∨ k = 10 ∨ k = 11 ∨ k = 12 ∨ k = 13 ∨ k = 14 := by omega
  rcases this with rfl | rfl | rfl | rfl | rfl | rfl | rfl | rfl | rfl | rfl | rfl | rfl | rfl | rfl | rfl <;> decide
 ·have : kis k = 0 := by unfold kis; repeat rw [if_neg (by omega)]
  rw [this]; unfold KClr
  constructor
  ·intro h; exact absurd (by decide) h
  ·intro h; omega
theorem c61 (k : Int) (h0 : 0 ≤ k) (h1 : k ≤ 255) : Pur Tryz.prog 61 [.int .u8 k] (.bool (decide (KClr k))) := by
 refine Pcalls (n := 8) Tryz.func61 rfl rfl rfl fun W0 H0 => ?_
 refine SP.r2 ?_
 refine XL.a ?_
 refine XL.n4 ?_
 refine XL.m ?_
 refine XL.cp rfl (c47 k h0 h1) rfl ?_
 refine XL.field (by rfl) (by rfl) ?_
 refine XL.and rfl rfl rfl rfl ?_
 refine XL.neq_s rfl rfl rfl (fun h1 => ?_) (fun h1 => ?_)
 ·refine XL.a ?_
  refine XL.n2 ?_
  refine SP.ret ?_
  refine Jp.pur1 (.inr rfl) rfl rfl ?_
  first | exact bt ((KClr_iff k h0).1 h1) | exact bf (fun g => (KClr_iff k h0).2 g h1)
 ·refine XL.a ?_
  refine XL.n2 ?_
  refine SP.ret ?_
  refine Jp.pur1 (.inr rfl) rfl rfl ?_
  first | exact bt ((KClr_iff k h0).1 h1) | exact bf (fun g => (KClr_iff k h0).2 g h1)
def KMov (k : Int) : Prop := 2 ≤ k ∧ k ≤ 9
instance (k : Int) : Decidable (KMov k) := by unfold KMov; infer_instance
theorem KMov_iff (k : Int) (h0 : 0 ≤ k) : (¬ bitsV .and .u8 (kis k) 2 = 0) ↔ KMov k := by
 by_cases h : k < 15
 ·have : k = 0 ∨ k = 1 ∨ k = 2 ∨ k = 3 ∨ k = 4 ∨ k = 5 ∨ k = 6 ∨ k = 7 ∨ k = 8 ∨ k = 9 ∨ k = 10 ∨ k = 11 ∨ k = 12 ∨ k = 13 ∨ k = 14 := by omega
  rcases this with rfl | rfl | rfl | rfl | rfl | rfl | rfl | rfl | rfl | rfl | rfl | rfl | rfl | rfl | rfl <;> decide
 ·have : kis k = 0 := by unfold kis; repeat rw [if_neg (by omega)]
  rw [this]; unfold KMov
  constructor
  ·intro h; exact absurd (by decide) h
  ·intro h; omega
theorem c26 (k : Int) (h0 : 0 ≤ k) (h1 : k ≤ 255) : Pur Tryz.prog 26 [.int .u8 k] (.bool (decide (KMov k))) := by
 refine Pcalls (n := 8) Tryz.func26 rfl rfl rfl fun W0 H0 => ?_
 refine SP.r2 ?_
 refine XL.a ?_
 refine XL.n4 ?_
 refine XL.m ?_
 refine XL.cp rfl (c47 k h0 h1) rfl ?_
 refine XL.field (by rfl) (by rfl) ?_
 refine XL.and rfl rfl rfl rfl ?_
 refine XL.neq_s rfl rfl rfl (fun h1 => ?_) (fun h1 => ?_)
 ·refine XL.a ?_
  refine XL.n2 ?_
  refine SP.ret ?_
  refine Jp.pur1 (.inr rfl) rfl rfl ?_
  first | exact bt ((KMov_iff k h0).1 h1) | exact bf (fun g => (KMov_iff k h0).2 g h1)
 ·refine XL.a ?_
  refine XL.n2 ?_
  refine SP.ret ?_
  refine Jp.pur1 (.inr rfl) rfl rfl ?_
  first | exact bt ((KMov_iff k h0).1 h1) | exact bf (fun g => (KMov_iff k h0).2 g h1)
def KYld (k : Int) : Prop := k = 0 ∨ (11 ≤ k ∧ k ≤ 14)
instance (k : Int) : Decidable (KYld k) := by unfold KYld; infer_instance
theorem KYld_iff (k : Int) (h0 : 0 ≤ k) : (¬ bitsV .and .u8 (kis k) 4 = 0) ↔ KYld k := by
 by_cases h : k < 15
 ·have : k = 0 ∨ k = 1 ∨ k = 2 ∨ k = 3 ∨ k = 4 ∨ k = 5 ∨ k = 6 ∨ k = 7 ∨ k = 8 ∨ k = 9 ∨ k = 10 ∨ k = 11 ∨ k = 12 ∨ k = 13 ∨ k = 14 := by omega
  rcases this with rfl | rfl | rfl | rfl | rfl | rfl | rfl | rfl | rfl | rfl | rfl | rfl | rfl | rfl | rfl <;> decide
 ·have : kis k = 0 := by unfold kis; repeat rw [if_neg (by omega)]
  rw [this]; unfold KYld
  constructor
  ·intro h; exact absurd (by decide) h
  ·intro h; omega
theorem c96 (k : Int) (h0 : 0 ≤ k) (h1 : k ≤ 255) : Pur Tryz.prog 96 [.int .u8 k] (.bool (decide (KYld k))) := by
 refine Pcalls (n := 8) Tryz.func96 rfl rfl rfl fun W0 H0 => ?_
 refine SP.r2 ?_
 refine XL.a ?_
 refine XL.n4 ?_
 refine XL.m ?_
 refine XL.cp rfl (c47 k h0 h1) rfl ?_
 refine XL.field (by rfl) (by rfl) ?_
 refine XL.and rfl rfl rfl rfl ?_
 refine XL.neq_s rfl rfl rfl (fun h1 => ?_) (fun h1 => ?_)
 ·refine XL.a ?_
  refine XL.n2 ?_
  refine SP.ret ?_
  refine Jp.pur1 (.inr rfl) rfl rfl ?_
  first | exact bt ((KYld_iff k h0).1 h1) | exact bf (fun g => (KYld_iff k h0).2 g h1)
 ·refine XL.a ?_
  refine XL.n2 ?_
  refine SP.ret ?_
  refine Jp.pur1 (.inr rfl) rfl rfl ?_
  first | exact bt ((KYld_iff k h0).1 h1) | exact bf (fun g => (KYld_iff k h0).2 g h1)
def KSok (k : Int) : Prop := k = 0 ∨ k = 11 ∨ k = 12 ∨ k = 14
instance (k : Int) : Decidable (KSok k) := by unfold KSok; infer_instance
theorem KSok_iff (k : Int) (h0 : 0 ≤ k) : (¬ bitsV .and .u8 (kis k) 8 = 0) ↔ KSok k := by
 by_cases h : k < 15
 ·have : k = 0 ∨ k = 1 ∨ k = 2 ∨ k = 3 ∨ k = 4 ∨ k = 5 ∨ k = 6 ∨ k = 7 ∨ k = 8 ∨ k = 9 ∨ k = 10 ∨ k = 11 ∨ k = 12 ∨ k = 13 ∨ k = 14 := by omega
  rcases this with rfl | rfl | rfl | rfl | rfl | rfl | rfl | rfl | rfl | rfl | rfl | rfl | rfl | rfl | rfl <;> decide
 ·have : kis k = 0 := by unfold kis; repeat rw [if_neg (by omega)]
  rw [this]; unfold KSok
  constructor
  ·intro h; exact absurd (by decide) h
  ·intro h; omega
theorem c151 (k : Int) (h0 : 0 ≤ k) (h1 : k ≤ 255) : Pur Tryz.prog 151 [.int .u8 k] (.bool (decide (KSok k))) := by
 refine Pcalls (n := 8) Tryz.func151 rfl rfl rfl fun W0 H0 => ?_
 refine SP.r2 ?_
 refine XL.a ?_
 refine XL.n4 ?_
 refine XL.m ?_
 refine XL.cp rfl (c47 k h0 h1) rfl ?_
 refine XL.field (by rfl) (by rfl) ?_
 refine XL.and rfl rfl rfl rfl ?_
 refine XL.neq_s rfl rfl rfl (fun h1 => ?_) (fun h1 => ?_)
 ·refine XL.a ?_
  refine XL.n2 ?_
  refine SP.ret ?_
  refine Jp.pur1 (.inr rfl) rfl rfl ?_
  first | exact bt ((KSok_iff k h0).1 h1) | exact bf (fun g => (KSok_iff k h0).2 g h1)
 ·refine XL.a ?_
  refine XL.n2 ?_
  refine SP.ret ?_
  refine Jp.pur1 (.inr rfl) rfl rfl ?_
  first | exact bt ((KSok_iff k h0).1 h1) | exact bf (fun g => (KSok_iff k h0).2 g h1)
def KFal (k : Int) : Prop := k = 4 ∨ k = 5 ∨ k = 8
instance (k : Int) : Decidable (KFal k) := by unfold KFal; infer_instance
theorem KFal_iff (k : Int) (h0 : 0 ≤ k) : (¬ bitsV .and .u8 (kis k) 16 = 0) ↔ KFal k := by
 by_cases h : k < 15
 ·have : k = 0 ∨ k = 1 ∨ k = 2 ∨ k = 3 ∨ k = 4 ∨ k = 5 ∨ k = 6 ∨ k = 7 ∨ k = 8 ∨ k = 9 ∨ k = 10 ∨ k = 11 ∨ k = 12 ∨ k = 13 ∨ k = 14 := by omega
  rcases this with rfl | rfl | rfl | rfl | rfl | rfl | rfl | rfl | rfl | rfl | rfl | rfl | rfl | rfl | rfl <;> decide
 ·have : kis k = 0 := by unfold kis; repeat rw [if_neg (by omega)]
  rw [this]; unfold KFal
  constructor
  ·intro h; exact absurd (by decide) h
  ·intro h; omega
theorem c161 (k : Int) (h0 : 0 ≤ k) (h1 : k ≤ 255) : Pur Tryz.prog 161 [.int .u8 k] (.bool (decide (KFal k))) := by
 refine Pcalls (n := 8) Tryz.func161 rfl rfl rfl fun W0 H0 => ?_
 refine SP.r2 ?_
 refine XL.a ?_
 refine XL.n4 ?_
 refine XL.m ?_
 refine XL.cp rfl (c47 k h0 h1) rfl ?_
 refine XL.field (by rfl) (by rfl) ?_
 refine XL.and rfl rfl rfl rfl ?_
 refine XL.neq_s rfl rfl rfl (fun h1 => ?_) (fun h1 => ?_)
 ·refine XL.a ?_
  refine XL.n2 ?_
  refine SP.ret ?_
  refine Jp.pur1 (.inr rfl) rfl rfl ?_
  first | exact bt ((KFal_iff k h0).1 h1) | exact bf (fun g => (KFal_iff k h0).2 g h1)
 ·refine XL.a ?_
  refine XL.n2 ?_
  refine SP.ret ?_
  refine Jp.pur1 (.inr rfl) rfl rfl ?_
  first | exact bt ((KFal_iff k h0).1 h1) | exact bf (fun g => (KFal_iff k h0).2 g h1)
def KBrn (k : Int) : Prop := k = 6 ∨ k = 7 ∨ k = 12
instance (k : Int) : Decidable (KBrn k) := by unfold KBrn; infer_instance
theorem KBrn_iff (k : Int) (h0 : 0 ≤ k) : (¬ bitsV .and .u8 (kis k) 32 = 0) ↔ KBrn k := by
 by_cases h : k < 15
 ·have : k = 0 ∨ k = 1 ∨ k = 2 ∨ k = 3 ∨ k = 4 ∨ k = 5 ∨ k = 6 ∨ k = 7 ∨ k = 8 ∨ k = 9 ∨ k = 10 ∨ k = 11 ∨ k = 12 ∨ k = 13 ∨ k = 14 := by omega
  rcases this with rfl | rfl | rfl | rfl | rfl | rfl | rfl | rfl | rfl | rfl | rfl | rfl | rfl | rfl | rfl <;> decide
 ·have : kis k = 0 := by unfold kis; repeat rw [if_neg (by omega)]
  rw [this]; unfold KBrn
  constructor
  ·intro h; exact absurd (by decide) h
  ·intro h; omega
theorem c153 (k : Int) (h0 : 0 ≤ k) (h1 : k ≤ 255) : Pur Tryz.prog 153 [.int .u8 k] (.bool (decide (KBrn k))) := by
 refine Pcalls (n := 8) Tryz.func153 rfl rfl rfl fun W0 H0 => ?_
 refine SP.r2 ?_
 refine XL.a ?_
 refine XL.n4 ?_
 refine XL.m ?_
 refine XL.cp rfl (c47 k h0 h1) rfl ?_
 refine XL.field (by rfl) (by rfl) ?_
 refine XL.and rfl rfl rfl rfl ?_
 refine XL.neq_s rfl rfl rfl (fun h1 => ?_) (fun h1 => ?_)
 ·refine XL.a ?_
  refine XL.n2 ?_
  refine SP.ret ?_
  refine Jp.pur1 (.inr rfl) rfl rfl ?_
  first | exact bt ((KBrn_iff k h0).1 h1) | exact bf (fun g => (KBrn_iff k h0).2 g h1)
 ·refine XL.a ?_
  refine XL.n2 ?_
  refine SP.ret ?_
  refine Jp.pur1 (.inr rfl) rfl rfl ?_
  first | exact bt ((KBrn_iff k h0).1 h1) | exact bf (fun g => (KBrn_iff k h0).2 g h1)
def MayC (k l : Int) : Prop := (k = 11 ∧ 1 ≤ l ∧ l ≤ 15) ∨ (k = 12 ∧ 0 ≤ l ∧ l ≤ 3) ∨ (k = 13 ∧ 0 ≤ l ∧ l ≤ 7) ∨ (k = 14 ∧ 0 ≤ l ∧ l ≤ 1) ∨ (0 ≤ k ∧ k ≤ 10 ∧ l = 0)
instance (k l : Int) : Decidable (MayC k l) := by unfold MayC; infer_instance
theorem kname_iff (k : Int) (h0 : 0 ≤ k) : kname k = ⟨#[]⟩ ↔ 15 ≤ k := by
 by_cases h : k < 15
 ·have : k = 0 ∨ k = 1 ∨ k = 2 ∨ k = 3 ∨ k = 4 ∨ k = 5 ∨ k = 6 ∨ k = 7 ∨ k = 8 ∨ k = 9 ∨ k = 10 ∨ k = 11 ∨ k = 12 ∨ k = 13 ∨ k = 14 := by omega
  rcases this with rfl | rfl | rfl | rfl | rfl | rfl | rfl | rfl | rfl | rfl | rfl | rfl | rfl | rfl | rfl <;> decide
 ·have : kname k = ⟨#[]⟩ := by unfold kname; repeat rw [if_neg (by omega)]
  rw [this]; simp; omega
theorem kleast_spec (k : Int) : (k = 11 ∧ kleast k = 1) ∨ (k ≠ 11 ∧ kleast k = 0) := by unfold kleast; split <;> omega
theorem kmost_spec (k : Int) : (k = 11 ∧ kmost k = 15) ∨ (k = 12 ∧ kmost k = 3) ∨ (k = 13 ∧ kmost k = 7) ∨ (k = 14 ∧ kmost k = 1) ∨ ((k < 11 ∨ 14 < k) ∧ kmost k = 0) := by
 unfold kmost; repeat' split <;> omega
def klamp (k l : Int) : Int := if MayC k l then (if k = 11 then l else if k = 14 then 10 else 0) else 0
theorem c60 (k l : Int) (h0 : 0 ≤ k) (h1 : k ≤ 255) (l0 : 0 ≤ l) (l1 : l ≤ 255) : Pur Tryz.prog 60 [.agg #[.int .u8 k, .int .u8 l]] (.bool (decide (MayC k l))) := by
 refine Pcalls (n := 24) Tryz.func60 rfl rfl rfl fun W0 H0 => ?_
 refine SP.r2 ?_
 refine XL.boxA rfl rfl (fun b1 => ?_)
 refine XL.a ?_
 refine XL.n4 ?_
 refine XL.f ?_
 refine XL.l ?_
 refine XL.cp rfl (c47 k h0 h1) rfl ?_
 refine XL.alloc (by rfl) (fun b2 => ?_)
 refine XL.sA ?_
 refine XL.n4 ?_
 refine XL.f ?_
 refine XL.l ?_
 by_cases hn : kname k = ⟨#[]⟩
 ·have hk := (kname_iff k h0).1 hn
  refine XL.strneq_f rfl rfl hn rfl ?_
  refine XL.m ?_
  refine XL.k ?_
  refine XL.k ?_
  refine XL.k ?_
  refine XL.k ?_
  refine XL.k ?_
  refine XL.pick_f rfl rfl rfl ?_
  refine XL.m ?_
  refine XL.k ?_
  refine XL.k ?_
  refine XL.k ?_
  refine XL.k ?_
  refine XL.k ?_
  refine XL.pick_f rfl rfl rfl ?_
  refine XL.a ?_
  refine XL.n2 ?_
  refine SP.ret ?_
  refine Jp.pur1 (.inr rfl) rfl rfl ?_
  have e1 := kleast_spec k
  have e2 := kmost_spec k
  first | exact bt (by unfold MayC; omega) | exact bf (by unfold MayC; omega)
 ·have hk : ¬ 15 ≤ k := fun g => hn ((kname_iff k h0).2 g)
  refine XL.strneq_t rfl rfl hn rfl ?_
  refine XL.m ?_
  refine XL.g ?_
  refine XL.f ?_
  refine XL.g ?_
  refine XL.l ?_
  refine XL.g ?_
  refine XL.f ?_
  refine XL.g ?_
  refine XL.l ?_
  refine XL.g ?_
  refine XL.geq_s rfl rfl rfl (fun h1 => ?_) (fun h1 => ?_)
  ·refine XL.pick_t rfl rfl rfl ?_
   refine XL.m ?_
   refine XL.g ?_
   refine XL.f ?_
   refine XL.g ?_
   refine XL.l ?_
   refine XL.g ?_
   refine XL.f ?_
   refine XL.g ?_
   refine XL.l ?_
   refine XL.g ?_
   refine XL.leq_s rfl rfl rfl (fun h2 => ?_) (fun h2 => ?_)
   ·refine XL.pick_t rfl rfl rfl ?_
    refine XL.a ?_
    refine XL.n2 ?_
    refine SP.ret ?_
    refine Jp.pur1 (.inr rfl) rfl rfl ?_
    have e1 := kleast_spec k
    have e2 := kmost_spec k
    first | exact bt (by unfold MayC; omega) | exact bf (by unfold MayC; omega)
   ·refine XL.pick_t rfl rfl rfl ?_
    refine XL.a ?_
    refine XL.n2 ?_
    refine SP.ret ?_
    refine Jp.pur1 (.inr rfl) rfl rfl ?_
    have e1 := kleast_spec k
    have e2 := kmost_spec k
    first | exact bt (by unfold MayC; omega) | exact bf (by unfold MayC; omega)
  ·refine XL.pick_t rfl rfl rfl ?_
   refine XL.m ?_
   refine XL.k ?_
   refine XL.k ?_
   refine XL.k ?_
   refine XL.k ?_
   refine XL.k ?_
   refine XL.pick_f rfl rfl rfl ?_
   refine XL.a ?_
   refine XL.n2 ?_
   refine SP.ret ?_
   refine Jp.pur1 (.inr rfl) rfl rfl ?_
   have e1 := kleast_spec k
   have e2 := kmost_spec k
   first | exact bt (by unfold MayC; omega) | exact bf (by unfold MayC; omega)
theorem c98 (k l : Int) (h0 : 0 ≤ k) (h1 : k ≤ 255) (l0 : 0 ≤ l) (l1 : l ≤ 255) : Pur Tryz.prog 98 [.agg #[.int .u8 k, .int .u8 l]] (.int .u8 (klamp k l)) := by
 refine Pcalls (n := 17) Tryz.func98 rfl rfl rfl fun W0 H0 => ?_
 refine SP.r2 ?_
 refine XL.boxA rfl rfl (fun b1 => ?_)
 refine XL.a ?_
 refine XL.n5 ?_
 refine SP.block ?_
 refine SP.r2 ?_
 refine XL.lA ?_
 refine XL.cs rfl (c60 k l (by omega) (by omega) (by omega) (by omega)) rfl (fun hm => ?_) (fun hm => ?_)
 ·refine XL.not_t rfl rfl ?_
  refine XL.a ?_
  refine XL.n2 ?_
  refine SP.f ?_
  refine SP.r2 ?_
  refine XL.f ?_
  refine XL.l ?_
  refine XL.eql_s rfl rfl rfl (fun h1 => ?_) (fun h1 => ?_)
  ·refine XL.a ?_
   refine XL.n2 ?_
   refine SP.t ?_
   refine SP.r2 ?_
   refine XL.f ?_
   refine XL.l ?_
   refine XL.a ?_
   refine XL.n2 ?_
   refine SP.ret ?_
   refine Jp.block_ret ?_
   refine Jp.then_ret ?_
   refine Jp.pur1 (.inr rfl) rfl rfl ?_
   unfold klamp
   first | (rw [if_neg hm]) | (rw [if_pos hm, if_pos (by omega)]) | (rw [if_pos hm, if_neg (by omega), if_pos (by omega)]) | (rw [if_pos hm, if_neg (by omega), if_neg (by omega)])
  ·refine XL.a ?_
   refine XL.n2 ?_
   refine SP.f ?_
   refine SP.r2 ?_
   refine XL.f ?_
   refine XL.l ?_
   refine XL.eql_s rfl rfl rfl (fun h2 => ?_) (fun h2 => ?_)
   ·refine XL.a ?_
    refine XL.n2 ?_
    refine SP.t ?_
    refine SP.r2 ?_
    refine XL.a ?_
    refine XL.n2 ?_
    refine SP.ret ?_
    refine Jp.block_ret ?_
    refine Jp.then_ret ?_
    refine Jp.pur1 (.inr rfl) rfl rfl ?_
    unfold klamp
    first | (rw [if_neg hm]) | (rw [if_pos hm, if_pos (by omega)]) | (rw [if_pos hm, if_neg (by omega), if_pos (by omega)]) | (rw [if_pos hm, if_neg (by omega), if_neg (by omega)])
   ·refine XL.a ?_
    refine XL.n2 ?_
    refine SP.f ?_
    refine SP.skip ?_
    refine Jp.block_normal ?_
    refine Jp.n4 ?_
    refine XL.a ?_
    refine XL.n2 ?_
    refine SP.ret ?_
    refine Jp.pur1 (.inr rfl) rfl rfl ?_
    unfold klamp
    first | (rw [if_neg hm]) | (rw [if_pos hm, if_pos (by omega)]) | (rw [if_pos hm, if_neg (by omega), if_pos (by omega)]) | (rw [if_pos hm, if_neg (by omega), if_neg (by omega)])
 ·refine XL.not_f rfl rfl ?_
  refine XL.a ?_
  refine XL.n2 ?_
  refine SP.t ?_
  refine SP.r2 ?_
  refine XL.a ?_
  refine XL.n2 ?_
  refine SP.ret ?_
  refine Jp.block_ret ?_
  refine Jp.then_ret ?_
  refine Jp.pur1 (.inr rfl) rfl rfl ?_
  unfold klamp
  first | (rw [if_neg hm]) | (rw [if_pos hm, if_pos (by omega)]) | (rw [if_pos hm, if_neg (by omega), if_pos (by omega)]) | (rw [if_pos hm, if_neg (by omega), if_neg (by omega)])
def MayS (x y z : Int) : Prop := -65536 ≤ x ∧ x < 65536 ∧ -65536 ≤ z ∧ z < 65536 ∧ 0 ≤ y ∧ y < 4
instance (x y z : Int) : Decidable (MayS x y z) := by unfold MayS; infer_instance
def idx (x y z : Int) : Int := y % 16 * 256 + z % 16 * 16 + x % 16
theorem c43 (x y z : Int) : Pur Tryz.prog 43 [.agg #[.int .i64 x, .int .i64 y, .int .i64 z]] (.bool (decide (MayS x y z))) := by
 refine Pcalls (n := 31) Tryz.func43 rfl rfl rfl fun W0 H0 => ?_
 refine SP.r2 ?_
 refine XL.boxA rfl rfl (fun b1 => ?_)
 refine XL.a ?_
 refine XL.n4 ?_
 refine XL.f ?_
 refine XL.l ?_
 refine XL.geq_s rfl rfl rfl (fun h1 => ?_) (fun h1 => ?_)
 ·refine XL.m ?_
  refine XL.g ?_
  refine XL.f ?_
  refine XL.g ?_
  refine XL.l ?_
  refine XL.g ?_
  refine XL.lss_s rfl rfl rfl (fun h2 => ?_) (fun h2 => ?_)
  ·refine XL.pick_t rfl rfl rfl ?_
   refine XL.m ?_
   refine XL.g ?_
   refine XL.f ?_
   refine XL.g ?_
   refine XL.l ?_
   refine XL.g ?_
   refine XL.geq_s rfl rfl rfl (fun h3 => ?_) (fun h3 => ?_)
   ·refine XL.pick_t rfl rfl rfl ?_
    refine XL.m ?_
    refine XL.g ?_
    refine XL.f ?_
    refine XL.g ?_
    refine XL.l ?_
    refine XL.g ?_
    refine XL.lss_s rfl rfl rfl (fun h4 => ?_) (fun h4 => ?_)
    ·refine XL.pick_t rfl rfl rfl ?_
     refine XL.m ?_
     refine XL.g ?_
     refine XL.f ?_
     refine XL.g ?_
     refine XL.l ?_
     refine XL.g ?_
     refine XL.geq_s rfl rfl rfl (fun h5 => ?_) (fun h5 => ?_)
     ·refine XL.pick_t rfl rfl rfl ?_
      refine XL.m ?_
      refine XL.g ?_
      refine XL.f ?_
      refine XL.g ?_
      refine XL.l ?_
      refine XL.g ?_
      refine XL.lss_s rfl rfl rfl (fun h6 => ?_) (fun h6 => ?_)
      ·refine XL.pick_t rfl rfl rfl ?_
       refine XL.a ?_
       refine XL.n2 ?_
       refine SP.ret ?_
       refine Jp.pur1 (.inr rfl) rfl rfl ?_
       first | exact bt (by unfold MayS; omega) | exact bf (by unfold MayS; omega)
      ·refine XL.pick_t rfl rfl rfl ?_
       refine XL.a ?_
       refine XL.n2 ?_
       refine SP.ret ?_
       refine Jp.pur1 (.inr rfl) rfl rfl ?_
       first | exact bt (by unfold MayS; omega) | exact bf (by unfold MayS; omega)
     ·refine XL.pick_t rfl rfl rfl ?_
      refine XL.m ?_
      refine XL.k ?_
      refine XL.k ?_
      refine XL.k ?_
      refine XL.pick_f rfl rfl rfl ?_
      refine XL.a ?_
      refine XL.n2 ?_
      refine SP.ret ?_
      refine Jp.pur1 (.inr rfl) rfl rfl ?_
      first | exact bt (by unfold MayS; omega) | exact bf (by unfold MayS; omega)
    ·refine XL.pick_t rfl rfl rfl ?_
     refine XL.m ?_
     refine XL.k ?_
     refine XL.k ?_
     refine XL.k ?_
     refine XL.pick_f rfl rfl rfl ?_
     refine XL.m ?_
     refine XL.k ?_
     refine XL.k ?_
     refine XL.k ?_
     refine XL.pick_f rfl rfl rfl ?_
     refine XL.a ?_
     refine XL.n2 ?_
     refine SP.ret ?_
     refine Jp.pur1 (.inr rfl) rfl rfl ?_
     first | exact bt (by unfold MayS; omega) | exact bf (by unfold MayS; omega)
   ·refine XL.pick_t rfl rfl rfl ?_
    refine XL.m ?_
    refine XL.k ?_
    refine XL.k ?_
    refine XL.k ?_
    refine XL.pick_f rfl rfl rfl ?_
    refine XL.m ?_
    refine XL.k ?_
    refine XL.k ?_
    refine XL.k ?_
    refine XL.pick_f rfl rfl rfl ?_
    refine XL.m ?_
    refine XL.k ?_
    refine XL.k ?_
    refine XL.k ?_
    refine XL.pick_f rfl rfl rfl ?_
    refine XL.a ?_
    refine XL.n2 ?_
    refine SP.ret ?_
    refine Jp.pur1 (.inr rfl) rfl rfl ?_
    first | exact bt (by unfold MayS; omega) | exact bf (by unfold MayS; omega)
  ·refine XL.pick_t rfl rfl rfl ?_
   refine XL.m ?_
   refine XL.k ?_
   refine XL.k ?_
   refine XL.k ?_
   refine XL.pick_f rfl rfl rfl ?_
   refine XL.m ?_
   refine XL.k ?_
   refine XL.k ?_
   refine XL.k ?_
   refine XL.pick_f rfl rfl rfl ?_
   refine XL.m ?_
   refine XL.k ?_
   refine XL.k ?_
   refine XL.k ?_
   refine XL.pick_f rfl rfl rfl ?_
   refine XL.m ?_
   refine XL.k ?_
   refine XL.k ?_
   refine XL.k ?_
   refine XL.pick_f rfl rfl rfl ?_
   refine XL.a ?_
   refine XL.n2 ?_
   refine SP.ret ?_
   refine Jp.pur1 (.inr rfl) rfl rfl ?_
   first | exact bt (by unfold MayS; omega) | exact bf (by unfold MayS; omega)
 ·refine XL.m ?_
  refine XL.k ?_
  refine XL.k ?_
  refine XL.k ?_
  refine XL.pick_f rfl rfl rfl ?_
  refine XL.m ?_
  refine XL.k ?_
  refine XL.k ?_
  refine XL.k ?_
  refine XL.pick_f rfl rfl rfl ?_
  refine XL.m ?_
  refine XL.k ?_
  refine XL.k ?_
  refine XL.k ?_
  refine XL.pick_f rfl rfl rfl ?_
  refine XL.m ?_
  refine XL.k ?_
  refine XL.k ?_
  refine XL.k ?_
  refine XL.pick_f rfl rfl rfl ?_
  refine XL.m ?_
  refine XL.k ?_
  refine XL.k ?_
  refine XL.k ?_
  refine XL.pick_f rfl rfl rfl ?_
  refine XL.a ?_
  refine XL.n2 ?_
  refine SP.ret ?_
  refine Jp.pur1 (.inr rfl) rfl rfl ?_
  first | exact bt (by unfold MayS; omega) | exact bf (by unfold MayS; omega)
theorem c_Spot_t (x y z : Int) (h : MayP x y z) : Pur Tryz.prog 83 [.agg #[.int .i64 x, .int .i64 y, .int .i64 z]] (.tuple #[.agg #[.int .i64 (x / 16), .int .i64 (y / 16), .int .i64 (z / 16)], .bool true]) := by
 refine Pcalls (n := 18) Tryz.func83 rfl rfl rfl fun W0 H0 => ?_
 refine SP.r2 ?_
 refine XL.boxA rfl rfl (fun b1 => ?_)
 refine XL.alloc (by rfl) (fun b2 => ?_)
 refine XL.a ?_
 refine XL.n5 ?_
 refine SP.r2 ?_
 refine XL.lA ?_
 refine XL.cp rfl (Pur.t (c48 x y z) h) rfl ?_
 refine XL.not_t rfl rfl ?_
 refine XL.n2 ?_
 refine SP.f ?_
 refine SP.skip ?_
 refine Jp.n4 ?_
 refine XL.f ?_
 refine XL.l ?_
 refine XL.shr rfl rfl (by decide) (fdiv_of (m := 16) rfl (by decide)) rfl ?_
 refine XL.f ?_
 refine XL.l ?_
 refine XL.shr rfl rfl (by decide) (fdiv_of (m := 16) rfl (by decide)) rfl ?_
 refine XL.f ?_
 refine XL.l ?_
 refine XL.shr rfl rfl (by decide) (fdiv_of (m := 16) rfl (by decide)) rfl ?_
 refine XL.build (by rfl) (by rfl) ?_
 refine XL.sA ?_
 refine XL.a ?_
 refine XL.n2 ?_
 refine SP.ret ?_
 refine Jp.pur2 (.inr rfl) rfl (Res.cellA (by rfl)) rfl ?_
 rfl
theorem c_Spot_f (x y z : Int) (h : ¬ MayP x y z) : Pur Tryz.prog 83 [.agg #[.int .i64 x, .int .i64 y, .int .i64 z]] (.tuple #[.agg #[.int .i64 0, .int .i64 0, .int .i64 0], .bool false]) := by
 refine Pcalls (n := 18) Tryz.func83 rfl rfl rfl fun W0 H0 => ?_
 refine SP.r2 ?_
 refine XL.boxA rfl rfl (fun b1 => ?_)
 refine XL.alloc (by rfl) (fun b2 => ?_)
 refine XL.a ?_
 refine XL.n5 ?_
 refine SP.r2 ?_
 refine XL.lA ?_
 refine XL.cp rfl (Pur.f (c48 x y z) h) rfl ?_
 refine XL.not_f rfl rfl ?_
 refine XL.n2 ?_
 refine SP.t ?_
 refine SP.r2 ?_
 refine XL.build (by rfl) (by rfl) ?_
 refine XL.sA ?_
 refine XL.a ?_
 refine XL.n2 ?_
 refine SP.ret ?_
 refine Jp.then_ret ?_
 refine Jp.pur2 (.inr rfl) rfl (Res.cellA (by rfl)) rfl ?_
 rfl
theorem c_Index_t (x y z : Int) (h : MayP x y z) : Pur Tryz.prog 196 [.agg #[.int .i64 x, .int .i64 y, .int .i64 z]] (.tuple #[.int .i64 (idx x y z), .bool true]) := by
 have h' := h; unfold MayP at h'
 refine Pcalls (n := 20) Tryz.func196 rfl rfl rfl fun W0 H0 => ?_
 refine SP.r2 ?_
 refine XL.boxA rfl rfl (fun b1 => ?_)
 refine XL.a ?_
 refine XL.a ?_
 refine XL.n5 ?_
 refine SP.r2 ?_
 refine XL.lA ?_
 refine XL.cp rfl (Pur.t (c48 x y z) h) rfl ?_
 refine XL.not_t rfl rfl ?_
 refine XL.n2 ?_
 refine SP.f ?_
 refine SP.skip ?_
 refine Jp.n4 ?_
 refine XL.f ?_
 refine XL.l ?_
 refine XL.and rfl rfl (mask64 4 (by decide) _ (by decide)) rfl ?_
 refine XL.shl (r := y % 2 ^ 4 * 256) rfl rfl (by decide) (wrap64_of (by show _ ≤ _ * (256 : Int); omega) (by show _ * (256 : Int) ≤ _; omega)) rfl ?_
 refine XL.f ?_
 refine XL.l ?_
 refine XL.and rfl rfl (mask64 4 (by decide) _ (by decide)) rfl ?_
 refine XL.shl (r := z % 2 ^ 4 * 16) rfl rfl (by decide) (wrap64_of (by show _ ≤ _ * (16 : Int); omega) (by show _ * (16 : Int) ≤ _; omega)) rfl ?_
 refine XL.or rfl rfl (or_add 8 (by omega) (by omega) (by omega) (by omega) (by omega) (by decide)) rfl ?_
 refine XL.f ?_
 refine XL.l ?_
 refine XL.and rfl rfl (mask64 4 (by decide) _ (by decide)) rfl ?_
 refine XL.or rfl rfl (or_add 4 (by omega) (by omega) (by omega) (by omega) (by omega) (by decide)) rfl ?_
 refine XL.a ?_
 refine XL.a ?_
 refine XL.n2 ?_
 refine SP.ret ?_
 refine Jp.pur2 (.inr rfl) rfl rfl rfl ?_
 rfl
def stx (d x : Int) : Int := if d = 0 then x + 1 else if d = 1 then x - 1 else x
def stz (d z : Int) : Int := if d = 2 then z + 1 else if d = 3 then z - 1 else z
def sty (d y : Int) : Int := if d = 4 then y + 1 else if d = 5 then y - 1 else y
theorem c_Step_t (x y z : Int) (d : Int) (d0 : 0 ≤ d) (d5 : d ≤ 5) (h : MayP x y z) (h2 : MayP (stx d x) (sty d y) (stz d z)) : Pur Tryz.prog 53 [.agg #[.int .i64 x, .int .i64 y, .int .i64 z], .int .i64 d] (.tuple #[.agg #[.int .i64 (stx d x), .int .i64 (sty d y), .int .i64 (stz d z)], .bool true]) := by
 have h' := h
 unfold MayP at h'
 refine Pcalls (n := 53) Tryz.func53 rfl rfl rfl fun W0 H0 => ?_
 refine SP.r2 ?_
 refine XL.boxA rfl rfl (fun b1 => ?_)
 refine XL.alloc (by rfl) (fun b2 => ?_)
 refine XL.a ?_
 refine XL.n5 ?_
 refine SP.r2 ?_
 refine XL.lA ?_
 refine XL.cp rfl (Pur.t (c48 x y z) h) rfl ?_
 refine XL.not_t rfl rfl ?_
 refine XL.n2 ?_
 refine SP.f ?_
 refine SP.skip ?_
 refine Jp.then_normal ?_
 refine SP.seq ?_
 refine SP.r2 ?_
 refine XL.m ?_
 refine XL.n2 ?_
 refine SP.block ?_
 refine SP.r2 ?_
 refine XL.eql_s rfl rfl rfl (fun e => ?_) (fun e => ?_)
 ·subst e
  refine XL.a ?_
  refine XL.n2 ?_
  refine SP.t ?_
  refine SP.region ?_
  refine XL.f ?_
  refine XL.l ?_
  refine XL.add_i64 rfl rfl (by omega) (by omega) rfl ?_
  refine XL.f ?_
  refine XL.store (by rfl) (by rfl) (by rfl) ?_
  refine XL.nil ?_
  refine Jp.block_normal ?_
  refine Jp.then_normal ?_
  refine SP.seq ?_
  refine SP.r2 ?_
  refine XL.lA ?_
  refine XL.cp rfl (Pur.t (c48 _ _ _) h2) rfl ?_
  refine XL.not_t rfl rfl ?_
  refine XL.n2 ?_
  refine SP.f ?_
  refine SP.skip ?_
  refine Jp.n4 ?_
  refine XL.lA ?_
  refine XL.sA ?_
  refine XL.a ?_
  refine XL.n2 ?_
  refine SP.ret ?_
  refine Jp.pur2 (.inr rfl) rfl (Res.cellA (by rfl)) rfl ?_
  rfl
 ·refine XL.a ?_
  refine XL.n2 ?_
  refine SP.f ?_
  refine SP.r2 ?_
  refine XL.eql_s rfl rfl rfl (fun e => ?_) (fun e => ?_)
  ·subst e
   refine XL.a ?_
   refine XL.n2 ?_
   refine SP.t ?_
   refine SP.region ?_
   refine XL.f ?_
   refine XL.l ?_
   refine XL.sub_i64 rfl rfl (by omega) (by omega) rfl ?_
   refine XL.f ?_
   refine XL.store (by rfl) (by rfl) (by rfl) ?_
   refine XL.nil ?_
   refine Jp.block_normal ?_
   refine Jp.then_normal ?_
   refine SP.seq ?_
   refine SP.r2 ?_
   refine XL.lA ?_
   refine XL.cp rfl (Pur.t (c48 _ _ _) h2) rfl ?_
   refine XL.not_t rfl rfl ?_
   refine XL.n2 ?_
   refine SP.f ?_
   refine SP.skip ?_
   refine Jp.n4 ?_
   refine XL.lA ?_
   refine XL.sA ?_
   refine XL.a ?_
   refine XL.n2 ?_
   refine SP.ret ?_
   refine Jp.pur2 (.inr rfl) rfl (Res.cellA (by rfl)) rfl ?_
   rfl
  ·refine XL.a ?_
   refine XL.n2 ?_
   refine SP.f ?_
   refine SP.r2 ?_
   refine XL.eql_s rfl rfl rfl (fun e => ?_) (fun e => ?_)
   ·subst e
    refine XL.a ?_
    refine XL.n2 ?_
    refine SP.t ?_
    refine SP.region ?_
    refine XL.f ?_
    refine XL.l ?_
    refine XL.add_i64 rfl rfl (by omega) (by omega) rfl ?_
    refine XL.f ?_
    refine XL.store (by rfl) (by rfl) (by rfl) ?_
    refine XL.nil ?_
    refine Jp.block_normal ?_
    refine Jp.then_normal ?_
    refine SP.seq ?_
    refine SP.r2 ?_
    refine XL.lA ?_
    refine XL.cp rfl (Pur.t (c48 _ _ _) h2) rfl ?_
    refine XL.not_t rfl rfl ?_
    refine XL.n2 ?_
    refine SP.f ?_
    refine SP.skip ?_
    refine Jp.n4 ?_
    refine XL.lA ?_
    refine XL.sA ?_
    refine XL.a ?_
    refine XL.n2 ?_
    refine SP.ret ?_
    refine Jp.pur2 (.inr rfl) rfl (Res.cellA (by rfl)) rfl ?_
    rfl
   ·refine XL.a ?_
    refine XL.n2 ?_
    refine SP.f ?_
    refine SP.r2 ?_
    refine XL.eql_s rfl rfl rfl (fun e => ?_) (fun e => ?_)
    ·subst e
     refine XL.a ?_
     refine XL.n2 ?_
     refine SP.t ?_
     refine SP.region ?_
     refine XL.f ?_
     refine XL.l ?_
     refine XL.sub_i64 rfl rfl (by omega) (by omega) rfl ?_
     refine XL.f ?_
     refine XL.store (by rfl) (by rfl) (by rfl) ?_
     refine XL.nil ?_
     refine Jp.block_normal ?_
     refine Jp.then_normal ?_
     refine SP.seq ?_
     refine SP.r2 ?_
     refine XL.lA ?_
     refine XL.cp rfl (Pur.t (c48 _ _ _) h2) rfl ?_
     refine XL.not_t rfl rfl ?_
     refine XL.n2 ?_
     refine SP.f ?_
     refine SP.skip ?_
     refine Jp.n4 ?_
     refine XL.lA ?_
     refine XL.sA ?_
     refine XL.a ?_
     refine XL.n2 ?_
     refine SP.ret ?_
     refine Jp.pur2 (.inr rfl) rfl (Res.cellA (by rfl)) rfl ?_
     rfl
    ·refine XL.a ?_
     refine XL.n2 ?_
     refine SP.f ?_
     refine SP.r2 ?_
     refine XL.eql_s rfl rfl rfl (fun e => ?_) (fun e => ?_)
     ·subst e
      refine XL.a ?_
      refine XL.n2 ?_
      refine SP.t ?_
      refine SP.region ?_
      refine XL.f ?_
      refine XL.l ?_
      refine XL.add_i64 rfl rfl (by omega) (by omega) rfl ?_
      refine XL.f ?_
      refine XL.store (by rfl) (by rfl) (by rfl) ?_
      refine XL.nil ?_
      refine Jp.block_normal ?_
      refine Jp.then_normal ?_
      refine SP.seq ?_
      refine SP.r2 ?_
      refine XL.lA ?_
      refine XL.cp rfl (Pur.t (c48 _ _ _) h2) rfl ?_
      refine XL.not_t rfl rfl ?_
      refine XL.n2 ?_
      refine SP.f ?_
      refine SP.skip ?_
      refine Jp.n4 ?_
      refine XL.lA ?_
      refine XL.sA ?_
      refine XL.a ?_
      refine XL.n2 ?_
      refine SP.ret ?_
      refine Jp.pur2 (.inr rfl) rfl (Res.cellA (by rfl)) rfl ?_
      rfl
     ·refine XL.a ?_
      refine XL.n2 ?_
      refine SP.f ?_
      refine SP.r2 ?_
      refine XL.eql_s rfl rfl rfl (fun e => ?_) (fun e => ?_)
      ·subst e
       refine XL.a ?_
       refine XL.n2 ?_
       refine SP.t ?_
       refine SP.region ?_
       refine XL.f ?_
       refine XL.l ?_
       refine XL.sub_i64 rfl rfl (by omega) (by omega) rfl ?_
       refine XL.f ?_
       refine XL.store (by rfl) (by rfl) (by rfl) ?_
       refine XL.nil ?_
       refine Jp.block_normal ?_
       refine Jp.then_normal ?_
       refine SP.seq ?_
       refine SP.r2 ?_
       refine XL.lA ?_
       refine XL.cp rfl (Pur.t (c48 _ _ _) h2) rfl ?_
       refine XL.not_t rfl rfl ?_
       refine XL.n2 ?_
       refine SP.f ?_
       refine SP.skip ?_
       refine Jp.n4 ?_
       refine XL.lA ?_
       refine XL.sA ?_
       refine XL.a ?_
       refine XL.n2 ?_
       refine SP.ret ?_
       refine Jp.pur2 (.inr rfl) rfl (Res.cellA (by rfl)) rfl ?_
       rfl
      ·exfalso; omega
theorem c_Step_f (x y z : Int) (d : Int) (d0 : 0 ≤ d) (d5 : d ≤ 5) (h : MayP x y z) (h2 : ¬ MayP (stx d x) (sty d y) (stz d z)) : Pur Tryz.prog 53 [.agg #[.int .i64 x, .int .i64 y, .int .i64 z], .int .i64 d] (.tuple #[.agg #[.int .i64 0, .int .i64 0, .int .i64 0], .bool false]) := by
 have h' := h
 unfold MayP at h'
 refine Pcalls (n := 53) Tryz.func53 rfl rfl rfl fun W0 H0 => ?_
 refine SP.r2 ?_
 refine XL.boxA rfl rfl (fun b1 => ?_)
 refine XL.alloc (by rfl) (fun b2 => ?_)
 refine XL.a ?_
 refine XL.n5 ?_
 refine SP.r2 ?_
 refine XL.lA ?_
 refine XL.cp rfl (Pur.t (c48 x y z) h) rfl ?_
 refine XL.not_t rfl rfl ?_
 refine XL.n2 ?_
 refine SP.f ?_
 refine SP.skip ?_
 refine Jp.then_normal ?_
 refine SP.seq ?_
 refine SP.r2 ?_
 refine XL.m ?_
 refine XL.n2 ?_
 refine SP.block ?_
 refine SP.r2 ?_
 refine XL.eql_s rfl rfl rfl (fun e => ?_) (fun e => ?_)
 ·subst e
  refine XL.a ?_
  refine XL.n2 ?_
  refine SP.t ?_
  refine SP.region ?_
  refine XL.f ?_
  refine XL.l ?_
  refine XL.add_i64 rfl rfl (by omega) (by omega) rfl ?_
  refine XL.f ?_
  refine XL.store (by rfl) (by rfl) (by rfl) ?_
  refine XL.nil ?_
  refine Jp.block_normal ?_
  refine Jp.then_normal ?_
  refine SP.seq ?_
  refine SP.r2 ?_
  refine XL.lA ?_
  refine XL.cp rfl (Pur.f (c48 _ _ _) h2) rfl ?_
  refine XL.not_f rfl rfl ?_
  refine XL.n2 ?_
  refine SP.t ?_
  refine SP.r2 ?_
  refine XL.build (by rfl) (by rfl) ?_
  refine XL.sA ?_
  refine XL.a ?_
  refine XL.n2 ?_
  refine SP.ret ?_
  refine Jp.then_ret ?_
  refine Jp.pur2 (.inr rfl) rfl (Res.cellA (by rfl)) rfl ?_
  rfl
 ·refine XL.a ?_
  refine XL.n2 ?_
  refine SP.f ?_
  refine SP.r2 ?_
  refine XL.eql_s rfl rfl rfl (fun e => ?_) (fun e => ?_)
  ·subst e
   refine XL.a ?_
   refine XL.n2 ?_
   refine SP.t ?_
   refine SP.region ?_
   refine XL.f ?_
   refine XL.l ?_
   refine XL.sub_i64 rfl rfl (by omega) (by omega) rfl ?_
   refine XL.f ?_
   refine XL.store (by rfl) (by rfl) (by rfl) ?_
   refine XL.nil ?_
   refine Jp.block_normal ?_
   refine Jp.then_normal ?_
   refine SP.seq ?_
   refine SP.r2 ?_
   refine XL.lA ?_
   refine XL.cp rfl (Pur.f (c48 _ _ _) h2) rfl ?_
   refine XL.not_f rfl rfl ?_
   refine XL.n2 ?_
   refine SP.t ?_
   refine SP.r2 ?_
   refine XL.build (by rfl) (by rfl) ?_
   refine XL.sA ?_
   refine XL.a ?_
   refine XL.n2 ?_
   refine SP.ret ?_
   refine Jp.then_ret ?_
   refine Jp.pur2 (.inr rfl) rfl (Res.cellA (by rfl)) rfl ?_
   rfl
  ·refine XL.a ?_
   refine XL.n2 ?_
   refine SP.f ?_
   refine SP.r2 ?_
   refine XL.eql_s rfl rfl rfl (fun e => ?_) (fun e => ?_)
   ·subst e
    refine XL.a ?_
    refine XL.n2 ?_
    refine SP.t ?_
    refine SP.region ?_
    refine XL.f ?_
    refine XL.l ?_
    refine XL.add_i64 rfl rfl (by omega) (by omega) rfl ?_
    refine XL.f ?_
    refine XL.store (by rfl) (by rfl) (by rfl) ?_
    refine XL.nil ?_
    refine Jp.block_normal ?_
    refine Jp.then_normal ?_
    refine SP.seq ?_
    refine SP.r2 ?_
    refine XL.lA ?_
    refine XL.cp rfl (Pur.f (c48 _ _ _) h2) rfl ?_
    refine XL.not_f rfl rfl ?_
    refine XL.n2 ?_
    refine SP.t ?_
    refine SP.r2 ?_
    refine XL.build (by rfl) (by rfl) ?_
    refine XL.sA ?_
    refine XL.a ?_
    refine XL.n2 ?_
    refine SP.ret ?_
    refine Jp.then_ret ?_
    refine Jp.pur2 (.inr rfl) rfl (Res.cellA (by rfl)) rfl ?_
    rfl
   ·refine XL.a ?_
    refine XL.n2 ?_
    refine SP.f ?_
    refine SP.r2 ?_
    refine XL.eql_s rfl rfl rfl (fun e => ?_) (fun e => ?_)
    ·subst e
     refine XL.a ?_
     refine XL.n2 ?_
     refine SP.t ?_
     refine SP.region ?_
     refine XL.f ?_
     refine XL.l ?_
     refine XL.sub_i64 rfl rfl (by omega) (by omega) rfl ?_
     refine XL.f ?_
     refine XL.store (by rfl) (by rfl) (by rfl) ?_
     refine XL.nil ?_
     refine Jp.block_normal ?_
     refine Jp.then_normal ?_
     refine SP.seq ?_
     refine SP.r2 ?_
     refine XL.lA ?_
     refine XL.cp rfl (Pur.f (c48 _ _ _) h2) rfl ?_
     refine XL.not_f rfl rfl ?_
     refine XL.n2 ?_
     refine SP.t ?_
     refine SP.r2 ?_
     refine XL.build (by rfl) (by rfl) ?_
     refine XL.sA ?_
     refine XL.a ?_
     refine XL.n2 ?_
     refine SP.ret ?_
     refine Jp.then_ret ?_
     refine Jp.pur2 (.inr rfl) rfl (Res.cellA (by rfl)) rfl ?_
     rfl
    ·refine XL.a ?_
     refine XL.n2 ?_
     refine SP.f ?_
     refine SP.r2 ?_
     refine XL.eql_s rfl rfl rfl (fun e => ?_) (fun e => ?_)
     ·subst e
      refine XL.a ?_
      refine XL.n2 ?_
      refine SP.t ?_
      refine SP.region ?_
      refine XL.f ?_
      refine XL.l ?_
      refine XL.add_i64 rfl rfl (by omega) (by omega) rfl ?_
      refine XL.f ?_
      refine XL.store (by rfl) (by rfl) (by rfl) ?_
      refine XL.nil ?_
      refine Jp.block_normal ?_
      refine Jp.then_normal ?_
      refine SP.seq ?_
      refine SP.r2 ?_
      refine XL.lA ?_
      refine XL.cp rfl (Pur.f (c48 _ _ _) h2) rfl ?_
      refine XL.not_f rfl rfl ?_
      refine XL.n2 ?_
      refine SP.t ?_
      refine SP.r2 ?_
      refine XL.build (by rfl) (by rfl) ?_
      refine XL.sA ?_
      refine XL.a ?_
      refine XL.n2 ?_
      refine SP.ret ?_
      refine Jp.then_ret ?_
      refine Jp.pur2 (.inr rfl) rfl (Res.cellA (by rfl)) rfl ?_
      rfl
     ·refine XL.a ?_
      refine XL.n2 ?_
      refine SP.f ?_
      refine SP.r2 ?_
      refine XL.eql_s rfl rfl rfl (fun e => ?_) (fun e => ?_)
      ·subst e
       refine XL.a ?_
       refine XL.n2 ?_
       refine SP.t ?_
       refine SP.region ?_
       refine XL.f ?_
       refine XL.l ?_
       refine XL.sub_i64 rfl rfl (by omega) (by omega) rfl ?_
       refine XL.f ?_
       refine XL.store (by rfl) (by rfl) (by rfl) ?_
       refine XL.nil ?_
       refine Jp.block_normal ?_
       refine Jp.then_normal ?_
       refine SP.seq ?_
       refine SP.r2 ?_
       refine XL.lA ?_
       refine XL.cp rfl (Pur.f (c48 _ _ _) h2) rfl ?_
       refine XL.not_f rfl rfl ?_
       refine XL.n2 ?_
       refine SP.t ?_
       refine SP.r2 ?_
       refine XL.build (by rfl) (by rfl) ?_
       refine XL.sA ?_
       refine XL.a ?_
       refine XL.n2 ?_
       refine SP.ret ?_
       refine Jp.then_ret ?_
       refine Jp.pur2 (.inr rfl) rfl (Res.cellA (by rfl)) rfl ?_
       rfl
      ·exfalso; omega
theorem c_Of_t (x y z : Int) (i : Int) (i0 : 0 ≤ i) (i1 : i < 4096) (h : MayS x y z) : Pur Tryz.prog 87 [.agg #[.int .i64 x, .int .i64 y, .int .i64 z], .int .i64 i] (.tuple #[.agg #[.int .i64 (x * 16 + i % 16), .int .i64 (y * 16 + i / 256), .int .i64 (z * 16 + i / 16 % 16)], .bool true]) := by
 have h' := h
 unfold MayS at h'
 refine Pcalls (n := 38) Tryz.func87 rfl rfl rfl fun W0 H0 => ?_
 refine SP.r2 ?_
 refine XL.boxA rfl rfl (fun b1 => ?_)
 refine XL.alloc (by rfl) (fun b2 => ?_)
 refine XL.a ?_
 refine XL.n5 ?_
 refine SP.r2 ?_
 refine XL.lA ?_
 refine XL.cp rfl (Pur.t (c43 x y z) h) rfl ?_
 refine XL.not_t rfl rfl ?_
 refine XL.m ?_
 refine XL.g ?_
 refine XL.m ?_
 refine XL.g ?_
 refine XL.lss_f rfl rfl (by omega) rfl ?_
 refine XL.pick_f rfl rfl rfl ?_
 refine XL.m ?_
 refine XL.g ?_
 refine XL.m ?_
 refine XL.g ?_
 refine XL.geq_f rfl rfl (by omega) rfl ?_
 refine XL.pick_f rfl rfl rfl ?_
 refine XL.n2 ?_
 refine SP.f ?_
 refine SP.skip ?_
 refine Jp.n4 ?_
 refine XL.f ?_
 refine XL.l ?_
 refine XL.shl (r := x * 16) rfl rfl (by decide) (wrap64_of (by show _ ≤ _ * (16 : Int); omega) (by show _ * (16 : Int) ≤ _; omega)) rfl ?_
 refine XL.m ?_
 refine XL.and rfl rfl (mask64 4 (by decide) _ (by decide)) rfl ?_
 refine XL.add_i64 rfl rfl (by omega) (by omega) rfl ?_
 refine XL.f ?_
 refine XL.l ?_
 refine XL.shl (r := y * 16) rfl rfl (by decide) (wrap64_of (by show _ ≤ _ * (16 : Int); omega) (by show _ * (16 : Int) ≤ _; omega)) rfl ?_
 refine XL.m ?_
 refine XL.shr rfl rfl (by decide) (fdiv_of (m := 256) rfl (by decide)) rfl ?_
 refine XL.add_i64 rfl rfl (by omega) (by omega) rfl ?_
 refine XL.f ?_
 refine XL.l ?_
 refine XL.shl (r := z * 16) rfl rfl (by decide) (wrap64_of (by show _ ≤ _ * (16 : Int); omega) (by show _ * (16 : Int) ≤ _; omega)) rfl ?_
 refine XL.m ?_
 refine XL.shr rfl rfl (by decide) (fdiv_of (m := 16) rfl (by decide)) rfl ?_
 refine XL.and rfl rfl (mask64 4 (by decide) _ (by decide)) rfl ?_
 refine XL.add_i64 rfl rfl (by omega) (by omega) rfl ?_
 refine XL.build (by rfl) (by rfl) ?_
 refine XL.sA ?_
 refine XL.a ?_
 refine XL.n2 ?_
 refine SP.ret ?_
 refine Jp.pur2 (.inr rfl) rfl (Res.cellA (by rfl)) rfl ?_
 rfl
end Go.Proofs

namespace Go.Proofs
open Go.Bk
def landK (y : Int) : Int := if y = 0 then 1 else if 15 < y then 0 else if 11 < y then 3 else 2
def landAt (y : Int) : C2 := ⟨landK y, 0⟩
def landLit (y : Int) : C2 := ⟨if 15 < y then 15 else 0, 0⟩
def mixC (f : Int → C2) (sy : Int) (i : Nat) : List C2 := (List.range 4096).map fun j => if j < i then f (sy * 16 + (j : Int) / 256) else ⟨0, 0⟩
def chA (sy : Int) (i j : Nat) : Ch := ⟨mixC landAt sy i, mixC landLit sy j, .slice none 0 0, []⟩
def landCh (sy : Int) : Ch := chA sy 4096 4096
theorem landK_bd (y : Int) : 0 ≤ landK y ∧ landK y ≤ 3 := by unfold landK; repeat' split <;> omega
theorem mixC_len (f : Int → C2) (sy : Int) (i : Nat) : (mixC f sy i).length = 4096 := by simp [mixC]
theorem mixC_set (f : Int → C2) (sy : Int) (i : Nat) (h : i < 4096) : (mixC f sy i).set i (f (sy * 16 + (i : Int) / 256)) = mixC f sy (i + 1) := by
 apply List.ext_getElem?
 intro j
 unfold mixC
 rw [List.getElem?_set]
 by_cases e : i = j
 ·subst e; simp [h]
 ·rw [if_neg e]
  by_cases hj : j < 4096
  ·simp [hj]
   by_cases g : j < i
   ·simp [g, show j < i + 1 by omega]
   ·simp [g, show ¬ j < i + 1 by omega]
  ·rw [List.getElem?_eq_none (by simp; omega), List.getElem?_eq_none (by simp; omega)]
theorem mixC_mem (f : Int → C2) (sy : Int) (i : Nat) (x : C2) (hx : x ∈ mixC f sy i) : x = ⟨0, 0⟩ ∨ ∃ y, x = f y := by
 unfold mixC at hx
 rw [List.mem_map] at hx
 obtain ⟨k, _, rfl⟩ := hx
 split
 ·exact .inr ⟨_, rfl⟩
 ·exact .inl rfl
theorem mixC_zero (f : Int → C2) (sy : Int) : mixC f sy 0 = List.replicate 4096 ⟨0, 0⟩ := by simp [mixC, List.map_const']
attribute [irreducible] mixC
theorem chA_ok (sy : Int) (i j : Nat) : (chA sy i j).Ok where
 nc := mixC_len _ _ _
 nl := mixC_len _ _ _
 sc := rfl
 rc := by
  intro x hx
  rcases mixC_mem landAt sy i x hx with rfl | ⟨y, rfl⟩
  ·simp
  ·have := landK_bd y; simp [landAt]; omega
 rl := by
  intro x hx
  rcases mixC_mem landLit sy j x hx with rfl | ⟨y, rfl⟩
  ·simp
  ·simp only [landLit]; split <;> simp
theorem chA_cell (sy : Int) (i j : Nat) (h : i < 4096) : StL (chA sy i j).cs (i * 2) (landAt (sy * 16 + (i : Int) / 256)).cs (chA sy (i + 1) j).cs := by
 have := Ch.cell_set (chA_ok sy i j) (landAt (sy * 16 + (i : Int) / 256)) h (off := i * 2) rfl
 have e : ({ chA sy i j with cells := (chA sy i j).cells.set i (landAt (sy * 16 + (i : Int) / 256)) } : Ch) = chA sy (i + 1) j := by
  unfold chA; simp only [mixC_set _ sy i h]
 rwa [e] at this
theorem chA_light (sy : Int) (i j : Nat) (h : j < 4096) : StL (chA sy i j).cs (8192 + j * 2) (landLit (sy * 16 + (j : Int) / 256)).cs (chA sy i (j + 1)).cs := by
 have := Ch.light_set (chA_ok sy i j) (landLit (sy * 16 + (j : Int) / 256)) h (off := 8192 + j * 2) rfl
 have e : ({ chA sy i j with lights := (chA sy i j).lights.set j (landLit (sy * 16 + (j : Int) / 256)) } : Ch) = chA sy i (j + 1) := by
  unfold chA; simp only [mixC_set _ sy j h]
 rwa [e] at this
theorem chA_zero (sy : Int) : (chA sy 0 0).cs = List.replicate 16384 (.int .u8 0) ++ [.slice none 0 0] := by
 have hm := fun f => mixC_zero f sy
 have hf : ∀ m, (List.replicate m (⟨0, 0⟩ : C2)).flatMap C2.cs = List.replicate (2 * m) (.int .u8 0) := fun m => by
  induction m with
  | zero => rfl
  | succ m ih => rw [List.replicate_succ, List.flatMap_cons, ih, show 2 * (m + 1) = 2 * m + 1 + 1 by omega, List.replicate_succ, List.replicate_succ]; rfl
 unfold Ch.cs chA
 simp only [hm, hf]
 rw [← List.append_assoc, List.replicate_append_replicate]
theorem c45 (y : Int) : Pur Tryz.prog 45 [.int .i64 y] (.agg #[.int .u8 (landK y), .int .u8 0]) := by
 refine Pcalls (n := 19) Tryz.func45 rfl rfl rfl fun W0 H0 => ?_
 refine SP.r2 ?_
 refine XL.alloc (by rfl) (fun b1 => ?_)
 refine XL.n4 ?_
 refine XL.build (by rfl) (by rfl) ?_
 refine XL.alloc (by rfl) (fun b2 => ?_)
 refine XL.sA ?_
 refine XL.n5 ?_
 refine SP.block ?_
 refine SP.seq ?_
 refine SP.block ?_
 refine SP.seq ?_
 refine SP.block ?_
 refine SP.seq ?_
 refine SP.block ?_
 refine SP.seq ?_
 refine SP.block ?_
 refine SP.seq ?_
 refine SP.seq ?_
 refine SP.r2 ?_
 refine XL.m ?_
 refine XL.eql_s rfl rfl rfl (fun g0 => ?_) (fun g0 => ?_)
 ·refine XL.a ?_
  refine XL.n2 ?_
  refine SP.t ?_
  refine SP.exit ?_
  refine Jp.then_exit ?_
  refine Jp.then_exit ?_
  refine Jp.block_here ?_
  refine Jp.n4 ?_
  refine XL.f ?_
  refine XL.store (by rfl) (by rfl) (by rfl) ?_
  refine XL.n2 ?_
  refine SP.exit ?_
  refine Jp.block_there rfl ?_
  refine Jp.then_exit ?_
  refine Jp.block_there rfl ?_
  refine Jp.then_exit ?_
  refine Jp.block_there rfl ?_
  refine Jp.then_exit ?_
  refine Jp.block_here ?_
  refine Jp.n4 ?_
  refine XL.lA ?_
  refine XL.sA ?_
  refine XL.n2 ?_
  refine SP.ret ?_
  refine Jp.purc (.inr rfl) rfl (Res.cellA (by rfl)) ?_
  unfold landK
  first | (rw [if_pos g0]) | (rw [if_neg g0, if_pos g1]) | (rw [if_neg g0, if_neg g1, if_pos g2]) | (rw [if_neg g0, if_neg g1, if_neg g2])
 ·refine XL.a ?_
  refine XL.n2 ?_
  refine SP.f ?_
  refine SP.skip ?_
  refine Jp.then_normal ?_
  refine SP.seq ?_
  refine SP.r2 ?_
  refine XL.m ?_
  refine XL.gtr_s rfl rfl rfl (fun g1 => ?_) (fun g1 => ?_)
  ·refine XL.a ?_
   refine XL.n2 ?_
   refine SP.t ?_
   refine SP.exit ?_
   refine Jp.then_exit ?_
   refine Jp.then_exit ?_
   refine Jp.block_there rfl ?_
   refine Jp.then_exit ?_
   refine Jp.block_here ?_
   refine Jp.n4 ?_
   refine XL.f ?_
   refine XL.store (by rfl) (by rfl) (by rfl) ?_
   refine XL.n2 ?_
   refine SP.exit ?_
   refine Jp.block_there rfl ?_
   refine Jp.then_exit ?_
   refine Jp.block_there rfl ?_
   refine Jp.then_exit ?_
   refine Jp.block_here ?_
   refine Jp.n4 ?_
   refine XL.lA ?_
   refine XL.sA ?_
   refine XL.n2 ?_
   refine SP.ret ?_
   refine Jp.purc (.inr rfl) rfl (Res.cellA (by rfl)) ?_
   unfold landK
   first | (rw [if_pos g0]) | (rw [if_neg g0, if_pos g1]) | (rw [if_neg g0, if_neg g1, if_pos g2]) | (rw [if_neg g0, if_neg g1, if_neg g2])
  ·refine XL.a ?_
   refine XL.n2 ?_
   refine SP.f ?_
   refine SP.skip ?_
   refine Jp.n4 ?_
   refine XL.m ?_
   refine XL.gtr_s rfl rfl rfl (fun g2 => ?_) (fun g2 => ?_)
   ·refine XL.a ?_
    refine XL.n2 ?_
    refine SP.t ?_
    refine SP.exit ?_
    refine Jp.then_exit ?_
    refine Jp.block_there rfl ?_
    refine Jp.then_exit ?_
    refine Jp.block_there rfl ?_
    refine Jp.then_exit ?_
    refine Jp.block_here ?_
    refine Jp.then_normal ?_
    refine SP.region ?_
    refine XL.f ?_
    refine XL.store (by rfl) (by rfl) (by rfl) ?_
    refine XL.nil ?_
    refine Jp.block_normal ?_
    refine Jp.n4 ?_
    refine XL.f ?_
    refine XL.store (by rfl) (by rfl) (by rfl) ?_
    refine XL.n2 ?_
    refine SP.exit ?_
    refine Jp.block_here ?_
    refine Jp.n4 ?_
    refine XL.lA ?_
    refine XL.sA ?_
    refine XL.n2 ?_
    refine SP.ret ?_
    refine Jp.purc (.inr rfl) rfl (Res.cellA (by rfl)) ?_
    unfold landK
    first | (rw [if_pos g0]) | (rw [if_neg g0, if_pos g1]) | (rw [if_neg g0, if_neg g1, if_pos g2]) | (rw [if_neg g0, if_neg g1, if_neg g2])
   ·refine XL.a ?_
    refine XL.n2 ?_
    refine SP.f ?_
    refine SP.skip ?_
    refine Jp.then_normal ?_
    refine SP.exit ?_
    refine Jp.block_there rfl ?_
    refine Jp.then_exit ?_
    refine Jp.block_there rfl ?_
    refine Jp.then_exit ?_
    refine Jp.block_there rfl ?_
    refine Jp.then_exit ?_
    refine Jp.block_here ?_
    refine Jp.n4 ?_
    refine XL.f ?_
    refine XL.store (by rfl) (by rfl) (by rfl) ?_
    refine XL.n2 ?_
    refine SP.exit ?_
    refine Jp.block_here ?_
    refine Jp.n4 ?_
    refine XL.lA ?_
    refine XL.sA ?_
    refine XL.n2 ?_
    refine SP.ret ?_
    refine Jp.purc (.inr rfl) rfl (Res.cellA (by rfl)) ?_
    unfold landK
    first | (rw [if_pos g0]) | (rw [if_neg g0, if_pos g1]) | (rw [if_neg g0, if_neg g1, if_pos g2]) | (rw [if_neg g0, if_neg g1, if_neg g2])
theorem c46 (y : Int) : Pur Tryz.prog 46 [.int .i64 y] (.agg #[.int .u8 (landLit y).a, .int .u8 0]) := by
 refine Pcalls (n := 7) Tryz.func46 rfl rfl rfl fun W0 H0 => ?_
 refine SP.r2 ?_
 refine XL.alloc (by rfl) (fun b1 => ?_)
 refine XL.n5 ?_
 refine SP.r2 ?_
 refine XL.m ?_
 refine XL.gtr_s rfl rfl rfl (fun g0 => ?_) (fun g0 => ?_)
 ·refine XL.n2 ?_
  refine SP.t ?_
  refine SP.r2 ?_
  refine XL.build (by rfl) (by rfl) ?_
  refine XL.sA ?_
  refine XL.n2 ?_
  refine SP.ret ?_
  refine Jp.then_ret ?_
  refine Jp.purc (.inr rfl) rfl (Res.cellA (by rfl)) ?_
  simp [landLit, g0]
 ·refine XL.n2 ?_
  refine SP.f ?_
  refine SP.skip ?_
  refine Jp.n4 ?_
  refine XL.build (by rfl) (by rfl) ?_
  refine XL.sA ?_
  refine XL.n2 ?_
  refine SP.ret ?_
  refine Jp.purc (.inr rfl) rfl (Res.cellA (by rfl)) ?_
  simp [landLit, g0]
theorem c_Cell_t (x y z : Int) (h : MayP x y z) : Pur Tryz.prog 189 [.agg #[.int .i64 x, .int .i64 y, .int .i64 z]] (.agg #[.int .u8 (landK y), .int .u8 0]) := by
 refine Pcalls (n := 10) Tryz.func189 rfl rfl rfl fun W0 H0 => ?_
 refine SP.r2 ?_
 refine XL.boxA rfl rfl (fun b1 => ?_)
 refine XL.alloc (by rfl) (fun b2 => ?_)
 refine XL.n5 ?_
 refine SP.r2 ?_
 refine XL.lA ?_
 refine XL.cp rfl (Pur.t (c48 x y z) h) rfl ?_
 refine XL.not_t rfl rfl ?_
 refine XL.n2 ?_
 refine SP.f ?_
 refine SP.skip ?_
 refine Jp.n4 ?_
 refine XL.f ?_
 refine XL.l ?_
 refine XL.cp rfl (c45 _) rfl ?_
 refine XL.sA ?_
 refine XL.n2 ?_
 refine SP.ret ?_
 refine Jp.purc (.inr rfl) rfl (Res.cellA (by rfl)) rfl
theorem c_Light_t (x y z : Int) (h : MayP x y z) : Pur Tryz.prog 192 [.agg #[.int .i64 x, .int .i64 y, .int .i64 z]] (.agg #[.int .u8 (landLit y).a, .int .u8 0]) := by
 refine Pcalls (n := 10) Tryz.func192 rfl rfl rfl fun W0 H0 => ?_
 refine SP.r2 ?_
 refine XL.boxA rfl rfl (fun b1 => ?_)
 refine XL.alloc (by rfl) (fun b2 => ?_)
 refine XL.n5 ?_
 refine SP.r2 ?_
 refine XL.lA ?_
 refine XL.cp rfl (Pur.t (c48 x y z) h) rfl ?_
 refine XL.not_t rfl rfl ?_
 refine XL.n2 ?_
 refine SP.f ?_
 refine SP.skip ?_
 refine Jp.n4 ?_
 refine XL.f ?_
 refine XL.l ?_
 refine XL.cp rfl (c46 _) rfl ?_
 refine XL.sA ?_
 refine XL.n2 ?_
 refine SP.ret ?_
 refine Jp.purc (.inr rfl) rfl (Res.cellA (by rfl)) rfl
theorem c44 (sy : Int) : Tri Tryz.prog 44 [] [] (fun v Γ' => ∃ b, v = .pointer (some ⟨b, 0, none⟩) ∧ Γ' = [pt b (cel (chA sy 0 0).cs 80)]) := by
 refine Pcalls (n := 2) Tryz.func44 rfl rfl rfl fun W0 H0 => ?_
 refine SP.r2 ?_
 refine XL.a ?_
 refine XL.n4 ?_
 refine XL.alloc (by rfl) (fun b1 => ?_)
 refine XL.a ?_
 refine XL.n2 ?_
 refine SP.ret ?_
 refine Jp.end1 (.inr rfl) rfl rfl ⟨_, rfl, ?_⟩
 rw [chA_zero]
theorem c_Chunk_t (x y z : Int) (h : MayS x y z) : Tri Tryz.prog 25 [.agg #[.int .i64 x, .int .i64 y, .int .i64 z]] [] (fun v Γ' => ∃ b, v = .tuple #[.pointer (some ⟨b, 0, none⟩), .bool true] ∧ Γ' = [pt b (cel (landCh y).cs 80)]) := by
 have h' := h
 unfold MayS at h'
 refine Pcalls (n := 36) Tryz.func25 rfl rfl rfl fun W0 H0 => ?_
 refine SP.r2 ?_
 refine XL.boxA rfl rfl (fun b1 => ?_)
 refine XL.a ?_
 refine XL.a ?_
 refine XL.n5 ?_
 refine SP.r2 ?_
 refine XL.lA ?_
 refine XL.cp rfl (Pur.t (c43 x y z) h) rfl ?_
 refine XL.not_t rfl rfl ?_
 refine XL.n2 ?_
 refine SP.f ?_
 refine SP.skip ?_
 refine Jp.n4 ?_
 refine XL.cw rfl (c44 y) (Pk.nil _) rfl ?_
 rintro _ _ ⟨b2, rfl, rfl⟩
 refine XL.a ?_
 refine XL.n5 ?_
 refine SP.r2 ?_
 refine XL.m ?_
 refine XL.n2 ?_
 refine SP.block ?_
 refine SP.loop (X := Nat) (fun i => [(11, .int .i64 (i : Int)), (1, .pointer (some ⟨b1, 0, none⟩)), (4, .pointer (some ⟨b2, 0, none⟩))]) (fun i => [pt b2 (cel (chA y i i).cs 80), pt b1 (cel [.int .i64 x, .int .i64 y, .int .i64 z] 34)]) (fun i => i ≤ 4096) (fun i => 4096 - i) 0 (by omega) (by repeat' constructor) (Pk.drop (by repeat' constructor)) ?_
 rintro i hi
 refine SP.r2 ?_
 refine XL.lss_s rfl rfl rfl (fun h1 => ?_) (fun h1 => ?_)
 ·refine XL.n5 ?_
  refine SP.t ?_
  refine SP.skip ?_
  refine Jp.then_normal ?_
  refine SP.seq ?_
  refine SP.block ?_
  refine SP.r2 ?_
  refine XL.m ?_
  refine XL.a ?_
  refine XL.n4 ?_
  refine XL.f ?_
  refine XL.l ?_
  refine XL.mul_i64 rfl rfl (by omega) (by omega) rfl ?_
  refine XL.m ?_
  refine XL.quo (r := _ / 256) rfl rfl (by decide) (quo64 (by omega) (by omega) (by decide)) rfl ?_
  refine XL.add_i64 rfl rfl (by omega) (by omega) rfl ?_
  refine XL.a ?_
  refine XL.n5 ?_
  refine SP.tail 7 Tryz.fol (by kernel_rfl) ?_
  refine XL.m ?_
  refine XL.m ?_
  refine XL.m ?_
  refine XL.cp rfl (c45 _) rfl ?_
  refine XL.nilCheck rfl rfl ?_
  refine XL.f ?_
  refine XL.indexArr (r := i * 2) rfl rfl (by omega) (by omega) (by simp) rfl ?_
  refine XL.nilq_tail ?_
  refine XL.storeA (hs := chA_cell y i i (by omega)) (by rfl) (by rfl) (by rfl) (by rfl) ?_
  refine XL.n2 ?_
  refine SP.tail 7 Tryz.fol (by kernel_rfl) ?_
  refine XL.m ?_
  refine XL.m ?_
  refine XL.m ?_
  refine XL.cp rfl (c46 _) rfl ?_
  refine XL.nilCheck rfl rfl ?_
  refine XL.f ?_
  refine XL.indexArr (r := 8192 + i * 2) rfl rfl (by omega) (by omega) (by simp) rfl ?_
  refine XL.nilq_tail ?_
  refine XL.storeA (hs := chA_light y (i + 1) i (by omega)) (by rfl) (by rfl) (by rfl) (by rfl) ?_
  refine XL.nil ?_
  refine Jp.block_normal ?_
  refine Jp.then_normal ?_
  refine SP.region ?_
  refine XL.add_i64 rfl rfl (by omega) (by omega) rfl ?_
  refine XL.m ?_
  refine XL.nil ?_
  refine Jp.rd (i + 1) (by omega) (by omega)
 ·refine XL.n5 ?_
  refine SP.f ?_
  refine SP.exit ?_
  refine Jp.then_exit ?_
  refine Jp.then_exit ?_
  refine Jp.block_here ?_
  refine Jp.n4 ?_
  refine XL.m ?_
  refine XL.a ?_
  refine XL.a ?_
  refine XL.n2 ?_
  refine SP.ret ?_
  obtain rfl : i = 4096 := by omega
  refine Jp.go (Pk.drop (Γ1 := [pt b2 (cel (chA y 4096 4096).cs 80)]) (by repeat' constructor)) (Jp.end2 (.inr rfl) rfl rfl rfl ⟨b2, rfl, rfl⟩)
end Go.Proofs

namespace Go.Proofs
open Go.Bk
def cmpI (a b : Int) : Int := if a < b then -1 else if b < a then 1 else 0
def orI : List Int → Int
 | [] => 0
 | x :: l => if x = 0 then orI l else x
theorem orI_zero {l : List Int} (h : ∀ x ∈ l, x = 0) : orI l = 0 := by
 induction l with
 | nil => rfl
 | cons x l ih => simp only [orI]; rw [if_pos (h x (by simp)), ih fun y hy => h y (by simp [hy])]
theorem orI_at {l : List Int} {i : Nat} {x : Int} (h : l[i]? = some x) (hx : x ≠ 0) (hb : ∀ j, j < i → ∀ y, l[j]? = some y → y = 0) : orI l = x := by
 induction l generalizing i with
 | nil => simp at h
 | cons y l ih =>
  cases i with
  | zero => simp at h; subst h; simp [orI, hx]
  | succ i =>
   have := hb 0 (by omega) y rfl
   simp only [orI]; rw [if_pos this]
   exact ih (by simpa using h) fun j hj z hz => hb (j + 1) (by omega) z (by simpa using hz)
def ints (l : List Int) : List Value := l.map fun x => .int .i64 x
theorem ints_at {l : List Int} {i : Nat} {x : Int} (h : l[i]? = some x) : GtL (ints l) i (.int .i64 x) := ⟨by simp [ints, h]⟩
theorem c207 (x : Int) : Pur Tryz.prog 207 [.int .i64 x] (.bool false) := by
 refine Pcalls (n := 6) Tryz.func207 rfl rfl rfl fun W0 H0 => ?_
 refine SP.r2 ?_
 refine XL.a ?_
 refine XL.n4 ?_
 refine XL.m ?_
 refine XL.m ?_
 refine XL.neq_f rfl rfl rfl rfl ?_
 refine XL.a ?_
 refine XL.n2 ?_
 refine SP.ret ?_
 refine Jp.pur1 (.inr rfl) rfl rfl rfl
theorem c95 (x : Int) : Pur Tryz.prog 95 [.int .i64 x] (.bool false) := by
 refine Pcalls (n := 6) Tryz.func95 rfl rfl rfl fun W0 H0 => ?_
 refine SP.r2 ?_
 refine XL.a ?_
 refine XL.n4 ?_
 refine XL.m ?_
 refine XL.m ?_
 refine XL.neq_f rfl rfl rfl rfl ?_
 refine XL.a ?_
 refine XL.n2 ?_
 refine SP.ret ?_
 refine Jp.pur1 (.inr rfl) rfl rfl rfl
theorem c201 (a b : Int) : Pur Tryz.prog 201 [.int .i64 a, .int .i64 b] (.int .i64 (cmpI a b)) := by
 refine Pcalls (n := 20) Tryz.func201 rfl rfl rfl fun W0 H0 => ?_
 refine SP.r2 ?_
 refine XL.a ?_
 refine XL.n4 ?_
 refine XL.m ?_
 refine XL.cp rfl (c207 _) rfl ?_
 refine XL.a ?_
 refine XL.n4 ?_
 refine XL.m ?_
 refine XL.cp rfl (c207 _) rfl ?_
 refine XL.a ?_
 refine XL.n5 ?_
 refine SP.r2 ?_
 refine XL.m ?_
 refine XL.n2 ?_
 refine SP.f ?_
 refine SP.skip ?_
 refine Jp.then_normal ?_
 refine SP.seq ?_
 refine SP.r2 ?_
 refine XL.m ?_
 refine XL.n2 ?_
 refine SP.f ?_
 refine SP.skip ?_
 refine Jp.then_normal ?_
 refine SP.seq ?_
 refine SP.r2 ?_
 refine XL.m ?_
 refine XL.m ?_
 refine XL.lss_s rfl rfl rfl (fun g0 => ?_) (fun g0 => ?_)
 ·refine XL.n2 ?_
  refine SP.t ?_
  refine SP.r2 ?_
  refine XL.a ?_
  refine XL.n2 ?_
  refine SP.ret ?_
  refine Jp.then_ret ?_
  refine Jp.pur1 (.inr rfl) rfl rfl ?_
  unfold cmpI
  first | (rw [if_pos g0]) | (rw [if_neg g0, if_pos g1]) | (rw [if_neg g0, if_neg g1])
 ·refine XL.n2 ?_
  refine SP.f ?_
  refine SP.skip ?_
  refine Jp.then_normal ?_
  refine SP.seq ?_
  refine SP.r2 ?_
  refine XL.m ?_
  refine XL.m ?_
  refine XL.gtr_s rfl rfl rfl (fun g1 => ?_) (fun g1 => ?_)
  ·refine XL.n2 ?_
   refine SP.t ?_
   refine SP.r2 ?_
   refine XL.a ?_
   refine XL.n2 ?_
   refine SP.ret ?_
   refine Jp.then_ret ?_
   refine Jp.pur1 (.inr rfl) rfl rfl ?_
   unfold cmpI
   first | (rw [if_pos g0]) | (rw [if_neg g0, if_pos g1]) | (rw [if_neg g0, if_neg g1])
  ·refine XL.n2 ?_
   refine SP.f ?_
   refine SP.skip ?_
   refine Jp.n4 ?_
   refine XL.a ?_
   refine XL.n2 ?_
   refine SP.ret ?_
   refine Jp.pur1 (.inr rfl) rfl rfl ?_
   unfold cmpI
   first | (rw [if_pos g0]) | (rw [if_neg g0, if_pos g1]) | (rw [if_neg g0, if_neg g1])
theorem c74 (a b : Int) : Pur Tryz.prog 74 [.int .i64 a, .int .i64 b] (.int .i64 (cmpI a b)) := by
 refine Pcalls (n := 20) Tryz.func74 rfl rfl rfl fun W0 H0 => ?_
 refine SP.r2 ?_
 refine XL.a ?_
 refine XL.n4 ?_
 refine XL.m ?_
 refine XL.cp rfl (c95 _) rfl ?_
 refine XL.a ?_
 refine XL.n4 ?_
 refine XL.m ?_
 refine XL.cp rfl (c95 _) rfl ?_
 refine XL.a ?_
 refine XL.n5 ?_
 refine SP.r2 ?_
 refine XL.m ?_
 refine XL.n2 ?_
 refine SP.f ?_
 refine SP.skip ?_
 refine Jp.then_normal ?_
 refine SP.seq ?_
 refine SP.r2 ?_
 refine XL.m ?_
 refine XL.n2 ?_
 refine SP.f ?_
 refine SP.skip ?_
 refine Jp.then_normal ?_
 refine SP.seq ?_
 refine SP.r2 ?_
 refine XL.m ?_
 refine XL.m ?_
 refine XL.lss_s rfl rfl rfl (fun g0 => ?_) (fun g0 => ?_)
 ·refine XL.n2 ?_
  refine SP.t ?_
  refine SP.r2 ?_
  refine XL.a ?_
  refine XL.n2 ?_
  refine SP.ret ?_
  refine Jp.then_ret ?_
  refine Jp.pur1 (.inr rfl) rfl rfl ?_
  unfold cmpI
  first | (rw [if_pos g0]) | (rw [if_neg g0, if_pos g1]) | (rw [if_neg g0, if_neg g1])
 ·refine XL.n2 ?_
  refine SP.f ?_
  refine SP.skip ?_
  refine Jp.then_normal ?_
  refine SP.seq ?_
  refine SP.r2 ?_
  refine XL.m ?_
  refine XL.m ?_
  refine XL.gtr_s rfl rfl rfl (fun g1 => ?_) (fun g1 => ?_)
  ·refine XL.n2 ?_
   refine SP.t ?_
   refine SP.r2 ?_
   refine XL.a ?_
   refine XL.n2 ?_
   refine SP.ret ?_
   refine Jp.then_ret ?_
   refine Jp.pur1 (.inr rfl) rfl rfl ?_
   unfold cmpI
   first | (rw [if_pos g0]) | (rw [if_neg g0, if_pos g1]) | (rw [if_neg g0, if_neg g1])
  ·refine XL.n2 ?_
   refine SP.f ?_
   refine SP.skip ?_
   refine Jp.n4 ?_
   refine XL.a ?_
   refine XL.n2 ?_
   refine SP.ret ?_
   refine Jp.pur1 (.inr rfl) rfl rfl ?_
   unfold cmpI
   first | (rw [if_pos g0]) | (rw [if_neg g0, if_pos g1]) | (rw [if_neg g0, if_neg g1])
theorem c73 (l : List Int) (b : Nat) (hl : l.length < 1000) : Tri Tryz.prog 73 [.slice (some ⟨b, 0, none⟩) l.length l.length] [pt b (cel (ints l) 3)] (fun v Γ' => v = .int .i64 (orI l) ∧ Γ' = [pt b (cel (ints l) 3)]) := by
 refine Pcalls (n := 18) Tryz.func73 rfl rfl rfl fun W0 H0 => ?_
 refine SP.r2 ?_
 refine XL.a ?_
 refine XL.n4 ?_
 refine XL.a ?_
 refine XL.n5 ?_
 refine SP.r2 ?_
 refine XL.m ?_
 refine XL.len (by rfl) (by rfl) ?_
 refine XL.m ?_
 refine XL.n2 ?_
 refine SP.block ?_
 refine SP.loop (X := Nat) (fun i => [(8, .int .i64 (i : Int)), (7, .int .i64 (l.length : Int)), (6, .slice (some ⟨b, 0, none⟩) l.length l.length), (3, .int .i64 0)]) (fun i => [pt b (cel (ints l) 3)]) (fun i => i ≤ l.length ∧ ∀ j, j < i → ∀ y, l[j]? = some y → y = 0) (fun i => l.length - i) 0 ⟨by omega, fun j hj => by omega⟩ (by repeat' constructor) (Pk.drop (by repeat' constructor)) ?_
 rintro i ⟨hi, hz⟩
 refine SP.r2 ?_
 refine XL.lss_s rfl rfl rfl (fun h1 => ?_) (fun h1 => ?_)
 ·refine XL.n5 ?_
  refine SP.t ?_
  refine SP.skip ?_
  refine Jp.then_normal ?_
  refine SP.seq ?_
  refine SP.block ?_
  refine SP.r2 ?_
  obtain ⟨x, hgt⟩ : ∃ x, l[i]? = some x := ⟨_, List.getElem?_eq_getElem (show i < l.length by omega)⟩
  refine XL.indexSl (r := i) rfl rfl (by omega) (by omega) (by simp) rfl ?_
  refine XL.load (hv := ints_at hgt) rfl rfl ?_
  refine XL.a ?_
  refine XL.n4 ?_
  refine XL.m ?_
  refine XL.m ?_
  refine XL.neq_s rfl rfl rfl (fun hx => ?_) (fun hx => ?_)
  ·refine XL.n2 ?_
   refine SP.t ?_
   refine SP.r2 ?_
   refine XL.m ?_
   refine XL.a ?_
   refine XL.n2 ?_
   refine SP.ret ?_
   refine Jp.block_ret ?_
   refine Jp.then_ret ?_
   refine Jp.then_ret ?_
   refine Jp.block_ret ?_
   refine Jp.then_ret ?_
   refine Jp.end1 (.inr rfl) rfl rfl ⟨?_, rfl⟩
   first | (rw [orI_at hgt hx hz]) | (rw [orI_zero (fun y hy => by obtain ⟨j, hj, e⟩ := List.getElem_of_mem hy; exact hz j (by omega) y (by rw [List.getElem?_eq_getElem hj, e]))])
  ·refine XL.n2 ?_
   refine SP.f ?_
   refine SP.skip ?_
   refine Jp.block_normal ?_
   refine Jp.then_normal ?_
   refine SP.region ?_
   refine XL.add_i64 rfl rfl (by omega) (by omega) rfl ?_
   refine XL.m ?_
   refine XL.nil ?_
   refine Jp.rd (i + 1) ⟨by omega, fun j hj y hy => by rcases Nat.lt_succ_iff_lt_or_eq.1 hj with g | g; exact hz j g y hy; subst g; rw [hgt] at hy; cases hy; omega⟩ (by omega)
 ·refine XL.n5 ?_
  refine SP.f ?_
  refine SP.exit ?_
  refine Jp.then_exit ?_
  refine Jp.then_exit ?_
  refine Jp.block_here ?_
  refine Jp.n4 ?_
  refine XL.m ?_
  refine XL.a ?_
  refine XL.n2 ?_
  refine SP.ret ?_
  refine Jp.end1 (.inr rfl) rfl rfl ⟨?_, rfl⟩
  first | (rw [orI_at hgt hx hz]) | (rw [orI_zero (fun y hy => by obtain ⟨j, hj, e⟩ := List.getElem_of_mem hy; exact hz j (by omega) y (by rw [List.getElem?_eq_getElem hj, e]))])
def cmpP (p q : Pl) : Int := orI [cmpI p.x q.x, cmpI p.z q.z, cmpI p.y q.y]
theorem c41 (p q : Pl) : Pur Tryz.prog 41 [.agg #[.int .i64 p.x, .int .i64 p.y, .int .i64 p.z], .agg #[.int .i64 q.x, .int .i64 q.y, .int .i64 q.z]] (.int .i64 (cmpP p q)) := by
 refine Pcalls (n := 22) Tryz.func41 rfl rfl rfl fun W0 H0 => ?_
 refine SP.r2 ?_
 refine XL.boxA rfl rfl (fun b1 => ?_)
 refine XL.boxA rfl rfl (fun b2 => ?_)
 refine XL.a ?_
 refine XL.n5 ?_
 refine SP.tail 15 Tryz.fol (by kernel_rfl) ?_
 refine XL.f ?_
 refine XL.l ?_
 refine XL.f ?_
 refine XL.l ?_
 refine XL.cp rfl (c74 _ _) rfl ?_
 refine XL.f ?_
 refine XL.l ?_
 refine XL.f ?_
 refine XL.l ?_
 refine XL.cp rfl (c74 _ _) rfl ?_
 refine XL.f ?_
 refine XL.l ?_
 refine XL.f ?_
 refine XL.l ?_
 refine XL.cp rfl (c74 _ _) rfl ?_
 refine XL.nilq_tail ?_
 refine XL.buildSlice (by rfl) (by rfl) (by rfl) (by decide) rfl (fun b3 => ?_)
 refine XL.cr rfl (c73 [cmpI p.x q.x, cmpI p.z q.z, cmpI p.y q.y] _ (by simp)) (by repeat' constructor) rfl ?_
 refine XL.a ?_
 refine XL.n2 ?_
 refine SP.ret ?_
 refine Jp.pur1 (.inr rfl) rfl rfl rfl
theorem c22 (p q : Pl) : Pur Tryz.prog 22 [.agg #[.int .i64 p.x, .int .i64 p.y, .int .i64 p.z], .agg #[.int .i64 q.x, .int .i64 q.y, .int .i64 q.z]] (.int .i64 (cmpP p q)) := by
 refine Pcalls (n := 8) Tryz.func22 rfl rfl rfl fun W0 H0 => ?_
 refine SP.r2 ?_
 refine XL.boxA rfl rfl (fun b1 => ?_)
 refine XL.boxA rfl rfl (fun b2 => ?_)
 refine XL.a ?_
 refine XL.n4 ?_
 refine XL.lA ?_
 refine XL.lA ?_
 refine XL.cp rfl (c41 p q) rfl ?_
 refine XL.a ?_
 refine XL.n2 ?_
 refine SP.ret ?_
 refine Jp.pur1 (.inr rfl) rfl rfl rfl
def cmpT (s t : Tk) : Int := orI [cmpI s.due t.due, cmpI s.i t.i]
theorem c200 (s t : Tk) : Pur Tryz.prog 200 [.agg #[.int .i64 s.i, .int .i64 s.due], .agg #[.int .i64 t.i, .int .i64 t.due]] (.int .i64 (cmpT s t)) := by
 refine Pcalls (n := 17) Tryz.func200 rfl rfl rfl fun W0 H0 => ?_
 refine SP.r2 ?_
 refine XL.boxA rfl rfl (fun b1 => ?_)
 refine XL.boxA rfl rfl (fun b2 => ?_)
 refine XL.a ?_
 refine XL.n5 ?_
 refine SP.tail 10 Tryz.fol (by kernel_rfl) ?_
 refine XL.f ?_
 refine XL.l ?_
 refine XL.f ?_
 refine XL.l ?_
 refine XL.cp rfl (c201 _ _) rfl ?_
 refine XL.f ?_
 refine XL.l ?_
 refine XL.f ?_
 refine XL.l ?_
 refine XL.cp rfl (c74 _ _) rfl ?_
 refine XL.nilq_tail ?_
 refine XL.buildSlice (by rfl) (by rfl) (by rfl) (by decide) rfl (fun b3 => ?_)
 refine XL.cr rfl (c73 [cmpI s.due t.due, cmpI s.i t.i] _ (by simp)) (by repeat' constructor) rfl ?_
 refine XL.a ?_
 refine XL.n2 ?_
 refine SP.ret ?_
 refine Jp.pur1 (.inr rfl) rfl rfl rfl
def cntM (l : List C2) (i : Nat) : Int := (((l.take i).filter fun c => KMov c.a).length : Nat)
theorem cntM_succ {l : List C2} {i : Nat} {c : C2} (h : l[i]? = some c) : cntM l (i + 1) = cntM l i + (if KMov c.a then 1 else 0) := by
 unfold cntM
 rw [List.take_add_one, h]
 simp only [Option.toList_some, List.filter_append, List.length_append, List.filter_cons, List.filter_nil]
 split <;> simp_all
theorem cntM_le (l : List C2) (i : Nat) : 0 ≤ cntM l i ∧ cntM l i ≤ i := by
 unfold cntM
 have := List.length_filter_le (fun c : C2 => decide (KMov c.a)) (l.take i)
 have := List.length_take_le i l
 omega
theorem c9 (b : Nat) (c : Ch) (hc : c.Ok) : Tri Tryz.prog 9 [.pointer (some ⟨b, 0, none⟩)] [pt b (cel c.cs 80)] (fun v Γ' => v = .int .i64 (cntM c.cells 4096) ∧ Γ' = [pt b (cel c.cs 80)]) := by
 refine Pcalls (n := 21) Tryz.func9 rfl rfl rfl fun W0 H0 => ?_
 refine SP.r2 ?_
 refine XL.a ?_
 refine XL.n5 ?_
 refine SP.r2 ?_
 refine XL.m ?_
 refine XL.pnnil_eql rfl rfl ?_
 refine XL.n2 ?_
 refine SP.f ?_
 refine SP.skip ?_
 refine Jp.then_normal ?_
 refine SP.seq ?_
 refine SP.r2 ?_
 refine XL.m ?_
 refine XL.n2 ?_
 refine SP.block ?_
 refine SP.loop (X := Nat) (fun i => [(6, .int .i64 (i : Int)), (2, .int .i64 (cntM c.cells i)), (0, .pointer (some ⟨b, 0, none⟩))]) (fun i => [pt b (cel c.cs 80)]) (fun i => i ≤ 4096) (fun i => 4096 - i) 0 (by omega) (by repeat' constructor) (Pk.drop (by repeat' constructor)) ?_
 rintro i hi
 have hlt := cntM_le c.cells i
 have hnc := hc.nc
 refine SP.r2 ?_
 refine XL.lss_s rfl rfl rfl (fun h1 => ?_) (fun h1 => ?_)
 ·refine XL.n5 ?_
  refine SP.t ?_
  refine SP.skip ?_
  refine Jp.then_normal ?_
  refine SP.seq ?_
  refine SP.block ?_
  refine SP.r2 ?_
  refine XL.m ?_
  refine XL.a ?_
  refine XL.n4 ?_
  refine XL.m ?_
  refine XL.m ?_
  refine XL.nilCheck rfl rfl ?_
  refine XL.f ?_
  obtain ⟨x, hgt⟩ : ∃ x, c.cells[i]? = some x := ⟨_, List.getElem?_eq_getElem (show i < c.cells.length by omega)⟩
  have hxr := hc.rc x (List.mem_of_getElem? hgt)
  refine XL.indexArr (r := i * 2) rfl rfl (by omega) (by omega) (by simp) rfl ?_
  refine XL.f ?_
  refine XL.load (hv := GtL.sub (j := 0) (Ch.cell_at hgt rfl) rfl) rfl rfl ?_
  refine XL.cs rfl (c26 x.a (by omega) (by omega)) rfl (fun hm => ?_) (fun hm => ?_)
  ·refine XL.n2 ?_
   refine SP.t ?_
   refine SP.region ?_
   refine XL.m ?_
   refine XL.add_i64 rfl rfl (by omega) (by omega) rfl ?_
   refine XL.a ?_
   refine XL.nil ?_
   refine Jp.block_normal ?_
   refine Jp.then_normal ?_
   refine SP.region ?_
   refine XL.add_i64 rfl rfl (by omega) (by omega) rfl ?_
   refine XL.m ?_
   refine XL.nil ?_
   have e := cntM_succ hgt
   first | rw [if_pos hm] at e | rw [if_neg hm, Int.add_zero] at e
   refine Jp.round (i + 1) (by omega) (by omega) (by rw [e]; repeat' constructor) (Pk.drop (by repeat' constructor))
  ·refine XL.n2 ?_
   refine SP.f ?_
   refine SP.skip ?_
   refine Jp.block_normal ?_
   refine Jp.then_normal ?_
   refine SP.region ?_
   refine XL.add_i64 rfl rfl (by omega) (by omega) rfl ?_
   refine XL.m ?_
   refine XL.nil ?_
   have e := cntM_succ hgt
   first | rw [if_pos hm] at e | rw [if_neg hm, Int.add_zero] at e
   refine Jp.round (i + 1) (by omega) (by omega) (by rw [e]; repeat' constructor) (Pk.drop (by repeat' constructor))
 ·refine XL.n5 ?_
  refine SP.f ?_
  refine SP.exit ?_
  refine Jp.then_exit ?_
  refine Jp.then_exit ?_
  refine Jp.block_here ?_
  refine Jp.n4 ?_
  refine XL.m ?_
  refine XL.a ?_
  refine XL.n2 ?_
  refine SP.ret ?_
  obtain rfl : i = 4096 := by omega
  refine Jp.end1 (.inr rfl) rfl rfl ⟨rfl, rfl⟩
theorem c10 (x y z : Int) (h : MayS x y z) : Pur Tryz.prog 10 [.agg #[.int .i64 x, .int .i64 y, .int .i64 z]] (.int .i64 (cntM (landCh y).cells 4096)) := by
 refine Pcalls (n := 14) Tryz.func10 rfl rfl rfl fun W0 H0 => ?_
 refine SP.r2 ?_
 refine XL.boxA rfl rfl (fun b1 => ?_)
 refine XL.a ?_
 refine XL.n4 ?_
 refine XL.lA ?_
 refine XL.cw rfl (c_Chunk_t x y z h) (Pk.nil _) rfl ?_
 rintro _ _ ⟨b2, rfl, rfl⟩
 refine XL.m ?_
 refine XL.x ?_
 refine XL.x ?_
 refine XL.a ?_
 refine XL.a ?_
 refine XL.n5 ?_
 refine SP.r2 ?_
 refine XL.m ?_
 refine XL.not_t rfl rfl ?_
 refine XL.n2 ?_
 refine SP.f ?_
 refine SP.skip ?_
 refine Jp.n4 ?_
 refine XL.m ?_
 refine XL.cr rfl (c9 _ _ (chA_ok _ _ _)) (by repeat' constructor) rfl ?_
 refine XL.a ?_
 refine XL.n2 ?_
 refine SP.ret ?_
 refine Jp.pur1 (.inr rfl) rfl rfl rfl
def fidx (p : Tk → Prop) [DecidablePred p] (ts : List Tk) : Int := match ts.findIdx? (fun t => decide (p t)) with
 | some i => (i : Int)
 | none => -1
theorem fidx_none {p : Tk → Prop} [DecidablePred p] {ts : List Tk} (h : ∀ j, j < ts.length → ∀ t, ts[j]? = some t → ¬ p t) : fidx p ts = -1 := by
 have : ts.findIdx? (fun t => decide (p t)) = none := by
  rw [List.findIdx?_eq_none_iff]; intro x hx
  obtain ⟨j, hj, e⟩ := List.getElem_of_mem hx
  simpa using h j hj x (by rw [List.getElem?_eq_getElem hj, e])
 unfold fidx; rw [this]
theorem fidx_some {p : Tk → Prop} [DecidablePred p] {ts : List Tk} {i : Nat} {t : Tk} (hg : ts[i]? = some t) (hp : p t) (h : ∀ j, j < i → ∀ t, ts[j]? = some t → ¬ p t) : fidx p ts = (i : Int) := by
 have : ts.findIdx? (fun t => decide (p t)) = some i := by
  obtain ⟨hi, e⟩ := List.getElem?_eq_some_iff.1 hg
  rw [List.findIdx?_eq_some_iff_getElem]
  refine ⟨hi, by simp [e, hp], fun j hj => ?_⟩
  simpa using h j hj _ (List.getElem?_eq_getElem (by omega))
 unfold fidx; rw [this]
theorem fidx_cases (p : Tk → Prop) [DecidablePred p] (ts : List Tk) : (fidx p ts = -1 ∧ ∀ t ∈ ts, ¬ p t) ∨ ∃ (i : Nat) (t : Tk), fidx p ts = (i : Int) ∧ ts[i]? = some t ∧ p t ∧ ∀ j, j < i → ∀ t, ts[j]? = some t → ¬ p t := by
 cases h : ts.findIdx? (fun t => decide (p t)) with
 | none =>
  left; unfold fidx; rw [h]
  rw [List.findIdx?_eq_none_iff] at h
  exact ⟨rfl, fun t ht => by simpa using h t ht⟩
 | some i =>
  right
  obtain ⟨hi, h1, h2⟩ := List.findIdx?_eq_some_iff_getElem.1 h
  refine ⟨i, ts[i], by unfold fidx; rw [h], List.getElem?_eq_getElem hi, by simpa using h1, fun j hj t ht => ?_⟩
  obtain ⟨hj', e⟩ := List.getElem?_eq_some_iff.1 ht
  have := h2 j hj
  rw [e] at this; simpa using this
@[reducible] def TkS (v : Value) (ts : List Tk) : Asn := Sl' 103 2 v ts.length (ts.flatMap Tk.cs)
theorem c202 (g : Nat) (lb : List Value) (p : Tk → Prop) [DecidablePred p] (D : Asn) (v : Value) (ts : List Tk) [Fun Tryz.prog g] (hp : ∀ t : Tk, Tri Tryz.prog g (.agg #[.int .i64 t.i, .int .i64 t.due] :: lb) [D] (fun r Γ' => r = .bool (decide (p t)) ∧ Γ' = [D])) (hn : ts.length ≤ 100000) : Tri Tryz.prog 202 [v, .func (.func g) #[] lb.toArray] [TkS v ts, D] (fun r Γ' => r = .int .i64 (fidx p ts) ∧ Γ' = [TkS v ts, D]) := by
 refine Pcalls (n := 19) Tryz.func202 rfl rfl rfl fun W0 H0 => ?_
 refine SP.slv (by repeat' constructor) ?_
 rintro a cap bb rfl hA hlx
 refine SP.r2 ?_
 refine XL.a ?_
 refine XL.n5 ?_
 refine SP.r2 ?_
 refine XL.m ?_
 refine XL.len (by rfl) (by rfl) ?_
 refine XL.m ?_
 refine XL.n2 ?_
 refine SP.block ?_
 refine SP.loop (X := Nat) (fun i => [(8, .int .i64 (i : Int)), (7, .int .i64 (ts.length : Int)), (0, .slice a ts.length cap), (1, .func (.func g) #[] lb.toArray)]) (fun i => [TkS (.slice a ts.length cap) ts, D]) (fun i => i ≤ ts.length ∧ ∀ j, j < i → ∀ t, ts[j]? = some t → ¬ p t) (fun i => ts.length - i) 0 ⟨by omega, fun j hj => by omega⟩ (by repeat' constructor) (Pk.drop (by repeat' constructor)) ?_
 rintro i ⟨hi, hz⟩
 refine SP.r2 ?_
 refine XL.lss_s rfl rfl rfl (fun h1 => ?_) (fun h1 => ?_)
 ·refine XL.n5 ?_
  refine SP.t ?_
  refine SP.skip ?_
  refine Jp.then_normal ?_
  refine SP.seq ?_
  refine SP.block ?_
  refine SP.r2 ?_
  refine XL.m ?_
  refine XL.a ?_
  refine XL.n4 ?_
  refine XL.m ?_
  refine XL.m ?_
  refine XL.m ?_
  obtain ⟨t, hgt⟩ : ∃ t, ts[i]? = some t := ⟨_, List.getElem?_eq_getElem (show i < ts.length by omega)⟩
  obtain rfl := hA (by omega)
  refine XL.indexSl (r := i * 2) rfl rfl (by omega) (by omega) (by simp) rfl ?_
  refine XL.loadA (hs := SbL.flat Tk.len hgt rfl) rfl rfl ?_
  refine XL.vrs (v1 := []) (v2 := lb) rfl rfl (hp t) (by repeat' constructor) rfl (fun hq => ?_) (fun hq => ?_)
  ·refine XL.n2 ?_
   refine SP.t ?_
   refine SP.r2 ?_
   refine XL.m ?_
   refine XL.a ?_
   refine XL.n2 ?_
   refine SP.ret ?_
   refine Jp.block_ret ?_
   refine Jp.then_ret ?_
   refine Jp.then_ret ?_
   refine Jp.block_ret ?_
   refine Jp.then_ret ?_
   refine Jp.end1 (.inr rfl) rfl rfl ⟨?_, rfl⟩
   first | (rw [fidx_some hgt hq hz]) | (rw [fidx_none (fun j hj => hz j (by omega))])
  ·refine XL.n2 ?_
   refine SP.f ?_
   refine SP.skip ?_
   refine Jp.block_normal ?_
   refine Jp.then_normal ?_
   refine SP.region ?_
   refine XL.add_i64 rfl rfl (by omega) (by omega) rfl ?_
   refine XL.m ?_
   refine XL.nil ?_
   refine Jp.rd (i + 1) ⟨by omega, fun j hj y hy => by rcases Nat.lt_succ_iff_lt_or_eq.1 hj with g | g; exact hz j g y hy; subst g; rw [hgt] at hy; cases hy; exact hq⟩ (by omega)
 ·refine XL.n5 ?_
  refine SP.f ?_
  refine SP.exit ?_
  refine Jp.then_exit ?_
  refine Jp.then_exit ?_
  refine Jp.block_here ?_
  refine Jp.n4 ?_
  refine XL.a ?_
  refine XL.n2 ?_
  refine SP.ret ?_
  refine Jp.end1 (.inr rfl) rfl rfl ⟨?_, rfl⟩
  first | (rw [fidx_some hgt hq hz]) | (rw [fidx_none (fun j hj => hz j (by omega))])
theorem c205 (t : Tk) (k : Int) (b : Nat) : Tri Tryz.prog 205 [.agg #[.int .i64 t.i, .int .i64 t.due], .pointer (some ⟨b, 0, none⟩)] [pt b (cel [.int .i64 k] 3)] (fun r Γ' => r = .bool (decide (t.i = k)) ∧ Γ' = [pt b (cel [.int .i64 k] 3)]) := by
 refine Pcalls (n := 8) Tryz.func205 rfl rfl rfl fun W0 H0 => ?_
 refine SP.r2 ?_
 refine XL.boxA rfl rfl (fun b1 => ?_)
 refine XL.a ?_
 refine XL.n4 ?_
 refine XL.f ?_
 refine XL.l ?_
 refine XL.l ?_
 refine XL.eql_s rfl rfl rfl (fun hh => ?_) (fun hh => ?_)
 ·refine XL.a ?_
  refine XL.n2 ?_
  refine SP.ret ?_
  refine Jp.go (Pk.drop (Γ1 := [pt b (cel [.int .i64 k] 3)]) (by repeat' constructor)) (Jp.end1 (.inr rfl) rfl rfl ⟨?_, rfl⟩)
  first | exact bt hh | exact bf hh
 ·refine XL.a ?_
  refine XL.n2 ?_
  refine SP.ret ?_
  refine Jp.go (Pk.drop (Γ1 := [pt b (cel [.int .i64 k] 3)]) (by repeat' constructor)) (Jp.end1 (.inr rfl) rfl rfl ⟨?_, rfl⟩)
  first | exact bt hh | exact bf hh
theorem c203 (t : Tk) (k : Int) (b : Nat) : Tri Tryz.prog 203 [.agg #[.int .i64 t.i, .int .i64 t.due], .pointer (some ⟨b, 0, none⟩)] [pt b (cel [.int .i64 k] 3)] (fun r Γ' => r = .bool (decide (k < t.i)) ∧ Γ' = [pt b (cel [.int .i64 k] 3)]) := by
 refine Pcalls (n := 8) Tryz.func203 rfl rfl rfl fun W0 H0 => ?_
 refine SP.r2 ?_
 refine XL.boxA rfl rfl (fun b1 => ?_)
 refine XL.a ?_
 refine XL.n4 ?_
 refine XL.f ?_
 refine XL.l ?_
 refine XL.l ?_
 refine XL.gtr_s rfl rfl rfl (fun hh => ?_) (fun hh => ?_)
 ·refine XL.a ?_
  refine XL.n2 ?_
  refine SP.ret ?_
  refine Jp.go (Pk.drop (Γ1 := [pt b (cel [.int .i64 k] 3)]) (by repeat' constructor)) (Jp.end1 (.inr rfl) rfl rfl ⟨?_, rfl⟩)
  first | exact bt hh | exact bf hh
 ·refine XL.a ?_
  refine XL.n2 ?_
  refine SP.ret ?_
  refine Jp.go (Pk.drop (Γ1 := [pt b (cel [.int .i64 k] 3)]) (by repeat' constructor)) (Jp.end1 (.inr rfl) rfl rfl ⟨?_, rfl⟩)
  first | exact bt hh | exact bf hh
end Go.Proofs

namespace Go.Proofs
open Go.Bk
def atT (k : Int) (t : Tk) : Prop := t.i = k
instance (k : Int) : DecidablePred (atT k) := fun t => by unfold atT; infer_instance
def gtT (k : Int) (t : Tk) : Prop := k < t.i
instance (k : Int) : DecidablePred (gtT k) := fun t => by unfold gtT; infer_instance
theorem c197 (b : Nat) (c : Ch) (k : Int) (hc : c.Ok) (hn : c.ticks.length ≤ 4096) (h0 : 0 ≤ k) (h1 : k < 4096) : Tri Tryz.prog 197 [.pointer (some ⟨b, 0, none⟩), .int .i64 k] [pt b (cel c.cs 80), TkS c.tv c.ticks] (fun v Γ' => v = .int .i64 (fidx (atT k) c.ticks) ∧ Γ' = [pt b (cel c.cs 80), TkS c.tv c.ticks]) := by
 refine Pcalls (n := 21) Tryz.func197 rfl rfl rfl fun W0 H0 => ?_
 refine SP.r2 ?_
 refine XL.box rfl rfl rfl (fun b1 => ?_)
 refine XL.a ?_
 refine XL.n5 ?_
 refine SP.r2 ?_
 refine XL.m ?_
 refine XL.pnnil_eql rfl rfl ?_
 refine XL.m ?_
 refine XL.g ?_
 refine XL.l ?_
 refine XL.g ?_
 refine XL.lss_f rfl rfl (by omega) rfl ?_
 refine XL.pick_f rfl rfl rfl ?_
 refine XL.m ?_
 refine XL.g ?_
 refine XL.l ?_
 refine XL.g ?_
 refine XL.geq_f rfl rfl (by omega) rfl ?_
 refine XL.pick_f rfl rfl rfl ?_
 refine XL.n2 ?_
 refine SP.f ?_
 refine SP.skip ?_
 refine Jp.n4 ?_
 refine XL.m ?_
 refine XL.nilCheck rfl rfl ?_
 refine XL.f ?_
 refine XL.load (hv := Ch.tv_at hc) rfl rfl ?_
 refine XL.makeFunc rfl rfl rfl ?_
 refine XL.cr rfl (c202 205 [.pointer (some ⟨b1, 0, none⟩)] (atT k) (pt b1 (cel [.int .i64 k] 3)) c.tv c.ticks (fun t => c205 t k b1) (by omega)) (by repeat' constructor) rfl ?_
 refine XL.a ?_
 refine XL.n2 ?_
 refine SP.ret ?_
 refine Jp.go (Pk.drop (Γ1 := [pt b (cel c.cs 80), TkS c.tv c.ticks]) (by repeat' constructor)) (Jp.end1 (.inr rfl) rfl rfl ⟨rfl, rfl⟩)
theorem c197_nil (k : Int) : Pur Tryz.prog 197 [.pointer none, .int .i64 k] (.int .i64 (-1)) := by
 refine Pcalls (n := 21) Tryz.func197 rfl rfl rfl fun W0 H0 => ?_
 refine SP.r2 ?_
 refine XL.box rfl rfl rfl (fun b1 => ?_)
 refine XL.a ?_
 refine XL.n5 ?_
 refine SP.r2 ?_
 refine XL.m ?_
 refine XL.pnil_eql rfl rfl ?_
 refine XL.m ?_
 refine XL.k ?_
 refine XL.k ?_
 refine XL.pick_t rfl rfl rfl ?_
 refine XL.m ?_
 refine XL.k ?_
 refine XL.k ?_
 refine XL.pick_t rfl rfl rfl ?_
 refine XL.n2 ?_
 refine SP.t ?_
 refine SP.r2 ?_
 refine XL.a ?_
 refine XL.n2 ?_
 refine SP.ret ?_
 refine Jp.then_ret ?_
 refine Jp.pur1 (.inr rfl) rfl rfl rfl
def dueT (ts : List Tk) (k : Int) : Int := match fidx (atT k) ts with
 | .ofNat i => ((ts[i]?).map (·.due)).getD 0
 | .negSucc _ => 0
theorem dueT_neg {ts : List Tk} {k : Int} (h : ¬ 0 ≤ fidx (atT k) ts) : dueT ts k = 0 := by
 unfold dueT; split
 ·rename_i i e; rw [e] at h; exact absurd (Int.natCast_nonneg i) h
 ·rfl
theorem dueT_pos {ts : List Tk} {k : Int} {i : Nat} {t : Tk} (h : fidx (atT k) ts = (i : Int)) (hg : ts[i]? = some t) : dueT ts k = t.due := by
 unfold dueT; rw [h]
 show ((ts[i]?).map (·.due)).getD 0 = _
 rw [hg]; rfl
theorem fidx_at {ts : List Tk} {p : Tk → Prop} [DecidablePred p] (h : 0 ≤ fidx p ts) : ∃ (i : Nat) (t : Tk), fidx p ts = (i : Int) ∧ ts[i]? = some t ∧ p t := by
 rcases fidx_cases p ts with ⟨e, _⟩ | ⟨i, t, e, hg, hp, _⟩
 ·omega
 ·exact ⟨i, t, e, hg, hp⟩
theorem c191_nil (b : Nat) (c : Ch) (k : Int) (hc : c.Ok) (hn : c.ticks.length ≤ 4096) (h0 : 0 ≤ k) (h1 : k < 4096) (e0 : fidx (atT k) c.ticks = -1) : Tri Tryz.prog 191 [.pointer (some ⟨b, 0, none⟩), .int .i64 k] [pt b (cel c.cs 80), TkS c.tv c.ticks] (fun v Γ' => v = .int .i64 (dueT c.ticks k) ∧ Γ' = [pt b (cel c.cs 80), TkS c.tv c.ticks]) := by
 refine Pcalls (n := 19) Tryz.func191 rfl rfl rfl fun W0 H0 => ?_
 refine SP.r2 ?_
 refine XL.a ?_
 refine XL.n5 ?_
 refine SP.r2 ?_
 refine XL.m ?_
 refine XL.m ?_
 refine XL.cr rfl (c197 b c k hc hn h0 h1) (by repeat' constructor) rfl ?_
 rw [e0]
 refine XL.a ?_
 refine XL.n4 ?_
 refine XL.m ?_
 refine XL.geq_f rfl rfl (by omega) rfl ?_
 refine XL.n2 ?_
 refine SP.f ?_
 refine SP.skip ?_
 refine Jp.n4 ?_
 refine XL.a ?_
 refine XL.n2 ?_
 refine SP.ret ?_
 refine Jp.end1 (.inr rfl) rfl rfl ⟨by rw [dueT_neg (by omega)], rfl⟩
theorem c191 (b : Nat) (c : Ch) (k : Int) (hc : c.Ok) (hn : c.ticks.length ≤ 4096) (h0 : 0 ≤ k) (h1 : k < 4096) : Tri Tryz.prog 191 [.pointer (some ⟨b, 0, none⟩), .int .i64 k] [pt b (cel c.cs 80), TkS c.tv c.ticks] (fun v Γ' => v = .int .i64 (dueT c.ticks k) ∧ Γ' = [pt b (cel c.cs 80), TkS c.tv c.ticks]) := by
 refine Tri.slv (v := c.tv) (xs := c.ticks.flatMap Tk.cs) (m := c.ticks.length) (E := 103) (k := 2) (Γ2 := [pt b (cel c.cs 80)]) (by repeat' constructor) (fun hv hz hx => ?_) (fun bt cap hv hlx hcap => ?_)
 ·have e0 : fidx (atT k) c.ticks = -1 := by
   have : c.ticks = [] := List.length_eq_zero_iff.1 hz
   rw [this]; rfl
  exact c191_nil b c k hc hn h0 h1 e0
 refine Pcalls (n := 19) Tryz.func191 rfl rfl rfl fun W0 H0 => ?_
 refine SP.r2 ?_
 refine XL.a ?_
 refine XL.n5 ?_
 refine SP.r2 ?_
 refine XL.m ?_
 refine XL.m ?_
 refine XL.cr rfl (c197 b c k hc hn h0 h1) (by repeat' constructor) rfl ?_
 refine XL.a ?_
 refine XL.n4 ?_
 refine XL.m ?_
 refine XL.geq_s rfl rfl rfl (fun hp => ?_) (fun hp => ?_)
 ·refine XL.n2 ?_
  refine SP.t ?_
  refine SP.r2 ?_
  refine XL.m ?_
  refine XL.nilCheck rfl rfl ?_
  refine XL.f ?_
  obtain ⟨i, t, hi, hg, -⟩ := fidx_at hp
  rw [hi]
  refine XL.load (v := .slice (some ⟨bt, 0, none⟩) c.ticks.length cap) (hv := by rw [← hv]; exact Ch.tv_at hc) rfl rfl ?_
  rw [hv]
  refine XL.m ?_
  have hlt : i < c.ticks.length := (List.getElem?_eq_some_iff.1 hg).1
  refine XL.indexSl (r := i * 2) rfl rfl (by omega) (by omega) (by simp) rfl ?_
  refine XL.f ?_
  refine XL.load (hv := GtL.sub (j := 1) (SbL.flat Tk.len hg rfl) rfl) rfl rfl ?_
  refine XL.a ?_
  refine XL.n2 ?_
  refine SP.ret ?_
  refine Jp.then_ret ?_
  first | refine Jp.end1 (.inr rfl) rfl rfl ⟨by rw [dueT_pos hi hg], rfl⟩ | refine Jp.end1 (.inr rfl) rfl rfl ⟨by rw [dueT_neg hp], rfl⟩
 ·refine XL.n2 ?_
  refine SP.f ?_
  refine SP.skip ?_
  refine Jp.n4 ?_
  refine XL.a ?_
  refine XL.n2 ?_
  refine SP.ret ?_
  first | refine Jp.end1 (.inr rfl) rfl rfl ⟨by rw [dueT_pos hi hg], rfl⟩ | refine Jp.end1 (.inr rfl) rfl rfl ⟨by rw [dueT_neg hp], rfl⟩
theorem c191_0 (k : Int) : Pur Tryz.prog 191 [.pointer none, .int .i64 k] (.int .i64 0) := by
 refine Pcalls (n := 19) Tryz.func191 rfl rfl rfl fun W0 H0 => ?_
 refine SP.r2 ?_
 refine XL.a ?_
 refine XL.n5 ?_
 refine SP.r2 ?_
 refine XL.m ?_
 refine XL.m ?_
 refine XL.cp rfl (c197_nil k) rfl ?_
 refine XL.a ?_
 refine XL.n4 ?_
 refine XL.m ?_
 refine XL.geq_f rfl rfl (by omega) rfl ?_
 refine XL.n2 ?_
 refine SP.f ?_
 refine SP.skip ?_
 refine Jp.n4 ?_
 refine XL.a ?_
 refine XL.n2 ?_
 refine SP.ret ?_
 refine Jp.pur1 (.inr rfl) rfl rfl rfl
theorem c42_nil  : Pur Tryz.prog 42 [.slice none 0 0] (.slice none 0 0) := by
 refine Pcalls (n := 8) Tryz.func42 rfl rfl rfl fun W0 H0 => ?_
 refine SP.r2 ?_
 refine XL.a ?_
 refine XL.n5 ?_
 refine SP.r2 ?_
 refine XL.m ?_
 refine XL.slnil rfl rfl ?_
 refine XL.n2 ?_
 refine SP.t ?_
 refine SP.r2 ?_
 refine XL.a ?_
 refine XL.n2 ?_
 refine SP.ret ?_
 refine Jp.then_ret ?_
 refine Jp.pur1 (.inr rfl) rfl rfl rfl
theorem c42_blk (b cap : Nat) (ts : List Tk) (hn : ts.length ≤ 100000) : Tri Tryz.prog 42 [.slice (some ⟨b, 0, none⟩) ts.length cap] [TkS (.slice (some ⟨b, 0, none⟩) ts.length cap) ts] (fun v Γ' => Γ' = [TkS v ts, TkS (.slice (some ⟨b, 0, none⟩) ts.length cap) ts]) := by
 refine Pcalls (n := 8) Tryz.func42 rfl rfl rfl fun W0 H0 => ?_
 refine SP.r2 ?_
 refine XL.a ?_
 refine XL.n5 ?_
 refine SP.r2 ?_
 refine XL.m ?_
 refine XL.slnil rfl rfl ?_
 refine XL.n2 ?_
 refine SP.f ?_
 refine SP.skip ?_
 refine Jp.n4 ?_
 refine XL.buildSlice (pv := []) (by rfl) (by rfl) (by rfl) (by decide) rfl (fun b3 => ?_)
 refine XL.weaken (closeLit (k := 2) (m := 0) (xs := []) rfl) ?_
 refine XL.m ?_
 refine XL.appendS (k := 2) (z := [.int .i64 0, .int .i64 0]) (bt := 16) (xs := []) (ys := ts.flatMap Tk.cs) (m := 0) (m2 := ts.length) rfl rfl ⟨_, Tryz.underlying78⟩ (by repeat' constructor) (by repeat' constructor) rfl rfl (by omega) (sca_flat Tk.sca _) rfl (fun v' => ?_)
 rw [Nat.zero_add, List.nil_append]
 refine XL.a ?_
 refine XL.n2 ?_
 refine SP.ret ?_
 refine Jp.end1 (.inr rfl) rfl rfl rfl
theorem c42 (v : Value) (ts : List Tk) (hn : ts.length ≤ 100000) : Tri Tryz.prog 42 [v] [TkS v ts] (fun r Γ' => Γ' = [TkS r ts, TkS v ts]) := by
 refine Tri.slv (Γ2 := []) (Rm.here _ _) (fun hv hz hx => ?_) (fun b cap hv hlx hcap => ?_)
 ·subst hv
  have : ts = [] := List.length_eq_zero_iff.1 hz
  subst this
  intro w h s a
  refine (Tri.frame (Γ := []) (Δ := [TkS (.slice none 0 0) []]) c42_nil (Wd.start s a)).mono fun e w' ⟨v, Γ', he, ⟨hv, hΓ⟩, s'⟩ => ?_
  subst hv; subst hΓ
  exact ⟨_, _, he, rfl, s'.mono star_nilS⟩
 ·subst hv; exact c42_blk b cap ts hn
theorem TkS.sca {v : Value} {ts : List Tk} {h : Hp} (s : TkS v ts h) : sca v = true := by
 obtain ⟨_, h2 | ⟨b, cap, rest, e, _⟩⟩ := s
 ·rw [h2.1]; rfl
 ·rw [e]; rfl
theorem c24 (b : Nat) (c : Ch) (hc : c.Ok) (hn : c.ticks.length ≤ 4096) : Tri Tryz.prog 24 [.pointer (some ⟨b, 0, none⟩)] [pt b (cel c.cs 80), TkS c.tv c.ticks] (fun v Γ' => ∃ b' tv', v = .pointer (some ⟨b', 0, none⟩) ∧ sca tv' = true ∧ Γ' = [pt b' (cel ({ c with tv := tv' } : Ch).cs 80), TkS tv' c.ticks, pt b (cel c.cs 80), TkS c.tv c.ticks]) := by
 refine Pcalls (n := 15) Tryz.func24 rfl rfl rfl fun W0 H0 => ?_
 refine SP.r2 ?_
 refine XL.a ?_
 refine XL.n5 ?_
 refine SP.r2 ?_
 refine XL.m ?_
 refine XL.pnnil_eql rfl rfl ?_
 refine XL.n2 ?_
 refine SP.f ?_
 refine SP.skip ?_
 refine Jp.n4 ?_
 refine XL.m ?_
 refine XL.nilCheck rfl rfl ?_
 refine XL.loadA (hs := SbL.whole (Ch.len hc)) rfl rfl ?_
 refine XL.alloc (by rfl) (fun b1 => ?_)
 refine XL.storeA (hs := StL.whole (by rw [Ch.len hc, List.length_append, List.length_replicate]; rfl)) rfl rfl (Ch.len hc) (Ch.all hc) ?_
 refine XL.n4 ?_
 refine XL.m ?_
 refine XL.nilCheck rfl rfl ?_
 refine XL.f ?_
 refine XL.load (hv := Ch.tv_at hc) rfl rfl ?_
 refine XL.cw rfl (c42 c.tv c.ticks (by omega)) (by repeat' constructor) rfl ?_
 rintro v _ rfl
 refine XL.app2 ?_
 refine XL.f ?_
 refine XL.know (Rm.know (A := TkS v c.ticks) (by repeat' constructor) (fun h s => TkS.sca s)) (fun hsv => ?_)
 refine XL.store (hs := Ch.tv_set hc v) rfl rfl hsv ?_
 refine XL.n4 ?_
 refine XL.a ?_
 refine XL.n2 ?_
 refine SP.ret ?_
 refine Jp.go (Pk.drop (Γ1 := [pt b1 (cel ({ c with tv := v } : Ch).cs 80), TkS v c.ticks, pt b (cel c.cs 80), TkS c.tv c.ticks]) (by repeat' constructor)) (Jp.end1 (.inr rfl) rfl rfl ⟨_, _, rfl, hsv, rfl⟩)
theorem c20 (b : Nat) (c : Ch) (hc : c.Ok) (x y z : Int) (h : MayS x y z) : Tri Tryz.prog 20 [.pointer (some ⟨b, 0, none⟩), .agg #[.int .i64 x, .int .i64 y, .int .i64 z]] [pt b (cel c.cs 80), TkS c.tv c.ticks] (fun v Γ' => v = .bool (decide (c.cells = (landCh y).cells ∧ c.lights = (landCh y).lights ∧ c.ticks = [])) ∧ Γ' = [pt b (cel c.cs 80), TkS c.tv c.ticks]) := by
 refine Pcalls (n := 47) Tryz.func20 rfl rfl rfl fun W0 H0 => ?_
 refine SP.r2 ?_
 refine XL.boxA rfl rfl (fun b1 => ?_)
 refine XL.a ?_
 refine XL.n4 ?_
 refine XL.lA ?_
 refine XL.cw rfl (c_Chunk_t x y z h) (Pk.nil _) rfl ?_
 rintro _ _ ⟨b2, rfl, rfl⟩
 refine XL.app1 ?_
 have hL : (landCh y).Ok := chA_ok y 4096 4096
 refine XL.m ?_
 refine XL.x ?_
 refine XL.x ?_
 refine XL.a ?_
 refine XL.a ?_
 refine XL.n5 ?_
 refine SP.quiet Tryz.fol (by kernel_rfl) ?_
 refine XL.m ?_
 refine XL.m ?_
 refine XL.g ?_
 refine XL.m ?_
 refine XL.g ?_
 refine XL.pnnil_neq rfl rfl ?_
 refine XL.pick_t rfl rfl rfl ?_
 refine XL.m ?_
 refine XL.g ?_
 refine XL.m ?_
 refine XL.g ?_
 refine XL.nilCheck rfl rfl ?_
 refine XL.g ?_
 refine XL.f ?_
 refine XL.g ?_
 refine XL.loadA (hs := SbL.head (by rw [flat_len C2.len, hc.nc])) rfl rfl ?_
 refine XL.g ?_
 refine XL.m ?_
 refine XL.g ?_
 refine XL.nilCheck rfl rfl ?_
 refine XL.g ?_
 refine XL.f ?_
 refine XL.g ?_
 refine XL.loadA (hs := SbL.head (by rw [flat_len C2.len, hL.nc])) rfl rfl ?_
 refine XL.g ?_
 refine XL.eqlT (⟨c.cells, hc.nc⟩ : Row C2 4096) (⟨(landCh y).cells, hL.nc⟩ : Row C2 4096) rfl rfl rfl (fun e1 => ?_) (fun e1 => ?_)
 ·refine XL.pick_t rfl rfl rfl ?_
  refine XL.m ?_
  refine XL.g ?_
  refine XL.m ?_
  refine XL.g ?_
  refine XL.nilCheck rfl rfl ?_
  refine XL.g ?_
  refine XL.f ?_
  refine XL.g ?_
  refine XL.loadA (hs := SbL.mid (by rw [flat_len C2.len, hc.nc]) (by rw [flat_len C2.len, hc.nl])) rfl rfl ?_
  refine XL.g ?_
  refine XL.m ?_
  refine XL.g ?_
  refine XL.nilCheck rfl rfl ?_
  refine XL.g ?_
  refine XL.f ?_
  refine XL.g ?_
  refine XL.loadA (hs := SbL.mid (by rw [flat_len C2.len, hL.nc]) (by rw [flat_len C2.len, hL.nl])) rfl rfl ?_
  refine XL.g ?_
  refine XL.eqlT (⟨c.lights, hc.nl⟩ : Row C2 4096) (⟨(landCh y).lights, hL.nl⟩ : Row C2 4096) rfl rfl rfl (fun e2 => ?_) (fun e2 => ?_)
  ·refine XL.pick_t rfl rfl rfl ?_
   refine XL.m ?_
   refine XL.g ?_
   refine XL.m ?_
   refine XL.g ?_
   refine XL.nilCheck rfl rfl ?_
   refine XL.g ?_
   refine XL.f ?_
   refine XL.g ?_
   refine XL.load (hv := Ch.tv_at hc) rfl rfl ?_
   refine XL.g ?_
   refine XL.lenS rfl (by repeat' constructor) rfl ?_
   refine XL.g ?_
   refine XL.eql_s rfl rfl rfl (fun e3 => ?_) (fun e3 => ?_)
   ·refine XL.pick_t rfl rfl rfl ?_
    refine XL.a ?_
    refine XL.nilq_end ?_
    refine Jp.then_normal ?_
    refine SP.ret ?_
    refine Jp.go (Pk.drop (Γ1 := [pt b (cel c.cs 80), TkS c.tv c.ticks]) (by repeat' constructor)) (Jp.end1 (.inr rfl) rfl rfl ⟨?_, rfl⟩)
    try simp only [ne_eq, Row.mk.injEq] at e1
    try simp only [ne_eq, Row.mk.injEq] at e2
    first | (refine bt ⟨e1, e2, List.length_eq_zero_iff.1 (by omega)⟩; done) | (refine bf (fun g => e1 g.1); done) | (refine bf (fun g => e2 g.2.1); done) | (refine bf (fun g => e3 (by rw [g.2.2]; rfl)); done)
   ·refine XL.pick_t rfl rfl rfl ?_
    refine XL.a ?_
    refine XL.nilq_end ?_
    refine Jp.then_normal ?_
    refine SP.ret ?_
    refine Jp.go (Pk.drop (Γ1 := [pt b (cel c.cs 80), TkS c.tv c.ticks]) (by repeat' constructor)) (Jp.end1 (.inr rfl) rfl rfl ⟨?_, rfl⟩)
    try simp only [ne_eq, Row.mk.injEq] at e1
    try simp only [ne_eq, Row.mk.injEq] at e2
    first | (refine bt ⟨e1, e2, List.length_eq_zero_iff.1 (by omega)⟩; done) | (refine bf (fun g => e1 g.1); done) | (refine bf (fun g => e2 g.2.1); done) | (refine bf (fun g => e3 (by rw [g.2.2]; rfl)); done)
  ·refine XL.pick_t rfl rfl rfl ?_
   refine XL.m ?_
   refine XL.k ?_
   refine XL.k ?_
   refine XL.k ?_
   refine XL.k ?_
   refine XL.k ?_
   refine XL.k ?_
   refine XL.pick_f rfl rfl rfl ?_
   refine XL.a ?_
   refine XL.nilq_end ?_
   refine Jp.then_normal ?_
   refine SP.ret ?_
   refine Jp.go (Pk.drop (Γ1 := [pt b (cel c.cs 80), TkS c.tv c.ticks]) (by repeat' constructor)) (Jp.end1 (.inr rfl) rfl rfl ⟨?_, rfl⟩)
   try simp only [ne_eq, Row.mk.injEq] at e1
   try simp only [ne_eq, Row.mk.injEq] at e2
   first | (refine bt ⟨e1, e2, List.length_eq_zero_iff.1 (by omega)⟩; done) | (refine bf (fun g => e1 g.1); done) | (refine bf (fun g => e2 g.2.1); done) | (refine bf (fun g => e3 (by rw [g.2.2]; rfl)); done)
 ·refine XL.pick_t rfl rfl rfl ?_
  refine XL.m ?_
  refine XL.k ?_
  refine XL.k ?_
  refine XL.k ?_
  refine XL.k ?_
  refine XL.k ?_
  refine XL.k ?_
  refine XL.k ?_
  refine XL.k ?_
  refine XL.k ?_
  refine XL.pick_f rfl rfl rfl ?_
  refine XL.m ?_
  refine XL.k ?_
  refine XL.k ?_
  refine XL.k ?_
  refine XL.k ?_
  refine XL.k ?_
  refine XL.k ?_
  refine XL.pick_f rfl rfl rfl ?_
  refine XL.a ?_
  refine XL.nilq_end ?_
  refine Jp.then_normal ?_
  refine SP.ret ?_
  refine Jp.go (Pk.drop (Γ1 := [pt b (cel c.cs 80), TkS c.tv c.ticks]) (by repeat' constructor)) (Jp.end1 (.inr rfl) rfl rfl ⟨?_, rfl⟩)
  try simp only [ne_eq, Row.mk.injEq] at e1
  try simp only [ne_eq, Row.mk.injEq] at e2
  first | (refine bt ⟨e1, e2, List.length_eq_zero_iff.1 (by omega)⟩; done) | (refine bf (fun g => e1 g.1); done) | (refine bf (fun g => e2 g.2.1); done) | (refine bf (fun g => e3 (by rw [g.2.2]; rfl)); done)
end Go.Proofs

namespace Go.Proofs
open Go.Bk
theorem ov_apart {W0 : World} {H0 : Hp} {Γ : List Asn} {b b2 o o2 la ca lb cb : Nat} {cs cs2 : List Value} {K1 K2 : List Value → List Asn} (p1 : PtC Γ b2 cs2 K2) (p2 : PtC Γ b cs K1) (hne : b2 ≠ b) (hl : cs ≠ []) (w : World) (s : Wd W0 H0 Γ w) :
  (Extern.SlicesOverlaps.overlaps #[78, 78] #[4] #[.slice (some ⟨b2, o2, none⟩) la ca, .slice (some ⟨b, o, none⟩) lb cb]).run Tryz.prog w = .ok (.bool false) w := by
 obtain ⟨r1, t1, e1, _⟩ := p1.get s
 obtain ⟨r2, t2, e2, _⟩ := p2.get s
 refine Lib.run_overlaps_apart w 78 4 103 Tryz.underlying78 2 (Ag.size (P := Tryz.prog) (T := 103)) ⟨b2, o2, none⟩ ⟨b, o, none⟩ la ca lb cb hne t1 t2 (cs2 ++ r1).length (cs ++ r2).length ?_ ?_ ?_ ?_ ?_
 ·simp [World.shape?, e1, cel]
 ·simp [World.shape?, e2, cel]
 ·simp; intro h; exact absurd h hl
 ·simp [World.frozen?, e1, cel]
 ·simp [World.frozen?, e1, cel]
theorem ins_lists {A B R T : List Value} (hR : 2 ≤ R.length) (hB : 2 ≤ B.length) (hT : T.length = 2) :
  StL (A ++ B ++ R) (A.length + 2) B (A ++ (B.take 2 ++ (B ++ R.drop 2))) ∧ StL (A ++ (B.take 2 ++ (B ++ R.drop 2))) A.length T (A ++ (T ++ (B ++ R.drop 2))) := by
 refine ⟨⟨by simp; omega, ?_⟩, StL.mid rfl (by simp; omega)⟩
 rw [show A ++ B ++ R = A ++ (B ++ R) by simp, List.take_append, List.take_of_length_le (show A.length ≤ A.length + 2 by omega), Nat.add_sub_cancel_left, List.take_append_of_le_length hB, List.drop_append, List.drop_eq_nil_of_le (show A.length ≤ A.length + 2 + B.length by omega), List.nil_append,
  show A.length + 2 + B.length - A.length = B.length + 2 by omega, List.drop_append, List.drop_eq_nil_of_le (show B.length ≤ B.length + 2 by omega), List.nil_append, Nat.add_sub_cancel_left]
 simp
def insT (ts : List Tk) (i : Nat) (t : Tk) : List Tk := ts.take i ++ t :: ts.drop i
theorem insT_len (ts : List Tk) (i : Nat) (t : Tk) : (insT ts i t).length = ts.length + 1 := by unfold insT; simp; omega
theorem insT_flat (ts : List Tk) (i : Nat) (t : Tk) : (insT ts i t).flatMap Tk.cs = (ts.take i).flatMap Tk.cs ++ (t.cs ++ (ts.drop i).flatMap Tk.cs) := by simp [insT]
theorem insT_end (ts : List Tk) (t : Tk) : insT ts ts.length t = ts ++ [t] := by simp [insT]
theorem insL (ts : List Tk) (i : Nat) (t z : Tk) (hi : i ≤ ts.length) : (((ts.take i ++ List.replicate (ts.length + 1 - i) z).set i t).take (i + 1) ++ ts.drop i ++ ((ts.take i ++ List.replicate (ts.length + 1 - i) z).set i t).drop (i + 1 + (ts.drop i).length)) = insT ts i t := by
 have hl : (ts.take i).length = i := by simp; omega
 have e : (ts.take i ++ List.replicate (ts.length + 1 - i) z).set i t = (ts.take i ++ [t]) ++ List.replicate (ts.length - i) z := by
  rw [show ts.length + 1 - i = (ts.length - i) + 1 by omega, List.replicate_succ, List.set_append_right _ _ (by omega), hl, Nat.sub_self]; simp
 have hl2 : (ts.take i ++ [t]).length = i + 1 := by simp; omega
 have hl3 : ((ts.take i ++ [t]) ++ List.replicate (ts.length - i) z).length ≤ i + 1 + (ts.drop i).length := by rw [List.length_append, hl2, List.length_replicate, List.length_drop]; omega
 rw [e, List.take_left' hl2, List.drop_eq_nil_of_le hl3]
 simp [insT]
theorem toTk {v : Value} {k : Nat} {xs : List Value} (ts : List Tk) (hk : k = ts.length) (hx : xs = ts.flatMap Tk.cs) {Γ : List Asn} : ∀ h, star (Sl' 103 2 v k xs :: Γ) h → star (TkS v ts :: Γ) h := by subst hk hx; exact fun _ h => h
theorem c204_nil (b2 : Nat) (t : Tk) : Tri Tryz.prog 204 [.slice none 0 0, .int .i64 ((0 : Nat) : Int), .slice (some ⟨b2, 0, none⟩) 1 1] [pt b2 (cel t.cs 103)] (fun v Γ' => Γ' = [TkS v [t]]) := by
 refine Pcalls (n := 95) Tryz.func204 rfl rfl rfl fun W0 H0 => ?_
 refine SP.r2 ?_
 refine XL.a ?_
 refine XL.n4 ?_
 refine XL.m ?_
 refine XL.m ?_
 refine XL.slice0 (E := 103) (k := 2) rfl ⟨_, rfl, rfl⟩ rfl rfl ?_
 refine XL.n4 ?_
 refine XL.m ?_
 refine XL.len (by rfl) (by rfl) ?_
 refine XL.a ?_
 refine XL.n5 ?_
 refine SP.r2 ?_
 refine XL.m ?_
 refine XL.eql_f rfl rfl (by omega) rfl ?_
 refine XL.n2 ?_
 refine SP.f ?_
 refine SP.skip ?_
 refine Jp.n4 ?_
 refine XL.m ?_
 refine XL.len (by rfl) (by rfl) ?_
 refine XL.a ?_
 refine XL.n5 ?_
 refine SP.r2 ?_
 refine XL.m ?_
 refine XL.m ?_
 refine XL.eql_t rfl rfl (by omega) rfl ?_
 refine XL.n2 ?_
 refine SP.t ?_
 refine SP.r2 ?_
 refine XL.m ?_
 refine XL.m ?_
 refine XL.weaken (star_nilS (E := 103) (k := 2)) ?_
 refine XL.append (k := 2) (z := [.int .i64 0, .int .i64 0]) (bt := 16) (xs := []) (ys := t.cs) (m := 0) (m2 := 1) rfl rfl ⟨_, Tryz.underlying78⟩ (by repeat' constructor) rfl rfl rfl (by omega) rfl rfl (fun v => ?_)
 refine XL.a ?_
 refine XL.n2 ?_
 refine SP.ret ?_
 refine Jp.then_ret ?_
 refine Jp.go (Pk.drop (Γ1 := [TkS v [t]]) (by repeat' constructor)) (Jp.end1 (.inr rfl) rfl rfl rfl)
theorem c204_blk (b cap b2 i : Nat) (ts : List Tk) (t : Tk) (hi : i ≤ ts.length) (hn : ts.length ≤ 100000) : Tri Tryz.prog 204 [.slice (some ⟨b, 0, none⟩) ts.length cap, .int .i64 ((i : Nat) : Int), .slice (some ⟨b2, 0, none⟩) 1 1] [TkS (.slice (some ⟨b, 0, none⟩) ts.length cap) ts, pt b2 (cel t.cs 103)] (fun v Γ' => Γ' = [TkS v (insT ts i t)]) := by
 refine Pcalls (n := 95) Tryz.func204 rfl rfl rfl fun W0 H0 => ?_
 refine SP.openS (by repeat' constructor) (fun hv => by cases hv) (fun b' cap' rest hv hlx hc hcap => ?_)
 cases hv
 refine SP.pure (p := b ≠ b2) (fun w s => by obtain ⟨h, st, _⟩ := s; exact pt_ne st) (fun hne => ?_)
 have hA : ((ts.take i).flatMap Tk.cs).length = i * 2 := (flat_split Tk.len ts i hi).2
 have hAB := (flat_split Tk.len ts i hi).1
 have hB : ((ts.drop i).flatMap Tk.cs).length = (ts.length - i) * 2 := by rw [flat_len' Tk.len]; simp
 have hrl : rest.length = (cap - ts.length) * 2 := by rw [List.length_append, hlx] at hc; omega
 refine SP.r2 ?_
 refine XL.a ?_
 refine XL.n4 ?_
 refine XL.m ?_
 refine XL.m ?_
 refine XL.slice (l := i) (h := ts.length) rfl ⟨_, rfl, rfl⟩ rfl hi hcap rfl rfl rfl rfl ?_
 refine XL.n4 ?_
 refine XL.m ?_
 refine XL.len (by rfl) (by rfl) ?_
 refine XL.a ?_
 refine XL.n5 ?_
 refine SP.r2 ?_
 refine XL.m ?_
 refine XL.eql_f rfl rfl (by omega) rfl ?_
 refine XL.n2 ?_
 refine SP.f ?_
 refine SP.skip ?_
 refine Jp.n4 ?_
 refine XL.m ?_
 refine XL.len (by rfl) (by rfl) ?_
 refine XL.a ?_
 refine XL.n5 ?_
 refine SP.r2 ?_
 refine XL.m ?_
 refine XL.m ?_
 refine XL.eql_s rfl rfl rfl (fun he => ?_) (fun he => ?_)
 ·refine XL.n2 ?_
  refine SP.t ?_
  refine SP.r2 ?_
  refine XL.m ?_
  refine XL.m ?_
  obtain rfl : i = ts.length := by omega
  refine XL.weaken (star_closeS hlx hc hcap) ?_
  refine XL.append (k := 2) (z := [.int .i64 0, .int .i64 0]) (bt := 16) (xs := ts.flatMap Tk.cs) (ys := t.cs) (m := ts.length) (m2 := 1) rfl rfl ⟨_, Tryz.underlying78⟩ (by repeat' constructor) rfl rfl rfl (by omega) rfl rfl (fun v => ?_)
  refine XL.weaken (toTk (insT ts ts.length t) (by rw [insT_len]) (by rw [insT_end]; simp)) ?_
  refine XL.a ?_
  refine XL.n2 ?_
  refine SP.ret ?_
  refine Jp.then_ret ?_
  first
   | exact Jp.go (Pk.drop (Γ1 := [TkS v (insT ts ts.length t)]) (by repeat' constructor)) (Jp.end1 (.inr rfl) rfl rfl rfl)
   | exact Jp.go (toTk (insT ts i t) (by rw [insT_len, hL1]) (by rw [← insL ts i t ⟨0, 0⟩ hi, hL])) (Jp.go (Pk.drop (Γ1 := [TkS (.slice (some ⟨b4, 0, none⟩) L1.length c4) (insT ts i t)]) (by repeat' constructor)) (Jp.end1 (.inr rfl) rfl rfl rfl))
   | exact Jp.go (fun h s => star_closeS (k := 2) (m := ts.length + 1) (cap := cap) (xs := (insT ts i t).flatMap Tk.cs) (rest := rest.drop 2) (by rw [flat_len' Tk.len, insT_len]) (by rw [List.length_append, flat_len' Tk.len, insT_len, List.length_drop]; omega) (by omega) h (by rw [insT_flat]; simpa using s)) (Jp.go (toTk (insT ts i t) (by rw [insT_len]) rfl) (Jp.go (Pk.drop (Γ1 := [TkS (.slice (some ⟨b, 0, none⟩) (ts.length + 1) cap) (insT ts i t)]) (by repeat' constructor)) (Jp.end1 (.inr rfl) rfl rfl rfl)))
 ·refine XL.n2 ?_
  refine SP.f ?_
  refine SP.skip ?_
  refine Jp.then_normal ?_
  refine SP.seq ?_
  refine SP.r2 ?_
  refine XL.m ?_
  refine XL.m ?_
  refine XL.add_i64 rfl rfl (by omega) (by omega) rfl ?_
  refine XL.m ?_
  refine XL.cap rfl rfl ?_
  refine XL.gtr_s rfl rfl rfl (fun hg => ?_) (fun hg => ?_)
  ·refine XL.n2 ?_
   refine SP.t ?_
   refine SP.r2 ?_
   refine XL.m ?_
   refine XL.m ?_
   refine XL.slice (l := 0) (h := i) (r := 0) rfl rfl ⟨_, rfl, rfl⟩ (by omega) (by omega) (by split <;> rfl) rfl rfl rfl ?_
   refine XL.m ?_
   refine XL.m ?_
   refine XL.add_i64 rfl rfl (by omega) (by omega) rfl ?_
   refine XL.m ?_
   refine XL.sub_i64 rfl rfl (by omega) (by omega) rfl ?_
   refine XL.appendMake (k := 2) (z := [.int .i64 0, .int .i64 0]) (bt := 16) (j := ts.length + 1 - i) (sl := i) (xs := (ts.take i).flatMap Tk.cs) rfl rfl (by omega) ⟨_, Tryz.underlying3⟩ (by rw [hAB, List.append_assoc]; exact SbL.head hA) (by omega) rfl rfl rfl (by omega) rfl (fun v' => ?_)
   refine XL.weaken (toTk (ts.take i ++ List.replicate (ts.length + 1 - i) ⟨0, 0⟩) (by simp; omega) (by rw [List.flatMap_append, ← zeroCells_flat Tk.len])) ?_
   generalize hL : ts.take i ++ List.replicate (ts.length + 1 - i) (⟨0, 0⟩ : Tk) = L1
   have hL1 : L1.length = ts.length + 1 := by rw [← hL]; simp; omega
   refine XL.know (Rm.know (A := TkS v' L1) (by repeat' constructor) (fun h s => Sl'.ptr s (by omega))) ?_
   rintro ⟨b4, c4, rfl, hc4⟩
   refine XL.a ?_
   refine XL.n4 ?_
   refine XL.m ?_
   refine XL.m ?_
   refine XL.slice (l := i) (h := L1.length) (r := i * 2) rfl ⟨_, rfl, rfl⟩ rfl (by omega) hc4 (by rw [if_neg (by omega)]; omega) rfl rfl rfl ?_
   refine XL.m ?_
   refine XL.copy (nn := 1) (cs1' := (L1.set i t).flatMap Tk.cs) (ys := t.cs) rfl rfl (by omega) (SbL.whole rfl) (StL.flat Tk.len t (by omega) rfl) rfl rfl ?_
   refine XL.n5 ?_
   refine SP.tail 8 Tryz.fol (by kernel_rfl) ?_
   refine XL.m ?_
   refine XL.m ?_
   refine XL.m ?_
   refine XL.add_i64 rfl rfl (by omega) (by omega) rfl ?_
   refine XL.slice (l := i + 1) (h := L1.length) (r := (i + 1) * 2) rfl ⟨_, rfl, by omega⟩ rfl (by omega) hc4 (by rw [if_neg (by omega)]; omega) rfl rfl rfl ?_
   refine XL.m ?_
   refine XL.m ?_
   refine XL.slice (l := i) (h := ts.length) (r := i * 2) rfl ⟨_, rfl, rfl⟩ rfl hi hcap (by rw [if_neg (by omega)]; omega) rfl rfl rfl ?_
   refine XL.nilq_tail ?_
   refine XL.copy (nn := ts.length - i) (ys := (ts.drop i).flatMap Tk.cs) rfl rfl (by omega) (by rw [hAB, List.append_assoc]; exact SbL.mid hA hB) (StL.seg (ys := ts.drop i) (i := i + 1) Tk.len (by simp; omega) (by omega)) (sca_flat Tk.sca _) rfl ?_
   refine XL.n4 ?_
   refine XL.m ?_
   refine XL.a ?_
   refine XL.n2 ?_
   refine SP.ret ?_
   refine Jp.then_ret ?_
   first
    | exact Jp.go (Pk.drop (Γ1 := [TkS v (insT ts ts.length t)]) (by repeat' constructor)) (Jp.end1 (.inr rfl) rfl rfl rfl)
    | exact Jp.go (toTk (insT ts i t) (by rw [insT_len, hL1]) (by rw [← insL ts i t ⟨0, 0⟩ hi, hL])) (Jp.go (Pk.drop (Γ1 := [TkS (.slice (some ⟨b4, 0, none⟩) L1.length c4) (insT ts i t)]) (by repeat' constructor)) (Jp.end1 (.inr rfl) rfl rfl rfl))
    | exact Jp.go (fun h s => star_closeS (k := 2) (m := ts.length + 1) (cap := cap) (xs := (insT ts i t).flatMap Tk.cs) (rest := rest.drop 2) (by rw [flat_len' Tk.len, insT_len]) (by rw [List.length_append, flat_len' Tk.len, insT_len, List.length_drop]; omega) (by omega) h (by rw [insT_flat]; simpa using s)) (Jp.go (toTk (insT ts i t) (by rw [insT_len]) rfl) (Jp.go (Pk.drop (Γ1 := [TkS (.slice (some ⟨b, 0, none⟩) (ts.length + 1) cap) (insT ts i t)]) (by repeat' constructor)) (Jp.end1 (.inr rfl) rfl rfl rfl)))
  ·refine XL.n2 ?_
   refine SP.f ?_
   refine SP.skip ?_
   refine Jp.n4 ?_
   refine XL.m ?_
   refine XL.m ?_
   refine XL.m ?_
   refine XL.add_i64 rfl rfl (by omega) (by omega) rfl ?_
   refine XL.slice (l := 0) (h := ts.length + 1) (r := 0) rfl rfl ⟨_, rfl, by omega⟩ (by omega) (by omega) (by split <;> rfl) rfl rfl rfl ?_
   refine XL.a ?_
   refine XL.n5 ?_
   refine SP.r2 ?_
   refine XL.m ?_
   refine XL.m ?_
   refine XL.m ?_
   refine XL.m ?_
   refine XL.add_i64 rfl rfl (by omega) (by omega) rfl ?_
   refine XL.slice (l := i + 1) (h := ts.length + 1) (r := (i + 1) * 2) rfl ⟨_, rfl, by omega⟩ rfl (by omega) (by omega) (by rw [if_neg (by omega)]; omega) rfl rfl rfl ?_
   refine XL.ext rfl (ov_apart (PtC.there _ _ _ _ _) (PtC.here _ _ _ _) (fun e => hne e.symm) (fun e => by have := congrArg List.length e; simp [hlx] at this; omega)) rfl ?_
   refine XL.not_f rfl rfl ?_
   refine XL.n2 ?_
   refine SP.t ?_
   refine SP.seq ?_
   refine SP.tail 8 Tryz.fol (by kernel_rfl) ?_
   refine XL.m ?_
   refine XL.m ?_
   refine XL.m ?_
   refine XL.add_i64 rfl rfl (by omega) (by omega) rfl ?_
   refine XL.slice (l := i + 1) (h := ts.length + 1) (r := (i + 1) * 2) rfl ⟨_, rfl, by omega⟩ rfl (by omega) (by omega) (by rw [if_neg (by omega)]; omega) rfl rfl rfl ?_
   refine XL.m ?_
   refine XL.m ?_
   refine XL.slice (l := i) (h := ts.length + 1) (r := i * 2) rfl ⟨_, rfl, rfl⟩ rfl (by omega) (by omega) (by rw [if_neg (by omega)]; omega) rfl rfl rfl ?_
   refine XL.nilq_tail ?_
   obtain ⟨hs1, hs2⟩ := ins_lists (A := (ts.take i).flatMap Tk.cs) (B := (ts.drop i).flatMap Tk.cs) (R := rest) (T := t.cs) (by omega) (by omega) rfl
   rw [← hAB, hA] at hs1
   rw [hA] at hs2
   refine XL.copy (nn := ts.length - i) (ys := (ts.drop i).flatMap Tk.cs) (cs1' := (ts.take i).flatMap Tk.cs ++ (((ts.drop i).flatMap Tk.cs).take 2 ++ ((ts.drop i).flatMap Tk.cs ++ rest.drop 2))) rfl rfl (by omega) (by rw [hAB, List.append_assoc]; exact SbL.mid hA hB) (show StL _ ((i + 1) * 2) _ _ by rw [show (i + 1) * 2 = i * 2 + 2 by omega]; exact hs1) (sca_flat Tk.sca _) rfl ?_
   refine XL.n4 ?_
   refine XL.m ?_
   refine XL.m ?_
   refine XL.slice (l := i) (h := ts.length + 1) (r := i * 2) rfl ⟨_, rfl, rfl⟩ rfl (by omega) (by omega) (by rw [if_neg (by omega)]; omega) rfl rfl rfl ?_
   refine XL.m ?_
   refine XL.copy (nn := 1) rfl rfl (by omega) (SbL.whole rfl) hs2 rfl rfl ?_
   refine XL.n4 ?_
   refine XL.m ?_
   refine XL.a ?_
   refine XL.n2 ?_
   refine SP.ret ?_
   refine Jp.then_ret ?_
   first
    | exact Jp.go (Pk.drop (Γ1 := [TkS v (insT ts ts.length t)]) (by repeat' constructor)) (Jp.end1 (.inr rfl) rfl rfl rfl)
    | exact Jp.go (toTk (insT ts i t) (by rw [insT_len, hL1]) (by rw [← insL ts i t ⟨0, 0⟩ hi, hL])) (Jp.go (Pk.drop (Γ1 := [TkS (.slice (some ⟨b4, 0, none⟩) L1.length c4) (insT ts i t)]) (by repeat' constructor)) (Jp.end1 (.inr rfl) rfl rfl rfl))
    | exact Jp.go (fun h s => star_closeS (k := 2) (m := ts.length + 1) (cap := cap) (xs := (insT ts i t).flatMap Tk.cs) (rest := rest.drop 2) (by rw [flat_len' Tk.len, insT_len]) (by rw [List.length_append, flat_len' Tk.len, insT_len, List.length_drop]; omega) (by omega) h (by rw [insT_flat]; simpa using s)) (Jp.go (toTk (insT ts i t) (by rw [insT_len]) rfl) (Jp.go (Pk.drop (Γ1 := [TkS (.slice (some ⟨b, 0, none⟩) (ts.length + 1) cap) (insT ts i t)]) (by repeat' constructor)) (Jp.end1 (.inr rfl) rfl rfl rfl)))
theorem c204 (v : Value) (i b2 : Nat) (ts : List Tk) (t : Tk) (hi : i ≤ ts.length) (hn : ts.length ≤ 100000) :
  Tri Tryz.prog 204 [v, .int .i64 (i : Int), .slice (some ⟨b2, 0, none⟩) 1 1] [TkS v ts, pt b2 (cel t.cs 103)] (fun r Γ' => Γ' = [TkS r (insT ts i t)]) := by
 refine Tri.slv (Γ2 := [pt b2 (cel t.cs 103)]) (Rm.here _ _) (fun hv hz hx => ?_) (fun b cap hv hlx hcap => ?_)
 ·subst hv
  have : ts = [] := List.length_eq_zero_iff.1 hz
  subst this
  obtain rfl : i = 0 := by simpa using hi
  exact Tri.pre (fun h s => star_weaken s) (c204_nil b2 t)
 ·subst hv; exact c204_blk b cap b2 i ts t hi hn
def delT (ts : List Tk) (i : Nat) : List Tk := ts.take i ++ ts.drop (i + 1)
theorem delT_len (ts : List Tk) (i : Nat) (h : i < ts.length) : (delT ts i).length = ts.length - 1 := by unfold delT; simp; omega
def delM (ts : List Tk) (i : Nat) : List Tk := ts.take i ++ ts.drop (i + 1) ++ ts.drop (i + (ts.drop (i + 1)).length)
theorem delM_len (ts : List Tk) (i : Nat) (h : i < ts.length) : (delM ts i).length = ts.length := by unfold delM; simp; omega
theorem delM_take (ts : List Tk) (i : Nat) (h : i < ts.length) (z : Tk) : (((delM ts i).set (ts.length - 1) z).flatMap Tk.cs).take ((ts.length - 1) * 2) = (delT ts i).flatMap Tk.cs := by
 have hl := delT_len ts i h
 have e : (delM ts i).set (ts.length - 1) z = delT ts i ++ ((ts.drop (i + (ts.drop (i + 1)).length)).set 0 z) := by
  unfold delM
  rw [show ts.take i ++ ts.drop (i + 1) = delT ts i from rfl, List.set_append_right _ _ (by omega), hl, Nat.sub_self]
 rw [e, List.flatMap_append, List.take_left' (by rw [flat_len' Tk.len, hl])]
theorem c198 (b cap i : Nat) (ts : List Tk) (hi : i < ts.length) (hn : ts.length ≤ 100000) : Tri Tryz.prog 198 [.slice (some ⟨b, 0, none⟩) ts.length cap, .int .i64 (i : Int), .int .i64 ((i : Int) + 1)] [TkS (.slice (some ⟨b, 0, none⟩) ts.length cap) ts] (fun v Γ' => Γ' = [TkS v (delT ts i)]) := by
 refine Pcalls (n := 33) Tryz.func198 rfl rfl rfl fun W0 H0 => ?_
 refine SP.pure (p := ts.length ≤ cap) (fun w s => by obtain ⟨h, ⟨h1, h2, _, _, a, _⟩, _⟩ := s; obtain ⟨b', c', e, hc⟩ := Sl'.ptr a (by omega); cases e; exact hc) (fun hcap => ?_)
 refine SP.r2 ?_
 refine XL.a ?_
 refine XL.n4 ?_
 refine XL.m ?_
 refine XL.m ?_
 refine XL.m ?_
 refine XL.m ?_
 refine XL.len (by rfl) (by rfl) ?_
 refine XL.slice3 (l := i) (h := i + 1) (m := ts.length) rfl ⟨_, rfl, rfl⟩ ⟨_, rfl, by omega⟩ ⟨_, rfl, rfl⟩ (by omega) (by omega) hcap rfl rfl rfl rfl ?_
 refine XL.n5 ?_
 refine SP.r2 ?_
 refine XL.m ?_
 refine XL.m ?_
 refine XL.eql_f rfl rfl (by omega) rfl ?_
 refine XL.n2 ?_
 refine SP.f ?_
 refine SP.skip ?_
 refine Jp.n4 ?_
 refine XL.m ?_
 refine XL.len (by rfl) (by rfl) ?_
 refine XL.a ?_
 refine XL.n5 ?_
 refine SP.tail 6 Tryz.fol (by kernel_rfl) ?_
 refine XL.m ?_
 refine XL.m ?_
 refine XL.slice (l := 0) (h := i) (r := 0) rfl rfl ⟨_, rfl, rfl⟩ (by omega) (by omega) (by split <;> rfl) rfl rfl rfl ?_
 refine XL.m ?_
 refine XL.m ?_
 refine XL.slice (l := i + 1) (h := ts.length) (r := if cap = i + 1 then 0 else (i + 1) * 2) rfl ⟨_, rfl, by omega⟩ rfl (by omega) hcap (by simp) rfl rfl rfl ?_
 refine XL.nilq_tail ?_
 refine XL.appendIn (k := 2) (sl := i) (m2 := ts.length - (i + 1)) (cap := cap) (ys := (ts.drop (i + 1)).flatMap Tk.cs) (cs' := (delM ts i).flatMap Tk.cs) rfl rfl ⟨_, Tryz.underlying78⟩ (by omega) ?_ (StL.seg (ys := ts.drop (i + 1)) (i := i) Tk.len (by simp; omega) (by omega)) (sca_flat Tk.sca _) rfl ?_
 ·split
  ·rw [show ts.length - (i + 1) = 0 by omega, List.drop_eq_nil_of_le (by omega)]; exact SbL.none (by simp)
  ·have := SbL.seg (j := ts.length - (i + 1)) (i := i + 1) (l := ts) Tk.len (by omega) rfl rfl
   rwa [List.take_of_length_le (by simp)] at this
 rw [show i + (ts.length - (i + 1)) = ts.length - 1 by omega]
 refine XL.a ?_
 refine XL.n4 ?_
 refine XL.m ?_
 refine XL.m ?_
 refine XL.len (by rfl) (by rfl) ?_
 refine XL.m ?_
 refine XL.slice (l := ts.length - 1) (h := ts.length) (r := (ts.length - 1) * 2) rfl ⟨_, rfl, by omega⟩ ⟨_, rfl, rfl⟩ (by omega) hcap (by rw [if_neg (by omega)]; omega) rfl rfl rfl ?_
 refine XL.clear (z := [.int .i64 0, .int .i64 0]) (m := ts.length - (ts.length - 1)) (cs' := ((delM ts i).set (ts.length - 1) ⟨0, 0⟩).flatMap Tk.cs) rfl rfl (by rw [show ts.length - (ts.length - 1) = 1 by omega]; show StL _ _ (Builtin.zeroCells (Tk.cs ⟨0, 0⟩).toArray 1).toList _; rw [zeroCells_flat Tk.len]; exact StL.flat Tk.len (l := delM ts i) (i := ts.length - 1) ⟨0, 0⟩ (by rw [delM_len ts i hi]; omega) rfl) ?_
 refine XL.n4 ?_
 refine XL.m ?_
 refine XL.a ?_
 refine XL.n2 ?_
 refine SP.ret ?_
 refine Jp.go (fun h s => star_head (fun k hk => Sl'.shrink (m' := ts.length - 1) hk (Nat.sub_le _ _)) s) ?_
 exact Jp.go (toTk (delT ts i) (by rw [delT_len ts i hi]) (delM_take ts i hi _)) (Jp.end1 (.inr rfl) rfl rfl rfl)
end Go.Proofs

namespace Go.Proofs
open Go.Bk
def wakeT (ts : List Tk) (k d : Int) : List Tk := match fidx (atT k) ts with
 | .ofNat i => match ts[i]? with
  | some t => ts.set i ⟨t.i, if d < t.due then d else t.due⟩
  | none => ts
 | .negSucc _ => match fidx (gtT k) ts with
  | .ofNat p => insT ts p ⟨k, d⟩
  | .negSucc _ => insT ts ts.length ⟨k, d⟩
theorem wakeT_old {ts : List Tk} {k d : Int} {i : Nat} {t : Tk} (h : fidx (atT k) ts = (i : Int)) (hg : ts[i]? = some t) : wakeT ts k d = ts.set i ⟨t.i, if d < t.due then d else t.due⟩ := by
 unfold wakeT; rw [h]
 show (match ts[i]? with
  | some t => ts.set i ⟨t.i, if d < t.due then d else t.due⟩
  | none => ts) = _
 rw [hg]
theorem wakeT_end {ts : List Tk} {k d : Int} (h : ¬ 0 ≤ fidx (atT k) ts) (hg : fidx (gtT k) ts < 0) : wakeT ts k d = insT ts ts.length ⟨k, d⟩ := by
 unfold wakeT; split
 ·rename_i i e; rw [e] at h; exact absurd (Int.natCast_nonneg i) h
 ·split
  ·rename_i i e; rw [e] at hg; exact absurd hg (by show ¬ ((i : Int) < 0); omega)
  ·rfl
theorem wakeT_mid {ts : List Tk} {k d : Int} {p : Nat} (h : ¬ 0 ≤ fidx (atT k) ts) (hg : fidx (gtT k) ts = (p : Int)) : wakeT ts k d = insT ts p ⟨k, d⟩ := by
 unfold wakeT; split
 ·rename_i i e; rw [e] at h; exact absurd (Int.natCast_nonneg i) h
 ·rw [hg]
def dropT (ts : List Tk) (k : Int) : List Tk := match fidx (atT k) ts with
 | .ofNat i => delT ts i
 | .negSucc _ => ts
theorem dropT_old {ts : List Tk} {k : Int} {i : Nat} (h : fidx (atT k) ts = (i : Int)) : dropT ts k = delT ts i := by unfold dropT; rw [h]
theorem dropT_none {ts : List Tk} {k : Int} (h : ¬ 0 ≤ fidx (atT k) ts) : dropT ts k = ts := by
 unfold dropT; split
 ·rename_i i e; rw [e] at h; exact absurd (Int.natCast_nonneg i) h
 ·rfl
theorem c195 (b : Nat) (c : Ch) (k d : Int) (hc : c.Ok) (hn : c.ticks.length ≤ 4096) (h0 : 0 ≤ k) (h1 : k < 4096) (hd : 1 ≤ d) : Tri Tryz.prog 195 [.pointer (some ⟨b, 0, none⟩), .int .i64 k, .int .i64 d] [pt b (cel c.cs 80), TkS c.tv c.ticks] (fun v Γ' => v = .tuple #[] ∧ ∃ tv', sca tv' = true ∧ Γ' = [pt b (cel ({ c with tv := tv' } : Ch).cs 80), TkS tv' (wakeT c.ticks k d)]) := by
 refine Pcalls (n := 65) Tryz.func195 rfl rfl rfl fun W0 H0 => ?_
 refine SP.r2 ?_
 refine XL.box rfl rfl rfl (fun b1 => ?_)
 refine XL.n5 ?_
 refine SP.r2 ?_
 refine XL.m ?_
 refine XL.pnnil_eql rfl rfl ?_
 refine XL.m ?_
 refine XL.g ?_
 refine XL.l ?_
 refine XL.g ?_
 refine XL.lss_f rfl rfl (by omega) rfl ?_
 refine XL.pick_f rfl rfl rfl ?_
 refine XL.m ?_
 refine XL.g ?_
 refine XL.l ?_
 refine XL.g ?_
 refine XL.geq_f rfl rfl (by omega) rfl ?_
 refine XL.pick_f rfl rfl rfl ?_
 refine XL.m ?_
 refine XL.g ?_
 refine XL.m ?_
 refine XL.g ?_
 refine XL.lss_f rfl rfl (by omega) rfl ?_
 refine XL.pick_f rfl rfl rfl ?_
 refine XL.n2 ?_
 refine SP.f ?_
 refine SP.skip ?_
 refine Jp.n4 ?_
 refine XL.m ?_
 refine XL.nilCheck rfl rfl ?_
 refine XL.f ?_
 refine XL.load (hv := Ch.tv_at hc) rfl rfl ?_
 refine XL.cw rfl (c42 c.tv c.ticks (by omega)) (by repeat' constructor) rfl ?_
 rintro v _ rfl
 refine XL.app2 ?_
 refine XL.a ?_
 refine XL.n5 ?_
 refine SP.r2 ?_
 refine XL.m ?_
 refine XL.l ?_
 refine XL.cr rfl (c197 b c k hc hn h0 h1) (by repeat' constructor) rfl ?_
 refine XL.a ?_
 refine XL.n4 ?_
 refine XL.m ?_
 refine XL.geq_s rfl rfl rfl (fun hp => ?_) (fun hp => ?_)
 ·refine XL.n2 ?_
  refine SP.t ?_
  refine SP.r2 ?_
  obtain ⟨i, t, hi, hg, -⟩ := fidx_at hp
  have hlt : i < c.ticks.length := (List.getElem?_eq_some_iff.1 hg).1
  rw [hi]
  refine XL.know (Rm.know (A := TkS v c.ticks) (by repeat' constructor) (fun h s => Sl'.ptr s (by omega))) ?_
  rintro ⟨b5, c5, rfl, hc5⟩
  refine XL.m ?_
  refine XL.m ?_
  refine XL.m ?_
  refine XL.m ?_
  refine XL.indexSl (r := i * 2) rfl rfl (by omega) (by omega) (by simp) rfl ?_
  refine XL.f ?_
  refine XL.load (hv := GtL.sub (j := 1) (SbL.flat Tk.len hg rfl) rfl) rfl rfl ?_
  refine XL.m ?_
  refine XL.min2 rfl rfl rfl rfl ?_
  refine XL.indexSl (r := i * 2) rfl rfl (by omega) (by omega) (by simp) rfl ?_
  refine XL.f ?_
  refine XL.store (hs := StL.field Tk.len hg (y := ⟨t.i, if d < t.due then d else t.due⟩) rfl (by omega)) rfl rfl rfl ?_
  refine XL.n4 ?_
  refine XL.m ?_
  refine XL.m ?_
  refine XL.nilCheck rfl rfl ?_
  refine XL.f ?_
  refine XL.store (hs := Ch.tv_set hc _) rfl rfl rfl ?_
  refine XL.n2 ?_
  refine SP.ret ?_
  refine Jp.then_ret ?_
  first
   | exact Jp.go (Pk.drop (Γ1 := [pt b (cel ({ c with tv := v2 } : Ch).cs 80), TkS v2 (insT c.ticks p ⟨k, d⟩)]) (by repeat' constructor)) (Jp.end0 (.inr rfl) rfl ⟨rfl, v2, hsv, by rw [wakeT_mid hp hpi]⟩)
   | exact Jp.go (Pk.drop (Γ1 := [pt b (cel ({ c with tv := v2 } : Ch).cs 80), TkS v2 (insT c.ticks c.ticks.length ⟨k, d⟩)]) (by repeat' constructor)) (Jp.end0 (.inr rfl) rfl ⟨rfl, v2, hsv, by rw [wakeT_end hp hq]⟩)
   | exact Jp.go (toTk (c.ticks.set i ⟨t.i, if d < t.due then d else t.due⟩) (by rw [List.length_set]) rfl) (Jp.go (Pk.drop (Γ1 := [pt b (cel ({ c with tv := .slice (some ⟨b5, 0, none⟩) c.ticks.length c5 } : Ch).cs 80), TkS (.slice (some ⟨b5, 0, none⟩) c.ticks.length c5) (c.ticks.set i ⟨t.i, if d < t.due then d else t.due⟩)]) (by repeat' constructor)) (Jp.end0 (.inr rfl) rfl ⟨rfl, _, rfl, by rw [wakeT_old hi hg]⟩))
 ·refine XL.n2 ?_
  refine SP.f ?_
  refine SP.skip ?_
  refine Jp.n4 ?_
  refine XL.m ?_
  refine XL.makeFunc rfl rfl rfl ?_
  refine XL.cr rfl (c202 203 [.pointer (some ⟨b1, 0, none⟩)] (gtT k) (pt b1 (cel [.int .i64 k] 3)) v c.ticks (fun t => c203 t k b1) (by omega)) (by repeat' constructor) rfl ?_
  refine XL.a ?_
  refine XL.n5 ?_
  refine SP.r2 ?_
  refine XL.m ?_
  refine XL.lss_s rfl rfl rfl (fun hq => ?_) (fun hq => ?_)
  ·refine XL.n2 ?_
   refine SP.t ?_
   refine SP.region ?_
   refine XL.m ?_
   refine XL.lenS rfl (by repeat' constructor) rfl ?_
   refine XL.a ?_
   refine XL.n3 ?_
   refine XL.m ?_
   refine XL.m ?_
   refine XL.m ?_
   refine XL.l ?_
   refine XL.m ?_
   refine XL.build (by rfl) (by rfl) ?_
   refine XL.buildSlice (by rfl) (by rfl) (by rfl) (by decide) rfl (fun b3 => ?_)
   first | refine XL.cw rfl (c204 v p b3 c.ticks ⟨k, d⟩ (by omega) (by omega)) (by repeat' constructor) rfl ?_ | refine XL.cw rfl (c204 v c.ticks.length b3 c.ticks ⟨k, d⟩ (by omega) (by omega)) (by repeat' constructor) rfl ?_
   rintro v2 _ rfl
   refine XL.app1 ?_
   refine XL.nilCheck rfl rfl ?_
   refine XL.f ?_
   refine XL.know (Rm.know (A := TkS v2 _) (by repeat' constructor) (fun h s => TkS.sca s)) (fun hsv => ?_)
   refine XL.store (hs := Ch.tv_set hc _) rfl rfl hsv ?_
   refine XL.nil ?_
   first
    | exact Jp.go (Pk.drop (Γ1 := [pt b (cel ({ c with tv := v2 } : Ch).cs 80), TkS v2 (insT c.ticks p ⟨k, d⟩)]) (by repeat' constructor)) (Jp.end0 (.inl rfl) rfl ⟨rfl, v2, hsv, by rw [wakeT_mid hp hpi]⟩)
    | exact Jp.go (Pk.drop (Γ1 := [pt b (cel ({ c with tv := v2 } : Ch).cs 80), TkS v2 (insT c.ticks c.ticks.length ⟨k, d⟩)]) (by repeat' constructor)) (Jp.end0 (.inl rfl) rfl ⟨rfl, v2, hsv, by rw [wakeT_end hp hq]⟩)
    | exact Jp.go (toTk (c.ticks.set i ⟨t.i, if d < t.due then d else t.due⟩) (by rw [List.length_set]) rfl) (Jp.go (Pk.drop (Γ1 := [pt b (cel ({ c with tv := .slice (some ⟨b5, 0, none⟩) c.ticks.length c5 } : Ch).cs 80), TkS (.slice (some ⟨b5, 0, none⟩) c.ticks.length c5) (c.ticks.set i ⟨t.i, if d < t.due then d else t.due⟩)]) (by repeat' constructor)) (Jp.end0 (.inl rfl) rfl ⟨rfl, _, rfl, by rw [wakeT_old hi hg]⟩))
  ·obtain ⟨p, tp, hpi, hpg, -⟩ := fidx_at (p := gtT k) (Int.not_lt.1 hq)
   have hlp : p < c.ticks.length := (List.getElem?_eq_some_iff.1 hpg).1
   rw [hpi]
   refine XL.n2 ?_
   refine SP.f ?_
   refine SP.skip ?_
   refine Jp.then_normal ?_
   refine SP.region ?_
   refine XL.m ?_
   refine XL.m ?_
   refine XL.m ?_
   refine XL.l ?_
   refine XL.m ?_
   refine XL.build (by rfl) (by rfl) ?_
   refine XL.buildSlice (by rfl) (by rfl) (by rfl) (by decide) rfl (fun b3 => ?_)
   first | refine XL.cw rfl (c204 v p b3 c.ticks ⟨k, d⟩ (by omega) (by omega)) (by repeat' constructor) rfl ?_ | refine XL.cw rfl (c204 v c.ticks.length b3 c.ticks ⟨k, d⟩ (by omega) (by omega)) (by repeat' constructor) rfl ?_
   rintro v2 _ rfl
   refine XL.app1 ?_
   refine XL.nilCheck rfl rfl ?_
   refine XL.f ?_
   refine XL.know (Rm.know (A := TkS v2 _) (by repeat' constructor) (fun h s => TkS.sca s)) (fun hsv => ?_)
   refine XL.store (hs := Ch.tv_set hc _) rfl rfl hsv ?_
   refine XL.nil ?_
   first
    | exact Jp.go (Pk.drop (Γ1 := [pt b (cel ({ c with tv := v2 } : Ch).cs 80), TkS v2 (insT c.ticks p ⟨k, d⟩)]) (by repeat' constructor)) (Jp.end0 (.inl rfl) rfl ⟨rfl, v2, hsv, by rw [wakeT_mid hp hpi]⟩)
    | exact Jp.go (Pk.drop (Γ1 := [pt b (cel ({ c with tv := v2 } : Ch).cs 80), TkS v2 (insT c.ticks c.ticks.length ⟨k, d⟩)]) (by repeat' constructor)) (Jp.end0 (.inl rfl) rfl ⟨rfl, v2, hsv, by rw [wakeT_end hp hq]⟩)
    | exact Jp.go (toTk (c.ticks.set i ⟨t.i, if d < t.due then d else t.due⟩) (by rw [List.length_set]) rfl) (Jp.go (Pk.drop (Γ1 := [pt b (cel ({ c with tv := .slice (some ⟨b5, 0, none⟩) c.ticks.length c5 } : Ch).cs 80), TkS (.slice (some ⟨b5, 0, none⟩) c.ticks.length c5) (c.ticks.set i ⟨t.i, if d < t.due then d else t.due⟩)]) (by repeat' constructor)) (Jp.end0 (.inl rfl) rfl ⟨rfl, _, rfl, by rw [wakeT_old hi hg]⟩))
theorem c190 (b : Nat) (c : Ch) (k : Int) (hc : c.Ok) (hn : c.ticks.length ≤ 4096) (h0 : 0 ≤ k) (h1 : k < 4096) : Tri Tryz.prog 190 [.pointer (some ⟨b, 0, none⟩), .int .i64 k] [pt b (cel c.cs 80), TkS c.tv c.ticks] (fun v Γ' => v = .tuple #[] ∧ ∃ tv', sca tv' = true ∧ Γ' = [pt b (cel ({ c with tv := tv' } : Ch).cs 80), TkS tv' (dropT c.ticks k)]) := by
 refine Pcalls (n := 22) Tryz.func190 rfl rfl rfl fun W0 H0 => ?_
 refine SP.r2 ?_
 refine XL.m ?_
 refine XL.m ?_
 refine XL.cr rfl (c197 b c k hc hn h0 h1) (by repeat' constructor) rfl ?_
 refine XL.a ?_
 refine XL.n4 ?_
 refine XL.m ?_
 refine XL.geq_s rfl rfl rfl (fun hp => ?_) (fun hp => ?_)
 ·refine XL.n2 ?_
  refine SP.t ?_
  refine SP.region ?_
  obtain ⟨i, t, hi, hg, -⟩ := fidx_at hp
  have hlt : i < c.ticks.length := (List.getElem?_eq_some_iff.1 hg).1
  rw [hi]
  refine XL.m ?_
  refine XL.m ?_
  refine XL.nilCheck rfl rfl ?_
  refine XL.f ?_
  refine XL.load (hv := Ch.tv_at hc) rfl rfl ?_
  refine XL.cw rfl (c42 c.tv c.ticks (by omega)) (by repeat' constructor) rfl ?_
  rintro v _ rfl
  refine XL.app2 ?_
  refine XL.know (Rm.know (A := TkS v c.ticks) (by repeat' constructor) (fun h s => Sl'.ptr s (by omega))) ?_
  rintro ⟨b5, c5, rfl, hc5⟩
  refine XL.m ?_
  refine XL.m ?_
  refine XL.add_i64 rfl rfl (by omega) (by omega) rfl ?_
  refine XL.cw rfl (c198 b5 c5 i c.ticks hlt (by omega)) (by repeat' constructor) rfl ?_
  rintro v2 _ rfl
  refine XL.app1 ?_
  refine XL.nilCheck rfl rfl ?_
  refine XL.f ?_
  refine XL.know (Rm.know (A := TkS v2 _) (by repeat' constructor) (fun h s => TkS.sca s)) (fun hsv => ?_)
  refine XL.store (hs := Ch.tv_set hc _) rfl rfl hsv ?_
  refine XL.nil ?_
  first
   | exact Jp.go (Pk.drop (Γ1 := [pt b (cel ({ c with tv := v2 } : Ch).cs 80), TkS v2 (delT c.ticks i)]) (by repeat' constructor)) (Jp.end0 (.inl rfl) rfl ⟨rfl, v2, hsv, by rw [dropT_old hi]⟩)
   | exact Jp.end0 (.inl rfl) rfl ⟨rfl, c.tv, hc.sc, by rw [dropT_none hp]⟩
 ·refine XL.n2 ?_
  refine SP.f ?_
  refine SP.skip ?_
  first
   | exact Jp.go (Pk.drop (Γ1 := [pt b (cel ({ c with tv := v2 } : Ch).cs 80), TkS v2 (delT c.ticks i)]) (by repeat' constructor)) (Jp.end0 (.inl rfl) rfl ⟨rfl, v2, hsv, by rw [dropT_old hi]⟩)
   | exact Jp.end0 (.inl rfl) rfl ⟨rfl, c.tv, hc.sc, by rw [dropT_none hp]⟩
theorem c190_0 (k : Int) : Pur Tryz.prog 190 [.pointer none, .int .i64 k] (.tuple #[]) := by
 refine Pcalls (n := 22) Tryz.func190 rfl rfl rfl fun W0 H0 => ?_
 refine SP.r2 ?_
 refine XL.m ?_
 refine XL.m ?_
 refine XL.cp rfl (c197_nil k) rfl ?_
 refine XL.a ?_
 refine XL.n4 ?_
 refine XL.m ?_
 refine XL.geq_f rfl rfl (by omega) rfl ?_
 refine XL.n2 ?_
 refine SP.f ?_
 refine SP.skip ?_
 exact Jp.pur0 (.inl rfl) rfl rfl
end Go.Proofs

namespace Go.Proofs
open Go.Bk
@[reducible] def TkN (v : Value) (m : Nat) (ts : List Tk) : Asn := Sl' 103 2 v m (ts.flatMap Tk.cs)
theorem swap_perm {α : Type} {l : List α} {i j : Nat} {x y : α} (hx : l[i]? = some x) (hy : l[j]? = some y) : ((l.set i y).set j x).Perm l := by
 obtain ⟨hi, rfl⟩ := List.getElem?_eq_some_iff.1 hx
 obtain ⟨hj, rfl⟩ := List.getElem?_eq_some_iff.1 hy
 exact List.set_set_perm hi hj
theorem get_of {α : Type} {l : List α} {i m : Nat} (hl : l.length = m) (h : i < m) : ∃ x, l[i]? = some x := ⟨_, List.getElem?_eq_getElem (by omega)⟩
theorem c215 (x y k : Nat) (a : Option Addr) (b cap m : Nat) (ts : List Tk) (hA : m ≠ 0 → a = some ⟨b, 0, none⟩) (hl : ts.length = m) (hm : m ≤ 100000) (hx : x + k ≤ m) (hy : y + k ≤ m) : Tri Tryz.prog 215 [.slice a m cap, .int .i64 (x : Int), .int .i64 (y : Int), .int .i64 (k : Int), .func (.func 200) #[] #[]] [TkN (.slice a m cap) m ts] (fun v Γ' => v = .tuple #[] ∧ ∃ ts' : List Tk, ts'.length = m ∧ ts'.Perm ts ∧ Γ' = [TkN (.slice a m cap) m ts']) := by
 refine Pcalls (n := 38) Tryz.func215 rfl rfl rfl fun W0 H0 => ?_
 refine SP.r2 ?_
 refine XL.a ?_
 refine XL.n2 ?_
 refine SP.block ?_
 refine SP.loop (X := Nat × List Tk) (fun p => [(10, .int .i64 (p.1 : Int)), (0, .slice a m cap), (1, .int .i64 (x : Int)), (2, .int .i64 (y : Int)), (3, .int .i64 (k : Int))]) (fun p => [TkN (.slice a m cap) m p.2]) (fun p => p.1 ≤ k ∧ p.2.length = m ∧ p.2.Perm ts) (fun p => k - p.1) (0, ts) ⟨Nat.zero_le _, hl, .refl _⟩ (by repeat' constructor) (Pk.drop (by repeat' constructor)) ?_
 rintro ⟨i, us⟩ ⟨hi, hus, hpus⟩
 dsimp only at *
 refine SP.seq ?_
 refine SP.r2 ?_
 refine XL.m ?_
 refine XL.m ?_
 refine XL.lss_s rfl rfl rfl (fun hik => ?_) (fun hik => ?_)
 ·obtain ⟨ti, hgi⟩ := get_of hus (show x + i < m by omega)
  obtain ⟨tj, hgj⟩ := get_of hus (show y + i < m by omega)
  obtain rfl := hA (by omega)
  refine XL.n2 ?_
  refine SP.t ?_
  refine SP.skip ?_
  refine Jp.then_normal ?_
  refine SP.cut (X := List Tk) (fun us2 => [(10, .int .i64 (i : Int)), (0, .slice (some ⟨b, 0, none⟩) m cap), (1, .int .i64 (x : Int)), (2, .int .i64 (y : Int)), (3, .int .i64 (k : Int))]) (fun us2 => [TkN (.slice (some ⟨b, 0, none⟩) m cap) m us2]) (fun us2 => us2.length = m ∧ us2.Perm ts) ?_ ?_
  ·refine SP.block ?_
   refine SP.any (m := 24) Tryz.fol rfl ?_
   refine XA.tk (i := 0) rfl rfl rfl (fun _ _ _ => XL.move rfl rfl) ?_
   refine XA.tk (i := 1) rfl rfl rfl (fun _ _ _ => XL.move rfl rfl) ?_
   refine XA.tk (i := 2) rfl rfl rfl (fun _ _ _ => XL.move rfl rfl) ?_
   refine XA.tk (i := 3) rfl rfl rfl (fun _ _ _ => XL.add_i64 rfl rfl (by omega) (by omega) rfl) ?_
   refine XA.tk (i := 4) rfl rfl rfl (fun _ _ _ => XL.move rfl rfl) ?_
   refine XA.tk (i := 5) rfl rfl rfl (fun _ _ _ => XL.move rfl rfl) ?_
   refine XA.tk (i := 6) rfl rfl rfl (fun _ _ _ => XL.move rfl rfl) ?_
   refine XA.tk (i := 7) rfl rfl rfl (fun _ _ _ => XL.add_i64 rfl rfl (by omega) (by omega) rfl) ?_
   refine XA.tk (i := 8) rfl rfl rfl (fun _ _ _ => XL.move rfl rfl) ?_
   refine XA.tk (i := 9) rfl rfl rfl (fun _ _ _ => XL.move rfl rfl) ?_
   refine XA.tk (i := 10) rfl rfl rfl (fun _ _ _ => XL.move rfl rfl) ?_
   refine XA.tk (i := 11) rfl rfl rfl (fun _ _ _ => XL.add_i64 rfl rfl (by omega) (by omega) rfl) ?_
   refine XA.tk (i := 12) rfl rfl rfl (fun _ _ _ => XL.indexSl (r := (y + i) * 2) rfl rfl (by omega) (by omega) (by omega) rfl) ?_
   refine XA.tk (i := 14) rfl rfl rfl (fun _ _ _ => XL.move rfl rfl) ?_
   refine XA.tk (i := 15) rfl rfl rfl (fun _ _ _ => XL.move rfl rfl) ?_
   refine XA.tk (i := 16) rfl rfl rfl (fun _ _ _ => XL.move rfl rfl) ?_
   refine XA.tk (i := 17) rfl rfl rfl (fun _ _ _ => XL.add_i64 rfl rfl (by omega) (by omega) rfl) ?_
   refine XA.tk (i := 18) rfl rfl rfl (fun _ _ _ => XL.indexSl (r := (x + i) * 2) rfl rfl (by omega) (by omega) (by omega) rfl) ?_
   refine XA.two (i := 13) (j := 19) rfl rfl (by kernel_rfl) rfl rfl ?_ ?_
   ·refine XL.loadA (hs := SbL.flat Tk.len hgj rfl) rfl rfl ?_
    refine XL.on ?_
    refine XA.o 19 ?_
    refine XL.loadA (hs := SbL.flat Tk.len hgi rfl) rfl rfl ?_
    refine XL.on ?_
    refine XA.tk (i := 20) rfl rfl rfl (fun _ _ _ => XL.indexSl (r := (x + i) * 2) rfl rfl (by omega) (by omega) (by omega) rfl) ?_
    refine XA.o 21 ?_
    refine XL.storeA (vs := tj.cs) (hs := StL.flat Tk.len (i := x + i) tj (by omega) rfl) rfl rfl rfl rfl ?_
    refine XL.on ?_
    refine XA.tk (i := 22) rfl rfl rfl (fun _ _ _ => XL.indexSl (r := (y + i) * 2) rfl rfl (by omega) (by omega) (by omega) rfl) ?_
    refine XA.o 23 ?_
    refine XL.storeA (vs := ti.cs) (hs := StL.flat Tk.len (l := us.set (x + i) tj) (i := y + i) ti (by rw [List.length_set]; omega) rfl) rfl rfl rfl rfl ?_
    refine XL.on ?_
    refine XA.done (by kernel_rfl) ?_
    refine Jp.block_normal ?_
    refine Jp.mt ((us.set (x + i) tj).set (y + i) ti) ⟨by rw [List.length_set, List.length_set]; exact hus, (swap_perm hgi hgj).trans hpus⟩
   ·refine XL.loadA (hs := SbL.flat Tk.len hgi rfl) rfl rfl ?_
    refine XL.on ?_
    refine XA.o 13 ?_
    refine XL.loadA (hs := SbL.flat Tk.len hgj rfl) rfl rfl ?_
    refine XL.on ?_
    refine XA.tk (i := 20) rfl rfl rfl (fun _ _ _ => XL.indexSl (r := (x + i) * 2) rfl rfl (by omega) (by omega) (by omega) rfl) ?_
    refine XA.o 21 ?_
    refine XL.storeA (vs := tj.cs) (hs := StL.flat Tk.len (i := x + i) tj (by omega) rfl) rfl rfl rfl rfl ?_
    refine XL.on ?_
    refine XA.tk (i := 22) rfl rfl rfl (fun _ _ _ => XL.indexSl (r := (y + i) * 2) rfl rfl (by omega) (by omega) (by omega) rfl) ?_
    refine XA.o 23 ?_
    refine XL.storeA (vs := ti.cs) (hs := StL.flat Tk.len (l := us.set (x + i) tj) (i := y + i) ti (by rw [List.length_set]; omega) rfl) rfl rfl rfl rfl ?_
    refine XL.on ?_
    refine XA.done (by kernel_rfl) ?_
    refine Jp.block_normal ?_
    refine Jp.mt ((us.set (x + i) tj).set (y + i) ti) ⟨by rw [List.length_set, List.length_set]; exact hus, (swap_perm hgi hgj).trans hpus⟩
  ·rintro us2 ⟨hl2, hp2⟩
   refine SP.region ?_
   refine XL.m ?_
   refine XL.add_i64 rfl rfl (by omega) (by omega) rfl ?_
   refine XL.a ?_
   refine XL.nil ?_
   refine Jp.rd (i + 1, us2) ⟨by show i + 1 ≤ k; omega, hl2, hp2⟩ (by show k - (i + 1) < k - i; omega)
 ·refine XL.n2 ?_
  refine SP.f ?_
  refine SP.exit ?_
  refine Jp.then_exit ?_
  refine Jp.then_exit ?_
  refine Jp.block_here ?_
  refine Jp.end0 (.inl rfl) rfl ⟨rfl, us, hus, hpus, rfl⟩
theorem c210 (lo hi : Nat) (a : Option Addr) (b cap m : Nat) (ts : List Tk) (hA : m ≠ 0 → a = some ⟨b, 0, none⟩) (hl : ts.length = m) (hm : m ≤ 100000) (hhi : hi ≤ m) (hlo : lo ≤ 100000) : Tri Tryz.prog 210 [.slice a m cap, .int .i64 (lo : Int), .int .i64 (hi : Int), .func (.func 200) #[] #[]] [TkN (.slice a m cap) m ts] (fun v Γ' => v = .tuple #[] ∧ ∃ ts' : List Tk, ts'.length = m ∧ ts'.Perm ts ∧ Γ' = [TkN (.slice a m cap) m ts']) := by
 refine Pcalls (n := 53) Tryz.func210 rfl rfl rfl fun W0 H0 => ?_
 refine SP.r2 ?_
 refine XL.m ?_
 refine XL.add_i64 rfl rfl (by omega) (by omega) rfl ?_
 refine XL.a ?_
 refine XL.n2 ?_
 refine SP.block ?_
 refine SP.loop (X := Nat × List Tk) (fun p => [(8, .int .i64 (p.1 : Int)), (0, .slice a m cap), (1, .int .i64 (lo : Int)), (2, .int .i64 (hi : Int)), (3, .func (.func 200) #[] #[])]) (fun p => [TkN (.slice a m cap) m p.2]) (fun p => lo < p.1 ∧ p.2.length = m ∧ p.2.Perm ts) (fun p => hi - p.1) (lo + 1, ts) ⟨by show lo < lo + 1; omega, hl, .refl _⟩ (by repeat' constructor) (Pk.drop (by repeat' constructor)) ?_
 rintro ⟨i, us0⟩ ⟨hi0, hus0, hpus0⟩
 dsimp only at *
 refine SP.seq ?_
 refine SP.r2 ?_
 refine XL.m ?_
 refine XL.m ?_
 refine XL.lss_s rfl rfl rfl (fun hih => ?_) (fun hih => ?_)
 ·refine XL.n2 ?_
  refine SP.t ?_
  refine SP.skip ?_
  refine Jp.then_normal ?_
  refine SP.seq ?_
  refine SP.block ?_
  refine SP.r2 ?_
  refine XL.m ?_
  refine XL.a ?_
  refine XL.n2 ?_
  refine SP.block ?_
  refine SP.loop (X := Nat × List Tk) (fun p => [(9, .int .i64 (p.1 : Int)), (8, .int .i64 (i : Int)), (0, .slice a m cap), (1, .int .i64 (lo : Int)), (2, .int .i64 (hi : Int)), (3, .func (.func 200) #[] #[])]) (fun p => [TkN (.slice a m cap) m p.2]) (fun p => p.1 ≤ i ∧ p.2.length = m ∧ p.2.Perm ts) (fun p => p.1) (i, us0) ⟨Nat.le_refl _, hus0, hpus0⟩ (by repeat' constructor) (Pk.drop (by repeat' constructor)) ?_
  rintro ⟨j, us⟩ ⟨hj, hus, hpus⟩
  dsimp only at *
  refine SP.seq ?_
  refine SP.seq ?_
  refine SP.quiet Tryz.fol (by kernel_rfl) ?_
  refine XL.m ?_
  refine XL.m ?_
  refine XL.gtr_s rfl rfl rfl (fun hjl => ?_) (fun hjl => ?_)
  ·obtain ⟨ti, hgi⟩ := get_of hus (show j < m by omega)
   obtain ⟨tj, hgj⟩ := get_of hus (show j - 1 < m by omega)
   obtain rfl := hA (by omega)
   refine XL.m ?_
   refine XL.g ?_
   refine XL.m ?_
   refine XL.g ?_
   refine XL.m ?_
   refine XL.g ?_
   refine XL.m ?_
   refine XL.g ?_
   refine XL.indexSl (r := (j) * 2) rfl rfl (by omega) (by omega) (by omega) rfl ?_
   refine XL.g ?_
   refine XL.loadA (hs := SbL.flat Tk.len hgi rfl) rfl rfl ?_
   refine XL.g ?_
   refine XL.m ?_
   refine XL.g ?_
   refine XL.m ?_
   refine XL.g ?_
   refine XL.sub_i64 rfl rfl (by omega) (by omega) rfl ?_
   refine XL.g ?_
   refine XL.indexSl (r := (j - 1) * 2) rfl rfl (by omega) (by omega) (by omega) rfl ?_
   refine XL.g ?_
   refine XL.loadA (hs := SbL.flat Tk.len hgj rfl) rfl rfl ?_
   refine XL.g ?_
   refine XL.vp (v1 := []) (v2 := []) rfl rfl (c200 ti tj) rfl ?_
   refine XL.g ?_
   refine XL.lss_s rfl rfl rfl (fun hc => ?_) (fun hc => ?_)
   ·refine XL.pick_t rfl rfl rfl ?_
    refine XL.nilq_end ?_
    refine Jp.then_normal ?_
    refine SP.t ?_
    refine SP.skip ?_
    refine Jp.then_normal ?_
    refine SP.cut (X := List Tk) (fun us2 => [(9, .int .i64 (j : Int)), (8, .int .i64 (i : Int)), (0, (.slice (some ⟨b, 0, none⟩) m cap)), (1, .int .i64 (lo : Int)), (2, .int .i64 (hi : Int)), (3, .func (.func 200) #[] #[])]) (fun us2 => [TkN (.slice (some ⟨b, 0, none⟩) m cap) m us2]) (fun us2 => us2.length = m ∧ us2.Perm ts) ?_ ?_
    ·refine SP.block ?_
     refine SP.any (m := 18) Tryz.fol rfl ?_
     refine XA.tk (i := 0) rfl rfl rfl (fun _ _ _ => XL.move rfl rfl) ?_
     refine XA.tk (i := 1) rfl rfl rfl (fun _ _ _ => XL.move rfl rfl) ?_
     refine XA.tk (i := 2) rfl rfl rfl (fun _ _ _ => XL.move rfl rfl) ?_
     refine XA.tk (i := 3) rfl rfl rfl (fun _ _ _ => XL.move rfl rfl) ?_
     refine XA.tk (i := 4) rfl rfl rfl (fun _ _ _ => XL.sub_i64 rfl rfl (by omega) (by omega) rfl) ?_
     refine XA.tk (i := 5) rfl rfl rfl (fun _ _ _ => XL.move rfl rfl) ?_
     refine XA.tk (i := 6) rfl rfl rfl (fun _ _ _ => XL.move rfl rfl) ?_
     refine XA.tk (i := 7) rfl rfl rfl (fun _ _ _ => XL.sub_i64 rfl rfl (by omega) (by omega) rfl) ?_
     refine XA.tk (i := 8) rfl rfl rfl (fun _ _ _ => XL.indexSl (r := (j - 1) * 2) rfl rfl (by omega) (by omega) (by omega) rfl) ?_
     refine XA.tk (i := 10) rfl rfl rfl (fun _ _ _ => XL.move rfl rfl) ?_
     refine XA.tk (i := 11) rfl rfl rfl (fun _ _ _ => XL.move rfl rfl) ?_
     refine XA.tk (i := 12) rfl rfl rfl (fun _ _ _ => XL.indexSl (r := (j) * 2) rfl rfl (by omega) (by omega) (by omega) rfl) ?_
     refine XA.two (i := 9) (j := 13) rfl rfl (by kernel_rfl) rfl rfl ?_ ?_
     ·refine XL.loadA (hs := SbL.flat Tk.len hgj rfl) rfl rfl ?_
      refine XL.on ?_
      refine XA.o 13 ?_
      refine XL.loadA (hs := SbL.flat Tk.len hgi rfl) rfl rfl ?_
      refine XL.on ?_
      refine XA.tk (i := 14) rfl rfl rfl (fun _ _ _ => XL.indexSl (r := (j) * 2) rfl rfl (by omega) (by omega) (by omega) rfl) ?_
      refine XA.o 15 ?_
      refine XL.storeA (vs := tj.cs) (hs := StL.flat Tk.len (i := j) tj (by omega) rfl) rfl rfl rfl rfl ?_
      refine XL.on ?_
      refine XA.tk (i := 16) rfl rfl rfl (fun _ _ _ => XL.indexSl (r := (j - 1) * 2) rfl rfl (by omega) (by omega) (by omega) rfl) ?_
      refine XA.o 17 ?_
      refine XL.storeA (vs := ti.cs) (hs := StL.flat Tk.len (l := us.set (j) tj) (i := j - 1) ti (by rw [List.length_set]; omega) rfl) rfl rfl rfl rfl ?_
      refine XL.on ?_
      refine XA.done (by kernel_rfl) ?_
      refine Jp.block_normal ?_
      refine Jp.mt ((us.set (j) tj).set (j - 1) ti) ⟨by rw [List.length_set, List.length_set]; exact hus, (swap_perm hgi hgj).trans hpus⟩
     ·refine XL.loadA (hs := SbL.flat Tk.len hgi rfl) rfl rfl ?_
      refine XL.on ?_
      refine XA.o 9 ?_
      refine XL.loadA (hs := SbL.flat Tk.len hgj rfl) rfl rfl ?_
      refine XL.on ?_
      refine XA.tk (i := 14) rfl rfl rfl (fun _ _ _ => XL.indexSl (r := (j) * 2) rfl rfl (by omega) (by omega) (by omega) rfl) ?_
      refine XA.o 15 ?_
      refine XL.storeA (vs := tj.cs) (hs := StL.flat Tk.len (i := j) tj (by omega) rfl) rfl rfl rfl rfl ?_
      refine XL.on ?_
      refine XA.tk (i := 16) rfl rfl rfl (fun _ _ _ => XL.indexSl (r := (j - 1) * 2) rfl rfl (by omega) (by omega) (by omega) rfl) ?_
      refine XA.o 17 ?_
      refine XL.storeA (vs := ti.cs) (hs := StL.flat Tk.len (l := us.set (j) tj) (i := j - 1) ti (by rw [List.length_set]; omega) rfl) rfl rfl rfl rfl ?_
      refine XL.on ?_
      refine XA.done (by kernel_rfl) ?_
      refine Jp.block_normal ?_
      refine Jp.mt ((us.set (j) tj).set (j - 1) ti) ⟨by rw [List.length_set, List.length_set]; exact hus, (swap_perm hgi hgj).trans hpus⟩
    ·rintro us2 ⟨hl2, hp2⟩
     refine SP.region ?_
     refine XL.m ?_
     refine XL.sub_i64 rfl rfl (by omega) (by omega) rfl ?_
     rw [show (j : Int) - 1 = ((j - 1 : Nat) : Int) by omega]
     refine XL.a ?_
     refine XL.nil ?_
     refine Jp.rd (j - 1, us2) ⟨by show j - 1 ≤ i; omega, hl2, hp2⟩ (by show j - 1 < j; omega)
   ·refine XL.pick_t rfl rfl rfl ?_
    refine XL.nilq_end ?_
    refine Jp.then_normal ?_
    refine SP.f ?_
    refine SP.exit ?_
    refine Jp.then_exit ?_
    refine Jp.then_exit ?_
    refine Jp.block_here ?_
    refine Jp.block_normal ?_
    refine Jp.then_normal ?_
    refine SP.region ?_
    refine XL.m ?_
    refine XL.add_i64 rfl rfl (by omega) (by omega) rfl ?_
    refine XL.a ?_
    refine XL.nil ?_
    refine Jp.rd (i + 1, us) ⟨by show lo < i + 1; omega, hus, hpus⟩ (by show hi - (i + 1) < hi - i; omega)
  ·refine XL.m ?_
   refine XL.k ?_
   refine XL.k ?_
   refine XL.k ?_
   refine XL.k ?_
   refine XL.k ?_
   refine XL.k ?_
   refine XL.k ?_
   refine XL.k ?_
   refine XL.k ?_
   refine XL.k ?_
   refine XL.k ?_
   refine XL.k ?_
   refine XL.pick_f rfl rfl rfl ?_
   refine XL.nilq_end ?_
   refine Jp.then_normal ?_
   refine SP.f ?_
   refine SP.exit ?_
   refine Jp.then_exit ?_
   refine Jp.then_exit ?_
   refine Jp.block_here ?_
   refine Jp.block_normal ?_
   refine Jp.then_normal ?_
   refine SP.region ?_
   refine XL.m ?_
   refine XL.add_i64 rfl rfl (by omega) (by omega) rfl ?_
   refine XL.a ?_
   refine XL.nil ?_
   refine Jp.rd (i + 1, us) ⟨by show lo < i + 1; omega, hus, hpus⟩ (by show hi - (i + 1) < hi - i; omega)
 ·refine XL.n2 ?_
  refine SP.f ?_
  refine SP.exit ?_
  refine Jp.then_exit ?_
  refine Jp.then_exit ?_
  refine Jp.block_here ?_
  refine Jp.end0 (.inl rfl) rfl ⟨rfl, us0, hus0, hpus0, rfl⟩
theorem c213 (x y z : Nat) (a : Option Addr) (b cap m : Nat) (ts : List Tk) (hA : m ≠ 0 → a = some ⟨b, 0, none⟩) (hl : ts.length = m) (hm : m ≤ 100000) (hx : x < y) (hy : y < z) (hz : z ≤ m) : Tri Tryz.prog 213 [.slice a m cap, .int .i64 (x : Int), .int .i64 (y : Int), .int .i64 (z : Int), .func (.func 200) #[] #[]] [TkN (.slice a m cap) m ts] (fun v Γ' => v = .tuple #[] ∧ ∃ ts' : List Tk, ts'.length = m ∧ ts'.Perm ts ∧ Γ' = [TkN (.slice a m cap) m ts']) := by
 refine Pcalls (n := 58) Tryz.func213 rfl rfl rfl fun W0 H0 => ?_
 refine SP.r2 ?_
 refine XL.m ?_
 refine XL.m ?_
 refine XL.sub_i64 rfl rfl (by omega) (by omega) rfl ?_
 rw [show (y : Int) - (x : Int) = ((y - x : Nat) : Int) by omega]
 refine XL.a ?_
 refine XL.n4 ?_
 refine XL.m ?_
 refine XL.m ?_
 refine XL.sub_i64 rfl rfl (by omega) (by omega) rfl ?_
 rw [show (z : Int) - (y : Int) = ((z - y : Nat) : Int) by omega]
 refine XL.a ?_
 refine XL.n5 ?_
 refine SP.block ?_
 refine SP.loop (X := (Nat × Nat) × List Tk) (fun p => [(10, .int .i64 (p.1.1 : Int)), (11, .int .i64 (p.1.2 : Int)), (0, .slice a m cap), (1, .int .i64 (x : Int)), (2, .int .i64 (y : Int)), (3, .int .i64 (z : Int)), (4, .func (.func 200) #[] #[])]) (fun p => [TkN (.slice a m cap) m p.2]) (fun p => 1 ≤ p.1.1 ∧ 1 ≤ p.1.2 ∧ p.1.1 ≤ y ∧ y + p.1.2 ≤ m ∧ p.2.length = m ∧ p.2.Perm ts) (fun p => p.1.1 + p.1.2) ((y - x, z - y), ts) ⟨by show 1 ≤ y - x; omega, by show 1 ≤ z - y; omega, by show y - x ≤ y; omega, by show y + (z - y) ≤ m; omega, hl, .refl _⟩ (by repeat' constructor) (Pk.drop (by repeat' constructor)) ?_
 rintro ⟨⟨i, j⟩, us⟩ ⟨h1, h2, h3, h4, hus, hpus⟩
 dsimp only at *
 refine SP.seq ?_
 refine SP.r2 ?_
 refine XL.m ?_
 refine XL.m ?_
 refine XL.neq_s rfl rfl rfl (fun hne => ?_) (fun hne => ?_)
 ·refine XL.n2 ?_
  refine SP.t ?_
  refine SP.skip ?_
  refine Jp.then_normal ?_
  refine SP.block ?_
  refine SP.r2 ?_
  refine XL.m ?_
  refine XL.m ?_
  refine XL.gtr_s rfl rfl rfl (fun hij => ?_) (fun hij => ?_)
  ·refine XL.n2 ?_
   refine SP.t ?_
   refine SP.r2 ?_
   refine XL.m ?_
   refine XL.m ?_
   refine XL.m ?_
   refine XL.sub_i64 rfl rfl (by omega) (by omega) rfl ?_
   refine XL.m ?_
   refine XL.m ?_
   refine XL.m ?_
   rw [show (y : Int) - (i : Int) = ((y - i : Nat) : Int) by omega]
   refine XL.cw rfl (c215 (y - i) y j a b cap m us hA hus hm (by omega) (by omega)) (by repeat' constructor) rfl ?_
   rintro _ _ ⟨rfl, us2, hl2, hp2, rfl⟩
   refine XL.app1 ?_
   refine XL.n3 ?_
   refine XL.m ?_
   refine XL.m ?_
   refine XL.sub_i64 rfl rfl (by omega) (by omega) rfl ?_
   rw [show (i : Int) - (j : Int) = ((i - j : Nat) : Int) by omega]
   refine XL.a ?_
   refine XL.nil ?_
   refine Jp.block_normal ?_
   first
    | exact Jp.round ((i - j, j), us2) ⟨by show 1 ≤ i - j; omega, h2, by show i - j ≤ y; omega, h4, hl2, hp2.trans hpus⟩ (by show i - j + j < i + j; omega) (by repeat' constructor) (Pk.drop (by repeat' constructor))
    | exact Jp.round ((i, j - i), us2) ⟨h1, by show 1 ≤ j - i; omega, h3, by show y + (j - i) ≤ m; omega, hl2, hp2.trans hpus⟩ (by show i + (j - i) < i + j; omega) (by repeat' constructor) (Pk.drop (by repeat' constructor))
  ·refine XL.n2 ?_
   refine SP.f ?_
   refine SP.r2 ?_
   refine XL.m ?_
   refine XL.m ?_
   refine XL.m ?_
   refine XL.sub_i64 rfl rfl (by omega) (by omega) rfl ?_
   refine XL.m ?_
   refine XL.m ?_
   refine XL.add_i64 rfl rfl (by omega) (by omega) rfl ?_
   refine XL.m ?_
   refine XL.sub_i64 rfl rfl (by omega) (by omega) rfl ?_
   refine XL.m ?_
   refine XL.m ?_
   rw [show (y : Int) - (i : Int) = ((y - i : Nat) : Int) by omega]
   rw [show (y : Int) + (j : Int) - (i : Int) = ((y + j - i : Nat) : Int) by omega]
   refine XL.cw rfl (c215 (y - i) (y + j - i) i a b cap m us hA hus hm (by omega) (by omega)) (by repeat' constructor) rfl ?_
   rintro _ _ ⟨rfl, us2, hl2, hp2, rfl⟩
   refine XL.app1 ?_
   refine XL.n3 ?_
   refine XL.m ?_
   refine XL.m ?_
   refine XL.sub_i64 rfl rfl (by omega) (by omega) rfl ?_
   rw [show (j : Int) - (i : Int) = ((j - i : Nat) : Int) by omega]
   refine XL.a ?_
   refine XL.nil ?_
   refine Jp.block_normal ?_
   first
    | exact Jp.round ((i - j, j), us2) ⟨by show 1 ≤ i - j; omega, h2, by show i - j ≤ y; omega, h4, hl2, hp2.trans hpus⟩ (by show i - j + j < i + j; omega) (by repeat' constructor) (Pk.drop (by repeat' constructor))
    | exact Jp.round ((i, j - i), us2) ⟨h1, by show 1 ≤ j - i; omega, h3, by show y + (j - i) ≤ m; omega, hl2, hp2.trans hpus⟩ (by show i + (j - i) < i + j; omega) (by repeat' constructor) (Pk.drop (by repeat' constructor))
 ·refine XL.n2 ?_
  refine SP.f ?_
  refine SP.exit ?_
  refine Jp.then_exit ?_
  refine Jp.then_exit ?_
  refine Jp.block_here ?_
  refine Jp.then_normal ?_
  refine SP.region ?_
  refine XL.m ?_
  refine XL.m ?_
  refine XL.m ?_
  refine XL.sub_i64 rfl rfl (by omega) (by omega) rfl ?_
  refine XL.m ?_
  refine XL.m ?_
  refine XL.m ?_
  rw [show (y : Int) - (i : Int) = ((y - i : Nat) : Int) by omega]
  refine XL.cw rfl (c215 (y - i) y i a b cap m us hA hus hm (by omega) (by omega)) (by repeat' constructor) rfl ?_
  rintro _ _ ⟨rfl, us2, hl2, hp2, rfl⟩
  refine XL.app1 ?_
  refine XL.nil ?_
  refine Jp.end0 (.inl rfl) rfl ⟨rfl, us2, hl2, hp2.trans hpus, rfl⟩
def SymM (N : Nat) : Prop := ∀ (x y z : Nat) (a : Option Addr) (b cap m : Nat) (ts : List Tk) (hA : m ≠ 0 → a = some ⟨b, 0, none⟩) (hl : ts.length = m) (hm : m ≤ 100000), x < y → y < z → z ≤ m → z - x < N → Tri Tryz.prog 211 [.slice a m cap, .int .i64 (x : Int), .int .i64 (y : Int), .int .i64 (z : Int), .func (.func 200) #[] #[]] [TkN (.slice a m cap) m ts] (fun v Γ' => v = .tuple #[] ∧ ∃ ts' : List Tk, ts'.length = m ∧ ts'.Perm ts ∧ Γ' = [TkN (.slice a m cap) m ts'])
theorem c211s (N : Nat) (IH : SymM N) (x y z : Nat) (a : Option Addr) (b cap m : Nat) (ts : List Tk) (hA : m ≠ 0 → a = some ⟨b, 0, none⟩) (hl : ts.length = m) (hm : m ≤ 100000) (hx : x < y) (hy : y < z) (hz : z ≤ m) (hN : z - x ≤ N) : Tri Tryz.prog 211 [.slice a m cap, .int .i64 (x : Int), .int .i64 (y : Int), .int .i64 (z : Int), .func (.func 200) #[] #[]] [TkN (.slice a m cap) m ts] (fun v Γ' => v = .tuple #[] ∧ ∃ ts' : List Tk, ts'.length = m ∧ ts'.Perm ts ∧ Γ' = [TkN (.slice a m cap) m ts']) := by
 refine Pcalls (n := 220) Tryz.func211 rfl rfl rfl fun W0 H0 => ?_
 refine SP.seq ?_
 refine SP.r2 ?_
 refine XL.m ?_
 refine XL.m ?_
 refine XL.sub_i64 rfl rfl (by omega) (by omega) rfl ?_
 refine XL.eql_s rfl rfl rfl (fun q0 => ?_) (fun q0 => ?_)
 ·refine XL.n2 ?_
  refine SP.t ?_
  refine SP.r2 ?_
  refine XL.m ?_
  refine XL.a ?_
  refine XL.n4 ?_
  refine XL.m ?_
  refine XL.a ?_
  refine XL.n5 ?_
  refine SP.block ?_
  refine SP.loop (X := Nat × Nat) (fun p => [(10, .int .i64 (p.1 : Int)), (11, .int .i64 (p.2 : Int)), (0, .slice a m cap), (1, .int .i64 (x : Int)), (2, .int .i64 (y : Int)), (3, .int .i64 (z : Int)), (4, .func (.func 200) #[] #[])]) (fun p => [TkN (.slice a m cap) m ts]) (fun p => y ≤ p.1 ∧ p.1 ≤ p.2 ∧ p.2 ≤ z) (fun p => p.2 - p.1) (y, z) ⟨Nat.le_refl _, by show y ≤ z; omega, Nat.le_refl _⟩ (by repeat' constructor) (Pk.drop (by repeat' constructor)) ?_
  rintro ⟨i, j⟩ ⟨h1, h2, h3⟩
  dsimp only at *
  refine SP.seq ?_
  refine SP.r2 ?_
  refine XL.m ?_
  refine XL.m ?_
  refine XL.lss_s rfl rfl rfl (fun hij => ?_) (fun hij => ?_)
  ·obtain ⟨th, hgh⟩ := get_of hl (show (i + j) / 2 < m by omega)
   obtain ⟨tx, hgx⟩ := get_of hl (show x < m by omega)
   obtain rfl := hA (by omega)
   refine XL.n2 ?_
   refine SP.t ?_
   refine SP.skip ?_
   refine Jp.then_normal ?_
   refine SP.block ?_
   refine SP.r2 ?_
   refine XL.m ?_
   refine XL.m ?_
   refine XL.add_i64 rfl rfl (by omega) (by omega) rfl ?_
   refine XL.conv (by rfl) ⟨_, Tryz.underlying3⟩ (by first | rfl | exact wrap64_of (by omega) (by omega) | exact wrapU8_of (by omega) (by omega) | exact wrapU64_of (by omega) (by omega)) (by rfl) ?_
   refine XL.shr rfl rfl (by decide) (fdiv_of (m := 2) rfl (by decide)) rfl ?_
   refine XL.conv (by rfl) ⟨_, Tryz.underlying99⟩ (by first | rfl | exact wrap64_of (by omega) (by omega) | exact wrapU8_of (by omega) (by omega) | exact wrapU64_of (by omega) (by omega)) (by rfl) ?_
   rw [show (((i : Nat) : Int) + ((j : Nat) : Int)) / 2 = (((i + j) / 2 : Nat) : Int) by omega]
   refine XL.a ?_
   refine XL.n5 ?_
   refine SP.quiet Tryz.fol (by kernel_rfl) ?_
   refine XL.m ?_
   refine XL.m ?_
   refine XL.m ?_
   refine XL.indexSl (r := ((i + j) / 2) * 2) rfl rfl (by omega) (by omega) (by omega) rfl ?_
   refine XL.loadA (hs := SbL.flat Tk.len hgh rfl) rfl rfl ?_
   refine XL.m ?_
   refine XL.m ?_
   refine XL.indexSl (r := (x) * 2) rfl rfl (by omega) (by omega) (by omega) rfl ?_
   refine XL.loadA (hs := SbL.flat Tk.len hgx rfl) rfl rfl ?_
   refine XL.vp (v1 := []) (v2 := []) rfl rfl (c200 th tx) rfl ?_
   refine XL.lss_s rfl rfl rfl (fun hc => ?_) (fun hc => ?_)
   ·refine XL.nilq_end ?_
    refine Jp.then_normal ?_
    refine SP.t ?_
    refine SP.region ?_
    refine XL.m ?_
    refine XL.add_i64 rfl rfl (by omega) (by omega) rfl ?_
    refine XL.a ?_
    refine XL.nil ?_
    refine Jp.block_normal ?_
    first
     | (have _ := (hc : cmpT th tx < 0); exact Jp.round ((i + j) / 2 + 1, j) ⟨by show _ ≤ (i + j) / 2 + 1; omega, by show (i + j) / 2 + 1 ≤ j; omega, h3⟩ (by show j - ((i + j) / 2 + 1) < j - i; omega) (by repeat' constructor) (Pk.drop (by repeat' constructor)))
     | exact Jp.round (i, (i + j) / 2) ⟨h1, by show i ≤ (i + j) / 2; omega, by show (i + j) / 2 ≤ _; omega⟩ (by show (i + j) / 2 - i < j - i; omega) (by repeat' constructor) (Pk.drop (by repeat' constructor))
   ·refine XL.nilq_end ?_
    refine Jp.then_normal ?_
    refine SP.f ?_
    refine SP.region ?_
    refine XL.m ?_
    refine XL.a ?_
    refine XL.nil ?_
    refine Jp.block_normal ?_
    first
     | (have _ := (hc : cmpT th tx < 0); exact Jp.round ((i + j) / 2 + 1, j) ⟨by show _ ≤ (i + j) / 2 + 1; omega, by show (i + j) / 2 + 1 ≤ j; omega, h3⟩ (by show j - ((i + j) / 2 + 1) < j - i; omega) (by repeat' constructor) (Pk.drop (by repeat' constructor)))
     | exact Jp.round (i, (i + j) / 2) ⟨h1, by show i ≤ (i + j) / 2; omega, by show (i + j) / 2 ≤ _; omega⟩ (by show (i + j) / 2 - i < j - i; omega) (by repeat' constructor) (Pk.drop (by repeat' constructor))
  ·refine XL.n2 ?_
   refine SP.f ?_
   refine SP.exit ?_
   refine Jp.then_exit ?_
   refine Jp.then_exit ?_
   refine Jp.block_here ?_
   refine Jp.then_normal ?_
   refine SP.seq ?_
   refine SP.r2 ?_
   refine XL.m ?_
   refine XL.a ?_
   refine XL.n2 ?_
   refine SP.block ?_
   refine SP.loop (X := Nat × List Tk) (fun p => [(13, .int .i64 (p.1 : Int)), (10, .int .i64 (i : Int)), (0, .slice a m cap), (1, .int .i64 (x : Int)), (2, .int .i64 (y : Int)), (3, .int .i64 (z : Int)), (4, .func (.func 200) #[] #[])]) (fun p => [TkN (.slice a m cap) m p.2]) (fun p => x ≤ p.1 ∧ True ∧ p.2.length = m ∧ p.2.Perm ts) (fun p => i - p.1) (x, ts) ⟨Nat.le_refl _, trivial, hl, .refl _⟩ (by repeat' constructor) (Pk.drop (by repeat' constructor)) ?_
   rintro ⟨k, us⟩ ⟨hk, hk2, hus, hpus⟩
   dsimp only at *
   refine SP.seq ?_
   refine SP.r2 ?_
   refine XL.m ?_
   refine XL.m ?_
   refine XL.sub_i64 rfl rfl (by omega) (by omega) rfl ?_
   refine XL.lss_s rfl rfl rfl (fun hki => ?_) (fun hki => ?_)
   ·obtain ⟨ti, hgi⟩ := get_of hus (show k < m by omega)
    obtain ⟨tj, hgj⟩ := get_of hus (show k + 1 < m by omega)
    obtain rfl := hA (by omega)
    refine XL.n2 ?_
    refine SP.t ?_
    refine SP.skip ?_
    refine Jp.then_normal ?_
    refine SP.cut (X := List Tk) (fun us2 => [(13, .int .i64 (k : Int)), (10, .int .i64 (i : Int)), (0, (.slice (some ⟨b, 0, none⟩) m cap)), (1, .int .i64 (x : Int)), (2, .int .i64 (y : Int)), (3, .int .i64 (z : Int)), (4, .func (.func 200) #[] #[])]) (fun us2 => [TkN (.slice (some ⟨b, 0, none⟩) m cap) m us2]) (fun us2 => us2.length = m ∧ us2.Perm ts) ?_ ?_
    ·refine SP.block ?_
     refine SP.any (m := 18) Tryz.fol rfl ?_
     refine XA.tk (i := 0) rfl rfl rfl (fun _ _ _ => XL.move rfl rfl) ?_
     refine XA.tk (i := 1) rfl rfl rfl (fun _ _ _ => XL.move rfl rfl) ?_
     refine XA.tk (i := 2) rfl rfl rfl (fun _ _ _ => XL.move rfl rfl) ?_
     refine XA.tk (i := 3) rfl rfl rfl (fun _ _ _ => XL.move rfl rfl) ?_
     refine XA.tk (i := 4) rfl rfl rfl (fun _ _ _ => XL.add_i64 rfl rfl (by omega) (by omega) rfl) ?_
     refine XA.tk (i := 5) rfl rfl rfl (fun _ _ _ => XL.move rfl rfl) ?_
     refine XA.tk (i := 6) rfl rfl rfl (fun _ _ _ => XL.move rfl rfl) ?_
     refine XA.tk (i := 7) rfl rfl rfl (fun _ _ _ => XL.add_i64 rfl rfl (by omega) (by omega) rfl) ?_
     refine XA.tk (i := 8) rfl rfl rfl (fun _ _ _ => XL.indexSl (r := (k + 1) * 2) rfl rfl (by omega) (by omega) (by omega) rfl) ?_
     refine XA.tk (i := 10) rfl rfl rfl (fun _ _ _ => XL.move rfl rfl) ?_
     refine XA.tk (i := 11) rfl rfl rfl (fun _ _ _ => XL.move rfl rfl) ?_
     refine XA.tk (i := 12) rfl rfl rfl (fun _ _ _ => XL.indexSl (r := (k) * 2) rfl rfl (by omega) (by omega) (by omega) rfl) ?_
     refine XA.two (i := 9) (j := 13) rfl rfl (by kernel_rfl) rfl rfl ?_ ?_
     ·refine XL.loadA (hs := SbL.flat Tk.len hgj rfl) rfl rfl ?_
      refine XL.on ?_
      refine XA.o 13 ?_
      refine XL.loadA (hs := SbL.flat Tk.len hgi rfl) rfl rfl ?_
      refine XL.on ?_
      refine XA.tk (i := 14) rfl rfl rfl (fun _ _ _ => XL.indexSl (r := (k) * 2) rfl rfl (by omega) (by omega) (by omega) rfl) ?_
      refine XA.o 15 ?_
      refine XL.storeA (vs := tj.cs) (hs := StL.flat Tk.len (i := k) tj (by omega) rfl) rfl rfl rfl rfl ?_
      refine XL.on ?_
      refine XA.tk (i := 16) rfl rfl rfl (fun _ _ _ => XL.indexSl (r := (k + 1) * 2) rfl rfl (by omega) (by omega) (by omega) rfl) ?_
      refine XA.o 17 ?_
      refine XL.storeA (vs := ti.cs) (hs := StL.flat Tk.len (l := us.set (k) tj) (i := k + 1) ti (by rw [List.length_set]; omega) rfl) rfl rfl rfl rfl ?_
      refine XL.on ?_
      refine XA.done (by kernel_rfl) ?_
      refine Jp.block_normal ?_
      refine Jp.mt ((us.set (k) tj).set (k + 1) ti) ⟨by rw [List.length_set, List.length_set]; exact hus, (swap_perm hgi hgj).trans hpus⟩
     ·refine XL.loadA (hs := SbL.flat Tk.len hgi rfl) rfl rfl ?_
      refine XL.on ?_
      refine XA.o 9 ?_
      refine XL.loadA (hs := SbL.flat Tk.len hgj rfl) rfl rfl ?_
      refine XL.on ?_
      refine XA.tk (i := 14) rfl rfl rfl (fun _ _ _ => XL.indexSl (r := (k) * 2) rfl rfl (by omega) (by omega) (by omega) rfl) ?_
      refine XA.o 15 ?_
      refine XL.storeA (vs := tj.cs) (hs := StL.flat Tk.len (i := k) tj (by omega) rfl) rfl rfl rfl rfl ?_
      refine XL.on ?_
      refine XA.tk (i := 16) rfl rfl rfl (fun _ _ _ => XL.indexSl (r := (k + 1) * 2) rfl rfl (by omega) (by omega) (by omega) rfl) ?_
      refine XA.o 17 ?_
      refine XL.storeA (vs := ti.cs) (hs := StL.flat Tk.len (l := us.set (k) tj) (i := k + 1) ti (by rw [List.length_set]; omega) rfl) rfl rfl rfl rfl ?_
      refine XL.on ?_
      refine XA.done (by kernel_rfl) ?_
      refine Jp.block_normal ?_
      refine Jp.mt ((us.set (k) tj).set (k + 1) ti) ⟨by rw [List.length_set, List.length_set]; exact hus, (swap_perm hgi hgj).trans hpus⟩
    ·rintro us2 ⟨hl2, hp2⟩
     refine SP.region ?_
     refine XL.m ?_
     refine XL.add_i64 rfl rfl (by omega) (by omega) rfl ?_
     refine XL.a ?_
     refine XL.nil ?_
     refine Jp.rd (k + 1, us2) ⟨by show x ≤ k + 1; omega, trivial, hl2, hp2⟩ (by show i - (k + 1) < i - k; omega)
   ·refine XL.n2 ?_
    refine SP.f ?_
    refine SP.exit ?_
    refine Jp.then_exit ?_
    refine Jp.then_exit ?_
    refine Jp.block_here ?_
    refine Jp.then_normal ?_
    refine SP.ret ?_
    refine Jp.then_ret ?_
    first
     | exact Jp.end0 (.inr rfl) rfl ⟨rfl, us2, hl2, hp2.trans hpvb, rfl⟩
     | exact Jp.end0 (.inr rfl) rfl ⟨rfl, vb, hvb, hpvb, rfl⟩
     | exact Jp.end0 (.inr rfl) rfl ⟨rfl, us, hus, hpus, rfl⟩
 ·refine XL.n2 ?_
  refine SP.f ?_
  refine SP.skip ?_
  refine Jp.then_normal ?_
  refine SP.seq ?_
  refine SP.r2 ?_
  refine XL.m ?_
  refine XL.m ?_
  refine XL.sub_i64 rfl rfl (by omega) (by omega) rfl ?_
  refine XL.eql_s rfl rfl rfl (fun q1 => ?_) (fun q1 => ?_)
  ·refine XL.n2 ?_
   refine SP.t ?_
   refine SP.r2 ?_
   refine XL.m ?_
   refine XL.a ?_
   refine XL.n4 ?_
   refine XL.m ?_
   refine XL.a ?_
   refine XL.n5 ?_
   refine SP.block ?_
   refine SP.loop (X := Nat × Nat) (fun p => [(14, .int .i64 (p.1 : Int)), (15, .int .i64 (p.2 : Int)), (0, .slice a m cap), (1, .int .i64 (x : Int)), (2, .int .i64 (y : Int)), (3, .int .i64 (z : Int)), (4, .func (.func 200) #[] #[])]) (fun p => [TkN (.slice a m cap) m ts]) (fun p => x ≤ p.1 ∧ p.1 ≤ p.2 ∧ p.2 ≤ y) (fun p => p.2 - p.1) (x, y) ⟨Nat.le_refl _, by show x ≤ y; omega, Nat.le_refl _⟩ (by repeat' constructor) (Pk.drop (by repeat' constructor)) ?_
   rintro ⟨i, j⟩ ⟨h1, h2, h3⟩
   dsimp only at *
   refine SP.seq ?_
   refine SP.r2 ?_
   refine XL.m ?_
   refine XL.m ?_
   refine XL.lss_s rfl rfl rfl (fun hij => ?_) (fun hij => ?_)
   ·obtain ⟨th, hgh⟩ := get_of hl (show (i + j) / 2 < m by omega)
    obtain ⟨ty, hgy⟩ := get_of hl (show y < m by omega)
    obtain rfl := hA (by omega)
    refine XL.n2 ?_
    refine SP.t ?_
    refine SP.skip ?_
    refine Jp.then_normal ?_
    refine SP.block ?_
    refine SP.r2 ?_
    refine XL.m ?_
    refine XL.m ?_
    refine XL.add_i64 rfl rfl (by omega) (by omega) rfl ?_
    refine XL.conv (by rfl) ⟨_, Tryz.underlying3⟩ (by first | rfl | exact wrap64_of (by omega) (by omega) | exact wrapU8_of (by omega) (by omega) | exact wrapU64_of (by omega) (by omega)) (by rfl) ?_
    refine XL.shr rfl rfl (by decide) (fdiv_of (m := 2) rfl (by decide)) rfl ?_
    refine XL.conv (by rfl) ⟨_, Tryz.underlying99⟩ (by first | rfl | exact wrap64_of (by omega) (by omega) | exact wrapU8_of (by omega) (by omega) | exact wrapU64_of (by omega) (by omega)) (by rfl) ?_
    rw [show (((i : Nat) : Int) + ((j : Nat) : Int)) / 2 = (((i + j) / 2 : Nat) : Int) by omega]
    refine XL.a ?_
    refine XL.n5 ?_
    refine SP.quiet Tryz.fol (by kernel_rfl) ?_
    refine XL.m ?_
    refine XL.m ?_
    refine XL.m ?_
    refine XL.indexSl (r := (y) * 2) rfl rfl (by omega) (by omega) (by omega) rfl ?_
    refine XL.loadA (hs := SbL.flat Tk.len hgy rfl) rfl rfl ?_
    refine XL.m ?_
    refine XL.m ?_
    refine XL.indexSl (r := ((i + j) / 2) * 2) rfl rfl (by omega) (by omega) (by omega) rfl ?_
    refine XL.loadA (hs := SbL.flat Tk.len hgh rfl) rfl rfl ?_
    refine XL.vp (v1 := []) (v2 := []) rfl rfl (c200 ty th) rfl ?_
    refine XL.lss_s rfl rfl rfl (fun hc => ?_) (fun hc => ?_)
    ·refine XL.not_t rfl rfl ?_
     refine XL.nilq_end ?_
     refine Jp.then_normal ?_
     refine SP.f ?_
     refine SP.region ?_
     refine XL.m ?_
     refine XL.a ?_
     refine XL.nil ?_
     refine Jp.block_normal ?_
     first
      | (have _ := (hc : ¬ cmpT ty th < 0); exact Jp.round ((i + j) / 2 + 1, j) ⟨by show _ ≤ (i + j) / 2 + 1; omega, by show (i + j) / 2 + 1 ≤ j; omega, h3⟩ (by show j - ((i + j) / 2 + 1) < j - i; omega) (by repeat' constructor) (Pk.drop (by repeat' constructor)))
      | exact Jp.round (i, (i + j) / 2) ⟨h1, by show i ≤ (i + j) / 2; omega, by show (i + j) / 2 ≤ _; omega⟩ (by show (i + j) / 2 - i < j - i; omega) (by repeat' constructor) (Pk.drop (by repeat' constructor))
    ·refine XL.not_f rfl rfl ?_
     refine XL.nilq_end ?_
     refine Jp.then_normal ?_
     refine SP.t ?_
     refine SP.region ?_
     refine XL.m ?_
     refine XL.add_i64 rfl rfl (by omega) (by omega) rfl ?_
     refine XL.a ?_
     refine XL.nil ?_
     refine Jp.block_normal ?_
     first
      | (have _ := (hc : ¬ cmpT ty th < 0); exact Jp.round ((i + j) / 2 + 1, j) ⟨by show _ ≤ (i + j) / 2 + 1; omega, by show (i + j) / 2 + 1 ≤ j; omega, h3⟩ (by show j - ((i + j) / 2 + 1) < j - i; omega) (by repeat' constructor) (Pk.drop (by repeat' constructor)))
      | exact Jp.round (i, (i + j) / 2) ⟨h1, by show i ≤ (i + j) / 2; omega, by show (i + j) / 2 ≤ _; omega⟩ (by show (i + j) / 2 - i < j - i; omega) (by repeat' constructor) (Pk.drop (by repeat' constructor))
   ·refine XL.n2 ?_
    refine SP.f ?_
    refine SP.exit ?_
    refine Jp.then_exit ?_
    refine Jp.then_exit ?_
    refine Jp.block_here ?_
    refine Jp.then_normal ?_
    refine SP.seq ?_
    refine SP.r2 ?_
    refine XL.m ?_
    refine XL.a ?_
    refine XL.n2 ?_
    refine SP.block ?_
    refine SP.loop (X := Nat × List Tk) (fun p => [(17, .int .i64 (p.1 : Int)), (14, .int .i64 (i : Int)), (0, .slice a m cap), (1, .int .i64 (x : Int)), (2, .int .i64 (y : Int)), (3, .int .i64 (z : Int)), (4, .func (.func 200) #[] #[])]) (fun p => [TkN (.slice a m cap) m p.2]) (fun p => p.1 ≤ y ∧ True ∧ p.2.length = m ∧ p.2.Perm ts) (fun p => p.1) (y, ts) ⟨Nat.le_refl _, trivial, hl, .refl _⟩ (by repeat' constructor) (Pk.drop (by repeat' constructor)) ?_
    rintro ⟨k, us⟩ ⟨hk, hk2, hus, hpus⟩
    dsimp only at *
    refine SP.seq ?_
    refine SP.r2 ?_
    refine XL.m ?_
    refine XL.m ?_
    refine XL.gtr_s rfl rfl rfl (fun hki => ?_) (fun hki => ?_)
    ·obtain ⟨ti, hgi⟩ := get_of hus (show k < m by omega)
     obtain ⟨tj, hgj⟩ := get_of hus (show k - 1 < m by omega)
     obtain rfl := hA (by omega)
     refine XL.n2 ?_
     refine SP.t ?_
     refine SP.skip ?_
     refine Jp.then_normal ?_
     refine SP.cut (X := List Tk) (fun us2 => [(17, .int .i64 (k : Int)), (14, .int .i64 (i : Int)), (0, (.slice (some ⟨b, 0, none⟩) m cap)), (1, .int .i64 (x : Int)), (2, .int .i64 (y : Int)), (3, .int .i64 (z : Int)), (4, .func (.func 200) #[] #[])]) (fun us2 => [TkN (.slice (some ⟨b, 0, none⟩) m cap) m us2]) (fun us2 => us2.length = m ∧ us2.Perm ts) ?_ ?_
     ·refine SP.block ?_
      refine SP.any (m := 18) Tryz.fol rfl ?_
      refine XA.tk (i := 0) rfl rfl rfl (fun _ _ _ => XL.move rfl rfl) ?_
      refine XA.tk (i := 1) rfl rfl rfl (fun _ _ _ => XL.move rfl rfl) ?_
      refine XA.tk (i := 2) rfl rfl rfl (fun _ _ _ => XL.move rfl rfl) ?_
      refine XA.tk (i := 3) rfl rfl rfl (fun _ _ _ => XL.move rfl rfl) ?_
      refine XA.tk (i := 4) rfl rfl rfl (fun _ _ _ => XL.sub_i64 rfl rfl (by omega) (by omega) rfl) ?_
      refine XA.tk (i := 5) rfl rfl rfl (fun _ _ _ => XL.move rfl rfl) ?_
      refine XA.tk (i := 6) rfl rfl rfl (fun _ _ _ => XL.move rfl rfl) ?_
      refine XA.tk (i := 7) rfl rfl rfl (fun _ _ _ => XL.sub_i64 rfl rfl (by omega) (by omega) rfl) ?_
      refine XA.tk (i := 8) rfl rfl rfl (fun _ _ _ => XL.indexSl (r := (k - 1) * 2) rfl rfl (by omega) (by omega) (by omega) rfl) ?_
      refine XA.tk (i := 10) rfl rfl rfl (fun _ _ _ => XL.move rfl rfl) ?_
      refine XA.tk (i := 11) rfl rfl rfl (fun _ _ _ => XL.move rfl rfl) ?_
      refine XA.tk (i := 12) rfl rfl rfl (fun _ _ _ => XL.indexSl (r := (k) * 2) rfl rfl (by omega) (by omega) (by omega) rfl) ?_
      refine XA.two (i := 9) (j := 13) rfl rfl (by kernel_rfl) rfl rfl ?_ ?_
      ·refine XL.loadA (hs := SbL.flat Tk.len hgj rfl) rfl rfl ?_
       refine XL.on ?_
       refine XA.o 13 ?_
       refine XL.loadA (hs := SbL.flat Tk.len hgi rfl) rfl rfl ?_
       refine XL.on ?_
       refine XA.tk (i := 14) rfl rfl rfl (fun _ _ _ => XL.indexSl (r := (k) * 2) rfl rfl (by omega) (by omega) (by omega) rfl) ?_
       refine XA.o 15 ?_
       refine XL.storeA (vs := tj.cs) (hs := StL.flat Tk.len (i := k) tj (by omega) rfl) rfl rfl rfl rfl ?_
       refine XL.on ?_
       refine XA.tk (i := 16) rfl rfl rfl (fun _ _ _ => XL.indexSl (r := (k - 1) * 2) rfl rfl (by omega) (by omega) (by omega) rfl) ?_
       refine XA.o 17 ?_
       refine XL.storeA (vs := ti.cs) (hs := StL.flat Tk.len (l := us.set (k) tj) (i := k - 1) ti (by rw [List.length_set]; omega) rfl) rfl rfl rfl rfl ?_
       refine XL.on ?_
       refine XA.done (by kernel_rfl) ?_
       refine Jp.block_normal ?_
       refine Jp.mt ((us.set (k) tj).set (k - 1) ti) ⟨by rw [List.length_set, List.length_set]; exact hus, (swap_perm hgi hgj).trans hpus⟩
      ·refine XL.loadA (hs := SbL.flat Tk.len hgi rfl) rfl rfl ?_
       refine XL.on ?_
       refine XA.o 9 ?_
       refine XL.loadA (hs := SbL.flat Tk.len hgj rfl) rfl rfl ?_
       refine XL.on ?_
       refine XA.tk (i := 14) rfl rfl rfl (fun _ _ _ => XL.indexSl (r := (k) * 2) rfl rfl (by omega) (by omega) (by omega) rfl) ?_
       refine XA.o 15 ?_
       refine XL.storeA (vs := tj.cs) (hs := StL.flat Tk.len (i := k) tj (by omega) rfl) rfl rfl rfl rfl ?_
       refine XL.on ?_
       refine XA.tk (i := 16) rfl rfl rfl (fun _ _ _ => XL.indexSl (r := (k - 1) * 2) rfl rfl (by omega) (by omega) (by omega) rfl) ?_
       refine XA.o 17 ?_
       refine XL.storeA (vs := ti.cs) (hs := StL.flat Tk.len (l := us.set (k) tj) (i := k - 1) ti (by rw [List.length_set]; omega) rfl) rfl rfl rfl rfl ?_
       refine XL.on ?_
       refine XA.done (by kernel_rfl) ?_
       refine Jp.block_normal ?_
       refine Jp.mt ((us.set (k) tj).set (k - 1) ti) ⟨by rw [List.length_set, List.length_set]; exact hus, (swap_perm hgi hgj).trans hpus⟩
     ·rintro us2 ⟨hl2, hp2⟩
      refine SP.region ?_
      refine XL.m ?_
      refine XL.sub_i64 rfl rfl (by omega) (by omega) rfl ?_
      rw [show (k : Int) - 1 = ((k - 1 : Nat) : Int) by omega]
      refine XL.a ?_
      refine XL.nil ?_
      refine Jp.rd (k - 1, us2) ⟨by show k - 1 ≤ y; omega, trivial, hl2, hp2⟩ (by show k - 1 < k; omega)
    ·refine XL.n2 ?_
     refine SP.f ?_
     refine SP.exit ?_
     refine Jp.then_exit ?_
     refine Jp.then_exit ?_
     refine Jp.block_here ?_
     refine Jp.then_normal ?_
     refine SP.ret ?_
     refine Jp.then_ret ?_
     first
      | exact Jp.end0 (.inr rfl) rfl ⟨rfl, us2, hl2, hp2.trans hpvb, rfl⟩
      | exact Jp.end0 (.inr rfl) rfl ⟨rfl, vb, hvb, hpvb, rfl⟩
      | exact Jp.end0 (.inr rfl) rfl ⟨rfl, us, hus, hpus, rfl⟩
  ·refine XL.n2 ?_
   refine SP.f ?_
   refine SP.skip ?_
   refine Jp.n4 ?_
   refine XL.m ?_
   refine XL.m ?_
   refine XL.add_i64 rfl rfl (by omega) (by omega) rfl ?_
   refine XL.conv (by rfl) ⟨_, Tryz.underlying3⟩ (by first | rfl | exact wrap64_of (by omega) (by omega) | exact wrapU8_of (by omega) (by omega) | exact wrapU64_of (by omega) (by omega)) (by rfl) ?_
   refine XL.shr rfl rfl (by decide) (fdiv_of (m := 2) rfl (by decide)) rfl ?_
   refine XL.conv (by rfl) ⟨_, Tryz.underlying99⟩ (by first | rfl | exact wrap64_of (by omega) (by omega) | exact wrapU8_of (by omega) (by omega) | exact wrapU64_of (by omega) (by omega)) (by rfl) ?_
   rw [show (((x : Nat) : Int) + ((z : Nat) : Int)) / 2 = (((x + z) / 2 : Nat) : Int) by omega]
   generalize hmid : (x + z) / 2 = mid
   refine XL.a ?_
   refine XL.n4 ?_
   refine XL.m ?_
   refine XL.m ?_
   refine XL.add_i64 rfl rfl (by omega) (by omega) rfl ?_
   refine XL.a ?_
   refine XL.n4 ?_
   refine XL.a ?_
   refine XL.a ?_
   refine XL.n2 ?_
   refine SP.cut (X := Nat × Nat) (fun p => [(20, .int .i64 (p.1 : Int)), (21, .int .i64 (p.2 : Int)), (18, .int .i64 (mid : Int)), (19, .int .i64 ((mid : Int) + (y : Int))), (0, .slice a m cap), (1, .int .i64 (x : Int)), (2, .int .i64 (y : Int)), (3, .int .i64 (z : Int)), (4, .func (.func 200) #[] #[])]) (fun p => [TkN (.slice a m cap) m ts]) (fun p => p.1 ≤ p.2 ∧ ((mid < y ∧ p.1 + z = mid + y ∧ p.2 = mid) ∨ (y ≤ mid ∧ p.1 = x ∧ p.2 = y))) ?_ ?_
   ·refine SP.r2 ?_
    refine XL.m ?_
    refine XL.m ?_
    refine XL.gtr_s rfl rfl rfl (fun q2 => ?_) (fun q2 => ?_)
    ·obtain ⟨st0, r0, hst, hr0⟩ : ∃ st0 r0 : Nat, st0 + z = mid + y ∧ r0 = mid := ⟨mid + y - z, mid, by omega, rfl⟩
     refine XL.n2 ?_
     refine SP.t ?_
     refine SP.r2 ?_
     refine XL.m ?_
     refine XL.m ?_
     refine XL.sub_i64 rfl rfl (by omega) (by omega) rfl ?_
     rw [show (mid : Int) + (y : Int) - (z : Int) = (st0 : Int) by omega]
     refine XL.a ?_
     refine XL.n3 ?_
     refine XL.m ?_
     refine XL.a ?_
     refine XL.nil ?_
     first
      | exact Jp.meet (st0, mid) ⟨by show st0 ≤ mid; omega, by show (mid < y ∧ st0 + z = mid + y ∧ mid = mid) ∨ (y ≤ mid ∧ st0 = x ∧ mid = y); omega⟩ (by repeat' constructor) (Pk.drop (by repeat' constructor))
      | exact Jp.meet (x, y) ⟨by show x ≤ y; omega, by show (mid < y ∧ x + z = mid + y ∧ y = mid) ∨ (y ≤ mid ∧ x = x ∧ y = y); omega⟩ (by repeat' constructor) (Pk.drop (by repeat' constructor))
    ·obtain ⟨st0, r0, hst, hr0⟩ : ∃ st0 r0 : Nat, st0 = x ∧ r0 = y := ⟨x, y, rfl, rfl⟩
     refine XL.n2 ?_
     refine SP.f ?_
     refine SP.r2 ?_
     refine XL.m ?_
     refine XL.a ?_
     refine XL.n3 ?_
     refine XL.m ?_
     refine XL.a ?_
     refine XL.nil ?_
     first
      | exact Jp.meet (st0, mid) ⟨by show st0 ≤ mid; omega, by show (mid < y ∧ st0 + z = mid + y ∧ mid = mid) ∨ (y ≤ mid ∧ st0 = x ∧ mid = y); omega⟩ (by repeat' constructor) (Pk.drop (by repeat' constructor))
      | exact Jp.meet (x, y) ⟨by show x ≤ y; omega, by show (mid < y ∧ x + z = mid + y ∧ y = mid) ∨ (y ≤ mid ∧ x = x ∧ y = y); omega⟩ (by repeat' constructor) (Pk.drop (by repeat' constructor))
   ·rintro ⟨s0, r0⟩ ⟨hsr, hcs⟩
    dsimp only at *
    refine SP.r2 ?_
    refine XL.m ?_
    refine XL.sub_i64 rfl rfl (by omega) (by omega) rfl ?_
    rw [show (mid : Int) + (y : Int) - 1 = ((mid + y - 1 : Nat) : Int) by omega]
    refine XL.a ?_
    refine XL.n5 ?_
    refine SP.block ?_
    refine SP.loop (X := Nat × Nat) (fun p => [(20, .int .i64 (p.1 : Int)), (21, .int .i64 (p.2 : Int)), (22, .int .i64 ((mid + y - 1 : Nat) : Int)), (18, .int .i64 (mid : Int)), (19, .int .i64 ((mid : Int) + (y : Int))), (0, .slice a m cap), (1, .int .i64 (x : Int)), (2, .int .i64 (y : Int)), (3, .int .i64 (z : Int)), (4, .func (.func 200) #[] #[])]) (fun p => [TkN (.slice a m cap) m ts]) (fun p => s0 ≤ p.1 ∧ p.1 ≤ p.2 ∧ p.2 ≤ r0) (fun p => p.2 - p.1) (s0, r0) ⟨Nat.le_refl _, hsr, Nat.le_refl _⟩ (by repeat' constructor) (Pk.drop (by repeat' constructor)) ?_
    rintro ⟨i, j⟩ ⟨h1, h2, h3⟩
    dsimp only at *
    refine SP.seq ?_
    refine SP.r2 ?_
    refine XL.m ?_
    refine XL.m ?_
    refine XL.lss_s rfl rfl rfl (fun hij => ?_) (fun hij => ?_)
    ·obtain ⟨th, hgh⟩ := get_of hl (show (i + j) / 2 < m by omega)
     obtain ⟨tp, hgp⟩ := get_of hl (show mid + y - 1 - (i + j) / 2 < m by omega)
     obtain rfl := hA (by omega)
     refine XL.n2 ?_
     refine SP.t ?_
     refine SP.skip ?_
     refine Jp.then_normal ?_
     refine SP.block ?_
     refine SP.r2 ?_
     refine XL.m ?_
     refine XL.m ?_
     refine XL.add_i64 rfl rfl (by omega) (by omega) rfl ?_
     refine XL.conv (by rfl) ⟨_, Tryz.underlying3⟩ (by first | rfl | exact wrap64_of (by omega) (by omega) | exact wrapU8_of (by omega) (by omega) | exact wrapU64_of (by omega) (by omega)) (by rfl) ?_
     refine XL.shr rfl rfl (by decide) (fdiv_of (m := 2) rfl (by decide)) rfl ?_
     refine XL.conv (by rfl) ⟨_, Tryz.underlying99⟩ (by first | rfl | exact wrap64_of (by omega) (by omega) | exact wrapU8_of (by omega) (by omega) | exact wrapU64_of (by omega) (by omega)) (by rfl) ?_
     rw [show (((i : Nat) : Int) + ((j : Nat) : Int)) / 2 = (((i + j) / 2 : Nat) : Int) by omega]
     refine XL.a ?_
     refine XL.n5 ?_
     refine SP.quiet Tryz.fol (by kernel_rfl) ?_
     refine XL.m ?_
     refine XL.m ?_
     refine XL.m ?_
     refine XL.m ?_
     refine XL.sub_i64 rfl rfl (by omega) (by omega) rfl ?_
     refine XL.indexSl (r := (mid + y - 1 - (i + j) / 2) * 2) rfl rfl (by omega) (by omega) (by omega) rfl ?_
     refine XL.loadA (hs := SbL.flat Tk.len hgp rfl) rfl rfl ?_
     refine XL.m ?_
     refine XL.m ?_
     refine XL.indexSl (r := ((i + j) / 2) * 2) rfl rfl (by omega) (by omega) (by omega) rfl ?_
     refine XL.loadA (hs := SbL.flat Tk.len hgh rfl) rfl rfl ?_
     refine XL.vp (v1 := []) (v2 := []) rfl rfl (c200 tp th) rfl ?_
     refine XL.lss_s rfl rfl rfl (fun hc => ?_) (fun hc => ?_)
     ·refine XL.not_t rfl rfl ?_
      refine XL.nilq_end ?_
      refine Jp.then_normal ?_
      refine SP.f ?_
      refine SP.region ?_
      refine XL.m ?_
      refine XL.a ?_
      refine XL.nil ?_
      refine Jp.block_normal ?_
      first
       | (have _ := (hc : ¬ cmpT tp th < 0); exact Jp.round ((i + j) / 2 + 1, j) ⟨by show s0 ≤ (i + j) / 2 + 1; omega, by show (i + j) / 2 + 1 ≤ j; omega, h3⟩ (by show j - ((i + j) / 2 + 1) < j - i; omega) (by repeat' constructor) (Pk.drop (by repeat' constructor)))
       | exact Jp.round (i, (i + j) / 2) ⟨h1, by show i ≤ (i + j) / 2; omega, by show (i + j) / 2 ≤ r0; omega⟩ (by show (i + j) / 2 - i < j - i; omega) (by repeat' constructor) (Pk.drop (by repeat' constructor))
     ·refine XL.not_f rfl rfl ?_
      refine XL.nilq_end ?_
      refine Jp.then_normal ?_
      refine SP.t ?_
      refine SP.region ?_
      refine XL.m ?_
      refine XL.add_i64 rfl rfl (by omega) (by omega) rfl ?_
      refine XL.a ?_
      refine XL.nil ?_
      refine Jp.block_normal ?_
      first
       | (have _ := (hc : ¬ cmpT tp th < 0); exact Jp.round ((i + j) / 2 + 1, j) ⟨by show s0 ≤ (i + j) / 2 + 1; omega, by show (i + j) / 2 + 1 ≤ j; omega, h3⟩ (by show j - ((i + j) / 2 + 1) < j - i; omega) (by repeat' constructor) (Pk.drop (by repeat' constructor)))
       | exact Jp.round (i, (i + j) / 2) ⟨h1, by show i ≤ (i + j) / 2; omega, by show (i + j) / 2 ≤ r0; omega⟩ (by show (i + j) / 2 - i < j - i; omega) (by repeat' constructor) (Pk.drop (by repeat' constructor))
    ·refine XL.n2 ?_
     refine SP.f ?_
     refine SP.exit ?_
     refine Jp.then_exit ?_
     refine Jp.then_exit ?_
     refine Jp.block_here ?_
     refine Jp.n4 ?_
     refine XL.m ?_
     refine XL.m ?_
     refine XL.sub_i64 rfl rfl (by omega) (by omega) rfl ?_
     obtain ⟨en, hen⟩ : ∃ en : Nat, en + i = mid + y := ⟨mid + y - i, by omega⟩
     rw [show (mid : Int) + (y : Int) - (i : Int) = (en : Int) by omega]
     refine XL.a ?_
     refine XL.n2 ?_
     refine SP.cut (X := List Tk) (fun vs => [(20, .int .i64 (i : Int)), (24, .int .i64 (en : Int)), (18, .int .i64 (mid : Int)), (0, .slice a m cap), (1, .int .i64 (x : Int)), (2, .int .i64 (y : Int)), (3, .int .i64 (z : Int)), (4, .func (.func 200) #[] #[])]) (fun vs => [TkN (.slice a m cap) m vs]) (fun vs => vs.length = m ∧ vs.Perm ts) ?_ ?_
     ·refine SP.r2 ?_
      refine XL.m ?_
      refine XL.m ?_
      refine XL.lss_s rfl rfl rfl (fun p39 => ?_) (fun p39 => ?_)
      ·refine XL.m ?_
       refine XL.g ?_
       refine XL.m ?_
       refine XL.g ?_
       refine XL.m ?_
       refine XL.g ?_
       refine XL.lss_s rfl rfl rfl (fun r39 => ?_) (fun r39 => ?_)
       ·refine XL.pick_t rfl rfl rfl ?_
        refine XL.n2 ?_
        refine SP.t ?_
        refine SP.region ?_
        refine XL.m ?_
        refine XL.m ?_
        refine XL.m ?_
        refine XL.m ?_
        refine XL.m ?_
        refine XL.cw rfl (c213 i y en a b cap m ts hA hl hm (by omega) (by omega) (by omega)) (by repeat' constructor) rfl ?_
        rintro _ _ ⟨rfl, us2, hl2, hp2, rfl⟩
        refine XL.app1 ?_
        refine XL.nil ?_
        first
         | exact Jp.meet us2 ⟨hl2, hp2.trans (.refl _)⟩ (by repeat' constructor) (Pk.drop (by repeat' constructor))
         | exact Jp.meet ts ⟨hl, (.refl _)⟩ (by repeat' constructor) (Pk.drop (by repeat' constructor))
       ·refine XL.pick_t rfl rfl rfl ?_
        refine XL.n2 ?_
        refine SP.f ?_
        refine SP.skip ?_
        first
         | exact Jp.meet us2 ⟨hl2, hp2.trans (.refl _)⟩ (by repeat' constructor) (Pk.drop (by repeat' constructor))
         | exact Jp.meet ts ⟨hl, (.refl _)⟩ (by repeat' constructor) (Pk.drop (by repeat' constructor))
      ·refine XL.m ?_
       refine XL.k ?_
       refine XL.k ?_
       refine XL.k ?_
       refine XL.pick_f rfl rfl rfl ?_
       refine XL.n2 ?_
       refine SP.f ?_
       refine SP.skip ?_
       first
        | exact Jp.meet us2 ⟨hl2, hp2.trans (.refl _)⟩ (by repeat' constructor) (Pk.drop (by repeat' constructor))
        | exact Jp.meet ts ⟨hl, (.refl _)⟩ (by repeat' constructor) (Pk.drop (by repeat' constructor))
     ·rintro va ⟨hva, hpva⟩
      refine SP.cut (X := List Tk) (fun vs => [(20, .int .i64 (i : Int)), (24, .int .i64 (en : Int)), (18, .int .i64 (mid : Int)), (0, .slice a m cap), (1, .int .i64 (x : Int)), (2, .int .i64 (y : Int)), (3, .int .i64 (z : Int)), (4, .func (.func 200) #[] #[])]) (fun vs => [TkN (.slice a m cap) m vs]) (fun vs => vs.length = m ∧ vs.Perm ts) ?_ ?_
      ·refine SP.r2 ?_
       refine XL.m ?_
       refine XL.m ?_
       refine XL.lss_s rfl rfl rfl (fun p41 => ?_) (fun p41 => ?_)
       ·refine XL.m ?_
        refine XL.g ?_
        refine XL.m ?_
        refine XL.g ?_
        refine XL.m ?_
        refine XL.g ?_
        refine XL.lss_s rfl rfl rfl (fun r41 => ?_) (fun r41 => ?_)
        ·refine XL.pick_t rfl rfl rfl ?_
         refine XL.n2 ?_
         refine SP.t ?_
         refine SP.region ?_
         refine XL.m ?_
         refine XL.m ?_
         refine XL.m ?_
         refine XL.m ?_
         refine XL.m ?_
         refine XL.cw rfl (IH x i mid a b cap m va hA hva hm (by omega) (by omega) (by omega) (by omega)) (by repeat' constructor) rfl ?_
         rintro _ _ ⟨rfl, us2, hl2, hp2, rfl⟩
         refine XL.app1 ?_
         refine XL.nil ?_
         first
          | exact Jp.meet us2 ⟨hl2, hp2.trans hpva⟩ (by repeat' constructor) (Pk.drop (by repeat' constructor))
          | exact Jp.meet va ⟨hva, hpva⟩ (by repeat' constructor) (Pk.drop (by repeat' constructor))
        ·refine XL.pick_t rfl rfl rfl ?_
         refine XL.n2 ?_
         refine SP.f ?_
         refine SP.skip ?_
         first
          | exact Jp.meet us2 ⟨hl2, hp2.trans hpva⟩ (by repeat' constructor) (Pk.drop (by repeat' constructor))
          | exact Jp.meet va ⟨hva, hpva⟩ (by repeat' constructor) (Pk.drop (by repeat' constructor))
       ·refine XL.m ?_
        refine XL.k ?_
        refine XL.k ?_
        refine XL.k ?_
        refine XL.pick_f rfl rfl rfl ?_
        refine XL.n2 ?_
        refine SP.f ?_
        refine SP.skip ?_
        first
         | exact Jp.meet us2 ⟨hl2, hp2.trans hpva⟩ (by repeat' constructor) (Pk.drop (by repeat' constructor))
         | exact Jp.meet va ⟨hva, hpva⟩ (by repeat' constructor) (Pk.drop (by repeat' constructor))
      ·rintro vb ⟨hvb, hpvb⟩
       refine SP.r2 ?_
       refine XL.m ?_
       refine XL.m ?_
       refine XL.lss_s rfl rfl rfl (fun p43 => ?_) (fun p43 => ?_)
       ·refine XL.m ?_
        refine XL.g ?_
        refine XL.m ?_
        refine XL.g ?_
        refine XL.m ?_
        refine XL.g ?_
        refine XL.lss_s rfl rfl rfl (fun r43 => ?_) (fun r43 => ?_)
        ·refine XL.pick_t rfl rfl rfl ?_
         refine XL.n2 ?_
         refine SP.t ?_
         refine SP.region ?_
         refine XL.m ?_
         refine XL.m ?_
         refine XL.m ?_
         refine XL.m ?_
         refine XL.m ?_
         refine XL.cw rfl (IH mid en z a b cap m vb hA hvb hm (by omega) (by omega) (by omega) (by omega)) (by repeat' constructor) rfl ?_
         rintro _ _ ⟨rfl, us2, hl2, hp2, rfl⟩
         refine XL.app1 ?_
         refine XL.nil ?_
         first
          | exact Jp.end0 (.inl rfl) rfl ⟨rfl, us2, hl2, hp2.trans hpvb, rfl⟩
          | exact Jp.end0 (.inl rfl) rfl ⟨rfl, vb, hvb, hpvb, rfl⟩
          | exact Jp.end0 (.inl rfl) rfl ⟨rfl, us, hus, hpus, rfl⟩
        ·refine XL.pick_t rfl rfl rfl ?_
         refine XL.n2 ?_
         refine SP.f ?_
         refine SP.skip ?_
         first
          | exact Jp.end0 (.inl rfl) rfl ⟨rfl, us2, hl2, hp2.trans hpvb, rfl⟩
          | exact Jp.end0 (.inl rfl) rfl ⟨rfl, vb, hvb, hpvb, rfl⟩
          | exact Jp.end0 (.inl rfl) rfl ⟨rfl, us, hus, hpus, rfl⟩
       ·refine XL.m ?_
        refine XL.k ?_
        refine XL.k ?_
        refine XL.k ?_
        refine XL.pick_f rfl rfl rfl ?_
        refine XL.n2 ?_
        refine SP.f ?_
        refine SP.skip ?_
        first
         | exact Jp.end0 (.inl rfl) rfl ⟨rfl, us2, hl2, hp2.trans hpvb, rfl⟩
         | exact Jp.end0 (.inl rfl) rfl ⟨rfl, vb, hvb, hpvb, rfl⟩
         | exact Jp.end0 (.inl rfl) rfl ⟨rfl, us, hus, hpus, rfl⟩
theorem symM : ∀ N, SymM N
 | 0 => fun x y z a b cap m ts hA hl hm hx hy hz h => absurd h (by omega)
 | N + 1 => fun x y z a b cap m ts hA hl hm hx hy hz h => c211s N (symM N) x y z a b cap m ts hA hl hm hx hy hz (by omega)
theorem c211 (x y z : Nat) (a : Option Addr) (b cap m : Nat) (ts : List Tk) (hA : m ≠ 0 → a = some ⟨b, 0, none⟩) (hl : ts.length = m) (hm : m ≤ 100000) (hx : x < y) (hy : y < z) (hz : z ≤ m) : Tri Tryz.prog 211 [.slice a m cap, .int .i64 (x : Int), .int .i64 (y : Int), .int .i64 (z : Int), .func (.func 200) #[] #[]] [TkN (.slice a m cap) m ts] (fun v Γ' => v = .tuple #[] ∧ ∃ ts' : List Tk, ts'.length = m ∧ ts'.Perm ts ∧ Γ' = [TkN (.slice a m cap) m ts']) := symM (z - x + 1) x y z a b cap m ts hA hl hm hx hy hz (by omega)
end Go.Proofs

