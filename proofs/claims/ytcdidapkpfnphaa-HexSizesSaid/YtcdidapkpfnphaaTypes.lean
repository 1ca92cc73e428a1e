/- The facts on types and functions of the program that the walks lean on. -/
import Derived.Test.YtcdidapkpfnphaaProg
import Derived.Test.YtcdidapkpfnphaaLibG
namespace Go.Proofs.Ytcdidapkpfnphaa
open Go.RowKit
set_option maxRecDepth 100000
theorem O1 : TOne Try.prog 1 := ⟨by kernel_rfl, by kernel_rfl⟩
theorem O2 : TOne Try.prog 2 := ⟨by kernel_rfl, by kernel_rfl⟩
theorem U2 : Try.prog.underlying 2 = some (.int .i64) := by kernel_rfl
theorem Z2 : TZero Try.prog 2 [.int .i64 0] := ⟨.int .i64 0, by kernel_rfl, rfl⟩
theorem Z1_2 : (Try.prog.info? 2).map (·.zero) = some (some (.int .i64 0)) := by kernel_rfl
theorem M2 : (Try.prog.info? 2).map (fun i => (i.zero, i.bytes)) = some (some (.int .i64 0), 8) := by kernel_rfl
theorem O3 : TOne Try.prog 3 := ⟨by kernel_rfl, by kernel_rfl⟩
theorem U3 : Try.prog.underlying 3 = some (.int .i64) := by kernel_rfl
theorem Z3 : TZero Try.prog 3 [.int .i64 0] := ⟨.int .i64 0, by kernel_rfl, rfl⟩
theorem Z1_3 : (Try.prog.info? 3).map (·.zero) = some (some (.int .i64 0)) := by kernel_rfl
theorem M3 : (Try.prog.info? 3).map (fun i => (i.zero, i.bytes)) = some (some (.int .i64 0), 8) := by kernel_rfl
theorem O4 : TOne Try.prog 4 := ⟨by kernel_rfl, by kernel_rfl⟩
theorem U4 : Try.prog.underlying 4 = some .bool := by kernel_rfl
theorem Z4 : TZero Try.prog 4 [.bool false] := ⟨.bool false, by kernel_rfl, rfl⟩
theorem Z1_4 : (Try.prog.info? 4).map (·.zero) = some (some (.bool false)) := by kernel_rfl
theorem M4 : (Try.prog.info? 4).map (fun i => (i.zero, i.bytes)) = some (some (.bool false), 1) := by kernel_rfl
theorem O5 : TOne Try.prog 5 := ⟨by kernel_rfl, by kernel_rfl⟩
theorem U5 : Try.prog.underlying 5 = some (.int .u8) := by kernel_rfl
theorem Z5 : TZero Try.prog 5 [.int .u8 0] := ⟨.int .u8 0, by kernel_rfl, rfl⟩
theorem Z1_5 : (Try.prog.info? 5).map (·.zero) = some (some (.int .u8 0)) := by kernel_rfl
theorem M5 : (Try.prog.info? 5).map (fun i => (i.zero, i.bytes)) = some (some (.int .u8 0), 1) := by kernel_rfl
theorem O6 : TOne Try.prog 6 := ⟨by kernel_rfl, by kernel_rfl⟩
theorem U6 : Try.prog.underlying 6 = some (.int .u8) := by kernel_rfl
theorem Z6 : TZero Try.prog 6 [.int .u8 0] := ⟨.int .u8 0, by kernel_rfl, rfl⟩
theorem Z1_6 : (Try.prog.info? 6).map (·.zero) = some (some (.int .u8 0)) := by kernel_rfl
theorem M6 : (Try.prog.info? 6).map (fun i => (i.zero, i.bytes)) = some (some (.int .u8 0), 1) := by kernel_rfl
theorem O9 : TOne Try.prog 9 := ⟨by kernel_rfl, by kernel_rfl⟩
theorem U9 : Try.prog.underlying 9 = some .string := by kernel_rfl
theorem Z9 : TZero Try.prog 9 [.string ByteArray.empty] := ⟨.string ByteArray.empty, by kernel_rfl, rfl⟩
theorem Z1_9 : (Try.prog.info? 9).map (·.zero) = some (some (.string ByteArray.empty)) := by kernel_rfl
theorem M9 : (Try.prog.info? 9).map (fun i => (i.zero, i.bytes)) = some (some (.string ByteArray.empty), 16) := by kernel_rfl
theorem O10 : TOne Try.prog 10 := ⟨by kernel_rfl, by kernel_rfl⟩
theorem U10 : Try.prog.underlying 10 = some .string := by kernel_rfl
theorem Z10 : TZero Try.prog 10 [.string ByteArray.empty] := ⟨.string ByteArray.empty, by kernel_rfl, rfl⟩
theorem Z1_10 : (Try.prog.info? 10).map (·.zero) = some (some (.string ByteArray.empty)) := by kernel_rfl
theorem M10 : (Try.prog.info? 10).map (fun i => (i.zero, i.bytes)) = some (some (.string ByteArray.empty), 16) := by kernel_rfl
theorem O11 : TOne Try.prog 11 := ⟨by kernel_rfl, by kernel_rfl⟩
theorem U11 : Try.prog.underlying 11 = some .string := by kernel_rfl
theorem Z11 : TZero Try.prog 11 [.string ByteArray.empty] := ⟨.string ByteArray.empty, by kernel_rfl, rfl⟩
theorem Z1_11 : (Try.prog.info? 11).map (·.zero) = some (some (.string ByteArray.empty)) := by kernel_rfl
theorem M11 : (Try.prog.info? 11).map (fun i => (i.zero, i.bytes)) = some (some (.string ByteArray.empty), 16) := by kernel_rfl
theorem O12 : TOne Try.prog 12 := ⟨by kernel_rfl, by kernel_rfl⟩
theorem U12 : Try.prog.underlying 12 = some (.int .u64) := by kernel_rfl
theorem Z12 : TZero Try.prog 12 [.int .u64 0] := ⟨.int .u64 0, by kernel_rfl, rfl⟩
theorem Z1_12 : (Try.prog.info? 12).map (·.zero) = some (some (.int .u64 0)) := by kernel_rfl
theorem M12 : (Try.prog.info? 12).map (fun i => (i.zero, i.bytes)) = some (some (.int .u64 0), 8) := by kernel_rfl
theorem O15 : TOne Try.prog 15 := ⟨by kernel_rfl, by kernel_rfl⟩
theorem O16 : TOne Try.prog 16 := ⟨by kernel_rfl, by kernel_rfl⟩
theorem O17 : TOne Try.prog 17 := ⟨by kernel_rfl, by kernel_rfl⟩
theorem O21 : TOne Try.prog 21 := ⟨by kernel_rfl, by kernel_rfl⟩
theorem U21 : Try.prog.underlying 21 = some (.int .i32) := by kernel_rfl
theorem Z21 : TZero Try.prog 21 [.int .i32 0] := ⟨.int .i32 0, by kernel_rfl, rfl⟩
theorem Z1_21 : (Try.prog.info? 21).map (·.zero) = some (some (.int .i32 0)) := by kernel_rfl
theorem M21 : (Try.prog.info? 21).map (fun i => (i.zero, i.bytes)) = some (some (.int .i32 0), 4) := by kernel_rfl
theorem O22 : TOne Try.prog 22 := ⟨by kernel_rfl, by kernel_rfl⟩
theorem S22 : TSlice Try.prog 22 5 := ⟨by kernel_rfl, by kernel_rfl⟩
theorem A22_5 : TApp Try.prog 22 5 1 (.int .u8 0) := ⟨by kernel_rfl, by kernel_rfl, rfl⟩
theorem Z22 : TZero Try.prog 22 [.slice none 0 0] := ⟨.slice none 0 0, by kernel_rfl, rfl⟩
theorem Z1_22 : (Try.prog.info? 22).map (·.zero) = some (some (.slice none 0 0)) := by kernel_rfl
theorem M22 : (Try.prog.info? 22).map (fun i => (i.zero, i.bytes)) = some (some (.slice none 0 0), 24) := by kernel_rfl
theorem O23 : TOne Try.prog 23 := ⟨by kernel_rfl, by kernel_rfl⟩
theorem O24 : TOne Try.prog 24 := ⟨by kernel_rfl, by kernel_rfl⟩
theorem S24 : TSlice Try.prog 24 9 := ⟨by kernel_rfl, by kernel_rfl⟩
theorem A24_9 : TApp Try.prog 24 9 16 (.string ByteArray.empty) := ⟨by kernel_rfl, by kernel_rfl, rfl⟩
theorem Z24 : TZero Try.prog 24 [.slice none 0 0] := ⟨.slice none 0 0, by kernel_rfl, rfl⟩
theorem Z1_24 : (Try.prog.info? 24).map (·.zero) = some (some (.slice none 0 0)) := by kernel_rfl
theorem M24 : (Try.prog.info? 24).map (fun i => (i.zero, i.bytes)) = some (some (.slice none 0 0), 24) := by kernel_rfl
theorem O25 : TOne Try.prog 25 := ⟨by kernel_rfl, by kernel_rfl⟩
theorem O26 : TOne Try.prog 26 := ⟨by kernel_rfl, by kernel_rfl⟩
theorem O27 : TOne Try.prog 27 := ⟨by kernel_rfl, by kernel_rfl⟩
theorem O28 : TOne Try.prog 28 := ⟨by kernel_rfl, by kernel_rfl⟩
theorem O29 : TOne Try.prog 29 := ⟨by kernel_rfl, by kernel_rfl⟩
theorem O30 : TOne Try.prog 30 := ⟨by kernel_rfl, by kernel_rfl⟩
theorem O31 : TOne Try.prog 31 := ⟨by kernel_rfl, by kernel_rfl⟩
theorem T32 : TArr Try.prog 32 4 5 4 := ⟨by kernel_rfl, by kernel_rfl⟩
theorem Z32 : TZero Try.prog 32 (ns vb 4 (fun _ => (0 : UInt8))) := ⟨.agg (ns vb 4 (fun _ => (0 : UInt8))).toArray, by kernel_rfl, by simp [Value.cells]⟩
theorem O33 : TOne Try.prog 33 := ⟨by kernel_rfl, by kernel_rfl⟩
theorem O34 : TOne Try.prog 34 := ⟨by kernel_rfl, by kernel_rfl⟩
theorem O35 : TOne Try.prog 35 := ⟨by kernel_rfl, by kernel_rfl⟩
theorem O36 : TOne Try.prog 36 := ⟨by kernel_rfl, by kernel_rfl⟩
theorem U36 : Try.prog.underlying 36 = some (.int .i64) := by kernel_rfl
theorem Z36 : TZero Try.prog 36 [.int .i64 0] := ⟨.int .i64 0, by kernel_rfl, rfl⟩
theorem Z1_36 : (Try.prog.info? 36).map (·.zero) = some (some (.int .i64 0)) := by kernel_rfl
theorem M36 : (Try.prog.info? 36).map (fun i => (i.zero, i.bytes)) = some (some (.int .i64 0), 8) := by kernel_rfl
theorem O38 : TOne Try.prog 38 := ⟨by kernel_rfl, by kernel_rfl⟩
theorem O39 : TOne Try.prog 39 := ⟨by kernel_rfl, by kernel_rfl⟩
theorem O40 : TOne Try.prog 40 := ⟨by kernel_rfl, by kernel_rfl⟩
theorem T41 : TArr Try.prog 41 16 5 16 := ⟨by kernel_rfl, by kernel_rfl⟩
theorem Z41 : TZero Try.prog 41 (ns vb 16 (fun _ => (0 : UInt8))) := ⟨.agg (ns vb 16 (fun _ => (0 : UInt8))).toArray, by kernel_rfl, by simp [Value.cells]⟩
theorem O42 : TOne Try.prog 42 := ⟨by kernel_rfl, by kernel_rfl⟩
theorem O43 : TOne Try.prog 43 := ⟨by kernel_rfl, by kernel_rfl⟩
theorem O44 : TOne Try.prog 44 := ⟨by kernel_rfl, by kernel_rfl⟩
theorem T45 : TArr Try.prog 45 15 41 240 := ⟨by kernel_rfl, by kernel_rfl⟩
theorem Z45 : TZero Try.prog 45 (ns vb 240 (fun _ => (0 : UInt8))) := ⟨.agg (ns vb 240 (fun _ => (0 : UInt8))).toArray, by kernel_rfl, by simp [Value.cells]⟩
theorem T46 : TArr Try.prog 46 15 41 240 := ⟨by kernel_rfl, by kernel_rfl⟩
theorem Z46 : TZero Try.prog 46 (ns vb 240 (fun _ => (0 : UInt8))) := ⟨.agg (ns vb 240 (fun _ => (0 : UInt8))).toArray, by kernel_rfl, by simp [Value.cells]⟩
theorem O48 : TOne Try.prog 48 := ⟨by kernel_rfl, by kernel_rfl⟩
theorem O50 : TOne Try.prog 50 := ⟨by kernel_rfl, by kernel_rfl⟩
theorem O51 : TOne Try.prog 51 := ⟨by kernel_rfl, by kernel_rfl⟩
theorem O52 : TOne Try.prog 52 := ⟨by kernel_rfl, by kernel_rfl⟩
theorem O53 : TOne Try.prog 53 := ⟨by kernel_rfl, by kernel_rfl⟩
theorem O54 : TOne Try.prog 54 := ⟨by kernel_rfl, by kernel_rfl⟩
theorem O56 : TOne Try.prog 56 := ⟨by kernel_rfl, by kernel_rfl⟩
theorem O58 : TOne Try.prog 58 := ⟨by kernel_rfl, by kernel_rfl⟩
theorem O59 : TOne Try.prog 59 := ⟨by kernel_rfl, by kernel_rfl⟩
theorem O60 : TOne Try.prog 60 := ⟨by kernel_rfl, by kernel_rfl⟩
theorem O61 : TOne Try.prog 61 := ⟨by kernel_rfl, by kernel_rfl⟩
theorem O62 : TOne Try.prog 62 := ⟨by kernel_rfl, by kernel_rfl⟩
theorem O63 : TOne Try.prog 63 := ⟨by kernel_rfl, by kernel_rfl⟩
theorem O64 : TOne Try.prog 64 := ⟨by kernel_rfl, by kernel_rfl⟩
theorem O65 : TOne Try.prog 65 := ⟨by kernel_rfl, by kernel_rfl⟩
theorem O66 : TOne Try.prog 66 := ⟨by kernel_rfl, by kernel_rfl⟩
theorem O67 : TOne Try.prog 67 := ⟨by kernel_rfl, by kernel_rfl⟩
theorem U67 : Try.prog.underlying 67 = some (.int .u64) := by kernel_rfl
theorem Z67 : TZero Try.prog 67 [.int .u64 0] := ⟨.int .u64 0, by kernel_rfl, rfl⟩
theorem Z1_67 : (Try.prog.info? 67).map (·.zero) = some (some (.int .u64 0)) := by kernel_rfl
theorem M67 : (Try.prog.info? 67).map (fun i => (i.zero, i.bytes)) = some (some (.int .u64 0), 8) := by kernel_rfl
theorem T68 : TArr Try.prog 68 256 5 256 := ⟨by kernel_rfl, by kernel_rfl⟩
theorem Z68 : TZero Try.prog 68 (ns vb 256 (fun _ => (0 : UInt8))) := ⟨.agg (ns vb 256 (fun _ => (0 : UInt8))).toArray, by kernel_rfl, by simp [Value.cells]⟩
theorem O69 : TOne Try.prog 69 := ⟨by kernel_rfl, by kernel_rfl⟩
theorem O70 : TOne Try.prog 70 := ⟨by kernel_rfl, by kernel_rfl⟩
theorem O72 : TOne Try.prog 72 := ⟨by kernel_rfl, by kernel_rfl⟩
theorem T73 : TArr Try.prog 73 60 32 240 := ⟨by kernel_rfl, by kernel_rfl⟩
theorem Z73 : TZero Try.prog 73 (ns vb 240 (fun _ => (0 : UInt8))) := ⟨.agg (ns vb 240 (fun _ => (0 : UInt8))).toArray, by kernel_rfl, by simp [Value.cells]⟩
theorem O74 : TOne Try.prog 74 := ⟨by kernel_rfl, by kernel_rfl⟩
theorem O75 : TOne Try.prog 75 := ⟨by kernel_rfl, by kernel_rfl⟩
theorem O76 : TOne Try.prog 76 := ⟨by kernel_rfl, by kernel_rfl⟩
theorem Z76 : TZero Try.prog 76 [.slice none 0 0] := ⟨.slice none 0 0, by kernel_rfl, rfl⟩
theorem Z1_76 : (Try.prog.info? 76).map (·.zero) = some (some (.slice none 0 0)) := by kernel_rfl
theorem M76 : (Try.prog.info? 76).map (fun i => (i.zero, i.bytes)) = some (some (.slice none 0 0), 24) := by kernel_rfl
theorem O78 : TOne Try.prog 78 := ⟨by kernel_rfl, by kernel_rfl⟩
theorem O79 : TOne Try.prog 79 := ⟨by kernel_rfl, by kernel_rfl⟩
theorem O80 : TOne Try.prog 80 := ⟨by kernel_rfl, by kernel_rfl⟩
theorem O81 : TOne Try.prog 81 := ⟨by kernel_rfl, by kernel_rfl⟩
theorem O82 : TOne Try.prog 82 := ⟨by kernel_rfl, by kernel_rfl⟩
theorem O83 : TOne Try.prog 83 := ⟨by kernel_rfl, by kernel_rfl⟩
theorem O89 : TOne Try.prog 89 := ⟨by kernel_rfl, by kernel_rfl⟩
theorem O90 : TOne Try.prog 90 := ⟨by kernel_rfl, by kernel_rfl⟩
theorem U90 : Try.prog.underlying 90 = some (.int .u32) := by kernel_rfl
theorem Z90 : TZero Try.prog 90 [.int .u32 0] := ⟨.int .u32 0, by kernel_rfl, rfl⟩
theorem Z1_90 : (Try.prog.info? 90).map (·.zero) = some (some (.int .u32 0)) := by kernel_rfl
theorem M90 : (Try.prog.info? 90).map (fun i => (i.zero, i.bytes)) = some (some (.int .u32 0), 4) := by kernel_rfl
theorem O91 : TOne Try.prog 91 := ⟨by kernel_rfl, by kernel_rfl⟩
theorem U91 : Try.prog.underlying 91 = some (.int .u8) := by kernel_rfl
theorem Z91 : TZero Try.prog 91 [.int .u8 0] := ⟨.int .u8 0, by kernel_rfl, rfl⟩
theorem Z1_91 : (Try.prog.info? 91).map (·.zero) = some (some (.int .u8 0)) := by kernel_rfl
theorem M91 : (Try.prog.info? 91).map (fun i => (i.zero, i.bytes)) = some (some (.int .u8 0), 1) := by kernel_rfl
theorem O92 : TOne Try.prog 92 := ⟨by kernel_rfl, by kernel_rfl⟩
theorem U92 : Try.prog.underlying 92 = some (.int .u8) := by kernel_rfl
theorem Z92 : TZero Try.prog 92 [.int .u8 0] := ⟨.int .u8 0, by kernel_rfl, rfl⟩
theorem Z1_92 : (Try.prog.info? 92).map (·.zero) = some (some (.int .u8 0)) := by kernel_rfl
theorem M92 : (Try.prog.info? 92).map (fun i => (i.zero, i.bytes)) = some (some (.int .u8 0), 1) := by kernel_rfl
theorem O93 : TOne Try.prog 93 := ⟨by kernel_rfl, by kernel_rfl⟩
theorem O94 : TOne Try.prog 94 := ⟨by kernel_rfl, by kernel_rfl⟩
theorem O95 : TOne Try.prog 95 := ⟨by kernel_rfl, by kernel_rfl⟩
theorem U95 : Try.prog.underlying 95 = some (.int .i32) := by kernel_rfl
theorem Z95 : TZero Try.prog 95 [.int .i32 0] := ⟨.int .i32 0, by kernel_rfl, rfl⟩
theorem Z1_95 : (Try.prog.info? 95).map (·.zero) = some (some (.int .i32 0)) := by kernel_rfl
theorem M95 : (Try.prog.info? 95).map (fun i => (i.zero, i.bytes)) = some (some (.int .i32 0), 4) := by kernel_rfl
theorem O96 : TOne Try.prog 96 := ⟨by kernel_rfl, by kernel_rfl⟩
theorem U96 : Try.prog.underlying 96 = some (.int .i32) := by kernel_rfl
theorem Z96 : TZero Try.prog 96 [.int .i32 0] := ⟨.int .i32 0, by kernel_rfl, rfl⟩
theorem Z1_96 : (Try.prog.info? 96).map (·.zero) = some (some (.int .i32 0)) := by kernel_rfl
theorem M96 : (Try.prog.info? 96).map (fun i => (i.zero, i.bytes)) = some (some (.int .i32 0), 4) := by kernel_rfl
theorem Q32 : TEq Try.prog 32 4 vb := teq1 (by kernel_rfl) T32.1 O5 U5 vb_inj
theorem Q41 : TEq Try.prog 41 16 vb := teq1 (by kernel_rfl) T41.1 O5 U5 vb_inj
theorem Q45 : TEq Try.prog 45 240 vb := teq2 (by kernel_rfl) T45.1 T41 O5 U5 vb_inj rfl
theorem Q46 : TEq Try.prog 46 240 vb := teq2 (by kernel_rfl) T46.1 T41 O5 U5 vb_inj rfl
theorem Q68 : TEq Try.prog 68 256 vb := teq1 (by kernel_rfl) T68.1 O5 U5 vb_inj
theorem Q73 : TEq Try.prog 73 240 vb := teq2 (by kernel_rfl) T73.1 T32 O5 U5 vb_inj rfl
theorem F3 : IsFn Try.prog 3 := ⟨_, Try.func3, by kernel_rfl, rfl⟩
theorem F4 : IsFn Try.prog 4 := ⟨_, Try.func4, by kernel_rfl, rfl⟩
theorem F5 : IsFn Try.prog 5 := ⟨_, Try.func5, by kernel_rfl, rfl⟩
theorem F6 : IsFn Try.prog 6 := ⟨_, Try.func6, by kernel_rfl, rfl⟩
theorem F7 : IsFn Try.prog 7 := ⟨_, Try.func7, by kernel_rfl, rfl⟩
theorem F8 : IsFn Try.prog 8 := ⟨_, Try.func8, by kernel_rfl, rfl⟩
theorem F9 : IsFn Try.prog 9 := ⟨_, Try.func9, by kernel_rfl, rfl⟩
theorem F10 : IsFn Try.prog 10 := ⟨_, Try.func10, by kernel_rfl, rfl⟩
theorem F11 : IsFn Try.prog 11 := ⟨_, Try.func11, by kernel_rfl, rfl⟩
theorem F12 : IsFn Try.prog 12 := ⟨_, Try.func12, by kernel_rfl, rfl⟩
theorem F13 : IsFn Try.prog 13 := ⟨_, Try.func13, by kernel_rfl, rfl⟩
theorem F14 : IsFn Try.prog 14 := ⟨_, Try.func14, by kernel_rfl, rfl⟩
theorem F15 : IsFn Try.prog 15 := ⟨_, Try.func15, by kernel_rfl, rfl⟩
theorem F16 : IsFn Try.prog 16 := ⟨_, Try.func16, by kernel_rfl, rfl⟩
theorem F17 : IsFn Try.prog 17 := ⟨_, Try.func17, by kernel_rfl, rfl⟩
theorem F18 : IsFn Try.prog 18 := ⟨_, Try.func18, by kernel_rfl, rfl⟩
theorem F19 : IsFn Try.prog 19 := ⟨_, Try.func19, by kernel_rfl, rfl⟩
theorem F20 : IsFn Try.prog 20 := ⟨_, Try.func20, by kernel_rfl, rfl⟩
theorem F21 : IsFn Try.prog 21 := ⟨_, Try.func21, by kernel_rfl, rfl⟩
theorem F22 : IsFn Try.prog 22 := ⟨_, Try.func22, by kernel_rfl, rfl⟩
theorem F23 : IsFn Try.prog 23 := ⟨_, Try.func23, by kernel_rfl, rfl⟩
theorem F24 : IsFn Try.prog 24 := ⟨_, Try.func24, by kernel_rfl, rfl⟩
theorem F25 : IsFn Try.prog 25 := ⟨_, Try.func25, by kernel_rfl, rfl⟩
theorem F26 : IsFn Try.prog 26 := ⟨_, Try.func26, by kernel_rfl, rfl⟩
theorem F27 : IsFn Try.prog 27 := ⟨_, Try.func27, by kernel_rfl, rfl⟩
theorem F28 : IsFn Try.prog 28 := ⟨_, Try.func28, by kernel_rfl, rfl⟩
theorem F29 : IsFn Try.prog 29 := ⟨_, Try.func29, by kernel_rfl, rfl⟩
theorem F30 : IsFn Try.prog 30 := ⟨_, Try.func30, by kernel_rfl, rfl⟩
theorem F31 : IsFn Try.prog 31 := ⟨_, Try.func31, by kernel_rfl, rfl⟩
theorem F32 : IsFn Try.prog 32 := ⟨_, Try.func32, by kernel_rfl, rfl⟩
theorem F33 : IsFn Try.prog 33 := ⟨_, Try.func33, by kernel_rfl, rfl⟩
theorem F34 : IsFn Try.prog 34 := ⟨_, Try.func34, by kernel_rfl, rfl⟩
theorem F35 : IsFn Try.prog 35 := ⟨_, Try.func35, by kernel_rfl, rfl⟩
theorem F36 : IsFn Try.prog 36 := ⟨_, Try.func36, by kernel_rfl, rfl⟩
theorem F37 : IsFn Try.prog 37 := ⟨_, Try.func37, by kernel_rfl, rfl⟩
theorem F38 : IsFn Try.prog 38 := ⟨_, Try.func38, by kernel_rfl, rfl⟩
theorem F39 : IsFn Try.prog 39 := ⟨_, Try.func39, by kernel_rfl, rfl⟩
theorem F40 : IsFn Try.prog 40 := ⟨_, Try.func40, by kernel_rfl, rfl⟩
theorem F41 : IsFn Try.prog 41 := ⟨_, Try.func41, by kernel_rfl, rfl⟩
theorem F42 : IsFn Try.prog 42 := ⟨_, Try.func42, by kernel_rfl, rfl⟩
theorem F43 : IsFn Try.prog 43 := ⟨_, Try.func43, by kernel_rfl, rfl⟩
theorem F44 : IsFn Try.prog 44 := ⟨_, Try.func44, by kernel_rfl, rfl⟩
theorem F45 : IsFn Try.prog 45 := ⟨_, Try.func45, by kernel_rfl, rfl⟩
theorem F46 : IsFn Try.prog 46 := ⟨_, Try.func46, by kernel_rfl, rfl⟩
theorem F47 : IsFn Try.prog 47 := ⟨_, Try.func47, by kernel_rfl, rfl⟩
theorem F48 : IsFn Try.prog 48 := ⟨_, Try.func48, by kernel_rfl, rfl⟩
theorem F49 : IsFn Try.prog 49 := ⟨_, Try.func49, by kernel_rfl, rfl⟩
theorem F50 : IsFn Try.prog 50 := ⟨_, Try.func50, by kernel_rfl, rfl⟩
theorem F51 : IsFn Try.prog 51 := ⟨_, Try.func51, by kernel_rfl, rfl⟩
theorem F52 : IsFn Try.prog 52 := ⟨_, Try.func52, by kernel_rfl, rfl⟩
theorem F53 : IsFn Try.prog 53 := ⟨_, Try.func53, by kernel_rfl, rfl⟩
theorem F54 : IsFn Try.prog 54 := ⟨_, Try.func54, by kernel_rfl, rfl⟩
theorem F55 : IsFn Try.prog 55 := ⟨_, Try.func55, by kernel_rfl, rfl⟩
theorem F56 : IsFn Try.prog 56 := ⟨_, Try.func56, by kernel_rfl, rfl⟩
theorem F57 : IsFn Try.prog 57 := ⟨_, Try.func57, by kernel_rfl, rfl⟩
theorem F58 : IsFn Try.prog 58 := ⟨_, Try.func58, by kernel_rfl, rfl⟩
theorem F59 : IsFn Try.prog 59 := ⟨_, Try.func59, by kernel_rfl, rfl⟩
theorem F60 : IsFn Try.prog 60 := ⟨_, Try.func60, by kernel_rfl, rfl⟩
theorem F61 : IsFn Try.prog 61 := ⟨_, Try.func61, by kernel_rfl, rfl⟩
theorem F62 : IsFn Try.prog 62 := ⟨_, Try.func62, by kernel_rfl, rfl⟩
theorem F63 : IsFn Try.prog 63 := ⟨_, Try.func63, by kernel_rfl, rfl⟩
theorem F64 : IsFn Try.prog 64 := ⟨_, Try.func64, by kernel_rfl, rfl⟩
theorem F65 : IsFn Try.prog 65 := ⟨_, Try.func65, by kernel_rfl, rfl⟩
theorem F66 : IsFn Try.prog 66 := ⟨_, Try.func66, by kernel_rfl, rfl⟩
theorem F67 : IsFn Try.prog 67 := ⟨_, Try.func67, by kernel_rfl, rfl⟩
theorem F68 : IsFn Try.prog 68 := ⟨_, Try.func68, by kernel_rfl, rfl⟩
theorem F69 : IsFn Try.prog 69 := ⟨_, Try.func69, by kernel_rfl, rfl⟩
theorem F70 : IsFn Try.prog 70 := ⟨_, Try.func70, by kernel_rfl, rfl⟩
theorem follows_mixed : Try.prog.follows .mixedOrders = true := by kernel_rfl
end Go.Proofs.Ytcdidapkpfnphaa
