/- The facts on types and functions of the program that the walks lean on. -/
import Derived.Test.YtcdidapkpfnphaaDoorProg
import Derived.Test.YtcdidapkpfnphaaDoorLibG
namespace Go.Proofs.YtcdidapkpfnphaaDoor
open Go.RowKit
set_option maxRecDepth 100000
theorem O1 : TOne Tryd.prog 1 := ⟨by kernel_rfl, by kernel_rfl⟩
theorem O2 : TOne Tryd.prog 2 := ⟨by kernel_rfl, by kernel_rfl⟩
theorem U2 : Tryd.prog.underlying 2 = some (.int .i64) := by kernel_rfl
theorem Z2 : TZero Tryd.prog 2 [.int .i64 0] := ⟨.int .i64 0, by kernel_rfl, rfl⟩
theorem Z1_2 : (Tryd.prog.info? 2).map (·.zero) = some (some (.int .i64 0)) := by kernel_rfl
theorem M2 : (Tryd.prog.info? 2).map (fun i => (i.zero, i.bytes)) = some (some (.int .i64 0), 8) := by kernel_rfl
theorem O3 : TOne Tryd.prog 3 := ⟨by kernel_rfl, by kernel_rfl⟩
theorem U3 : Tryd.prog.underlying 3 = some (.int .i64) := by kernel_rfl
theorem Z3 : TZero Tryd.prog 3 [.int .i64 0] := ⟨.int .i64 0, by kernel_rfl, rfl⟩
theorem Z1_3 : (Tryd.prog.info? 3).map (·.zero) = some (some (.int .i64 0)) := by kernel_rfl
theorem M3 : (Tryd.prog.info? 3).map (fun i => (i.zero, i.bytes)) = some (some (.int .i64 0), 8) := by kernel_rfl
theorem O4 : TOne Tryd.prog 4 := ⟨by kernel_rfl, by kernel_rfl⟩
theorem U4 : Tryd.prog.underlying 4 = some .bool := by kernel_rfl
theorem Z4 : TZero Tryd.prog 4 [.bool false] := ⟨.bool false, by kernel_rfl, rfl⟩
theorem Z1_4 : (Tryd.prog.info? 4).map (·.zero) = some (some (.bool false)) := by kernel_rfl
theorem M4 : (Tryd.prog.info? 4).map (fun i => (i.zero, i.bytes)) = some (some (.bool false), 1) := by kernel_rfl
theorem O5 : TOne Tryd.prog 5 := ⟨by kernel_rfl, by kernel_rfl⟩
theorem U5 : Tryd.prog.underlying 5 = some (.int .u8) := by kernel_rfl
theorem Z5 : TZero Tryd.prog 5 [.int .u8 0] := ⟨.int .u8 0, by kernel_rfl, rfl⟩
theorem Z1_5 : (Tryd.prog.info? 5).map (·.zero) = some (some (.int .u8 0)) := by kernel_rfl
theorem M5 : (Tryd.prog.info? 5).map (fun i => (i.zero, i.bytes)) = some (some (.int .u8 0), 1) := by kernel_rfl
theorem O6 : TOne Tryd.prog 6 := ⟨by kernel_rfl, by kernel_rfl⟩
theorem U6 : Tryd.prog.underlying 6 = some (.int .u8) := by kernel_rfl
theorem Z6 : TZero Tryd.prog 6 [.int .u8 0] := ⟨.int .u8 0, by kernel_rfl, rfl⟩
theorem Z1_6 : (Tryd.prog.info? 6).map (·.zero) = some (some (.int .u8 0)) := by kernel_rfl
theorem M6 : (Tryd.prog.info? 6).map (fun i => (i.zero, i.bytes)) = some (some (.int .u8 0), 1) := by kernel_rfl
theorem O9 : TOne Tryd.prog 9 := ⟨by kernel_rfl, by kernel_rfl⟩
theorem U9 : Tryd.prog.underlying 9 = some .string := by kernel_rfl
theorem Z9 : TZero Tryd.prog 9 [.string ByteArray.empty] := ⟨.string ByteArray.empty, by kernel_rfl, rfl⟩
theorem Z1_9 : (Tryd.prog.info? 9).map (·.zero) = some (some (.string ByteArray.empty)) := by kernel_rfl
theorem M9 : (Tryd.prog.info? 9).map (fun i => (i.zero, i.bytes)) = some (some (.string ByteArray.empty), 16) := by kernel_rfl
theorem O10 : TOne Tryd.prog 10 := ⟨by kernel_rfl, by kernel_rfl⟩
theorem U10 : Tryd.prog.underlying 10 = some .string := by kernel_rfl
theorem Z10 : TZero Tryd.prog 10 [.string ByteArray.empty] := ⟨.string ByteArray.empty, by kernel_rfl, rfl⟩
theorem Z1_10 : (Tryd.prog.info? 10).map (·.zero) = some (some (.string ByteArray.empty)) := by kernel_rfl
theorem M10 : (Tryd.prog.info? 10).map (fun i => (i.zero, i.bytes)) = some (some (.string ByteArray.empty), 16) := by kernel_rfl
theorem O11 : TOne Tryd.prog 11 := ⟨by kernel_rfl, by kernel_rfl⟩
theorem U11 : Tryd.prog.underlying 11 = some .string := by kernel_rfl
theorem Z11 : TZero Tryd.prog 11 [.string ByteArray.empty] := ⟨.string ByteArray.empty, by kernel_rfl, rfl⟩
theorem Z1_11 : (Tryd.prog.info? 11).map (·.zero) = some (some (.string ByteArray.empty)) := by kernel_rfl
theorem M11 : (Tryd.prog.info? 11).map (fun i => (i.zero, i.bytes)) = some (some (.string ByteArray.empty), 16) := by kernel_rfl
theorem O12 : TOne Tryd.prog 12 := ⟨by kernel_rfl, by kernel_rfl⟩
theorem U12 : Tryd.prog.underlying 12 = some (.int .u64) := by kernel_rfl
theorem Z12 : TZero Tryd.prog 12 [.int .u64 0] := ⟨.int .u64 0, by kernel_rfl, rfl⟩
theorem Z1_12 : (Tryd.prog.info? 12).map (·.zero) = some (some (.int .u64 0)) := by kernel_rfl
theorem M12 : (Tryd.prog.info? 12).map (fun i => (i.zero, i.bytes)) = some (some (.int .u64 0), 8) := by kernel_rfl
theorem O15 : TOne Tryd.prog 15 := ⟨by kernel_rfl, by kernel_rfl⟩
theorem O16 : TOne Tryd.prog 16 := ⟨by kernel_rfl, by kernel_rfl⟩
theorem O17 : TOne Tryd.prog 17 := ⟨by kernel_rfl, by kernel_rfl⟩
theorem O21 : TOne Tryd.prog 21 := ⟨by kernel_rfl, by kernel_rfl⟩
theorem U21 : Tryd.prog.underlying 21 = some (.int .i32) := by kernel_rfl
theorem Z21 : TZero Tryd.prog 21 [.int .i32 0] := ⟨.int .i32 0, by kernel_rfl, rfl⟩
theorem Z1_21 : (Tryd.prog.info? 21).map (·.zero) = some (some (.int .i32 0)) := by kernel_rfl
theorem M21 : (Tryd.prog.info? 21).map (fun i => (i.zero, i.bytes)) = some (some (.int .i32 0), 4) := by kernel_rfl
theorem O22 : TOne Tryd.prog 22 := ⟨by kernel_rfl, by kernel_rfl⟩
theorem S22 : TSlice Tryd.prog 22 5 := ⟨by kernel_rfl, by kernel_rfl⟩
theorem A22_5 : TApp Tryd.prog 22 5 1 (.int .u8 0) := ⟨by kernel_rfl, by kernel_rfl, rfl⟩
theorem Z22 : TZero Tryd.prog 22 [.slice none 0 0] := ⟨.slice none 0 0, by kernel_rfl, rfl⟩
theorem Z1_22 : (Tryd.prog.info? 22).map (·.zero) = some (some (.slice none 0 0)) := by kernel_rfl
theorem M22 : (Tryd.prog.info? 22).map (fun i => (i.zero, i.bytes)) = some (some (.slice none 0 0), 24) := by kernel_rfl
theorem O23 : TOne Tryd.prog 23 := ⟨by kernel_rfl, by kernel_rfl⟩
theorem O24 : TOne Tryd.prog 24 := ⟨by kernel_rfl, by kernel_rfl⟩
theorem U24 : Tryd.prog.underlying 24 = some (.int .i64) := by kernel_rfl
theorem Z24 : TZero Tryd.prog 24 [.int .i64 0] := ⟨.int .i64 0, by kernel_rfl, rfl⟩
theorem Z1_24 : (Tryd.prog.info? 24).map (·.zero) = some (some (.int .i64 0)) := by kernel_rfl
theorem M24 : (Tryd.prog.info? 24).map (fun i => (i.zero, i.bytes)) = some (some (.int .i64 0), 8) := by kernel_rfl
theorem O26 : TOne Tryd.prog 26 := ⟨by kernel_rfl, by kernel_rfl⟩
theorem O27 : TOne Tryd.prog 27 := ⟨by kernel_rfl, by kernel_rfl⟩
theorem O28 : TOne Tryd.prog 28 := ⟨by kernel_rfl, by kernel_rfl⟩
theorem U28 : Tryd.prog.underlying 28 = some (.int .u32) := by kernel_rfl
theorem Z28 : TZero Tryd.prog 28 [.int .u32 0] := ⟨.int .u32 0, by kernel_rfl, rfl⟩
theorem Z1_28 : (Tryd.prog.info? 28).map (·.zero) = some (some (.int .u32 0)) := by kernel_rfl
theorem M28 : (Tryd.prog.info? 28).map (fun i => (i.zero, i.bytes)) = some (some (.int .u32 0), 4) := by kernel_rfl
theorem T29 : TArr Tryd.prog 29 8 28 8 := ⟨by kernel_rfl, by kernel_rfl⟩
theorem Z29 : TZero Tryd.prog 29 (ns vw 8 (fun _ => (0 : UInt32))) := ⟨.agg (ns vw 8 (fun _ => (0 : UInt32))).toArray, by kernel_rfl, by simp [Value.cells]⟩
theorem O30 : TOne Tryd.prog 30 := ⟨by kernel_rfl, by kernel_rfl⟩
theorem T31 : TArr Tryd.prog 31 64 28 64 := ⟨by kernel_rfl, by kernel_rfl⟩
theorem Z31 : TZero Tryd.prog 31 (ns vw 64 (fun _ => (0 : UInt32))) := ⟨.agg (ns vw 64 (fun _ => (0 : UInt32))).toArray, by kernel_rfl, by simp [Value.cells]⟩
theorem O32 : TOne Tryd.prog 32 := ⟨by kernel_rfl, by kernel_rfl⟩
theorem O33 : TOne Tryd.prog 33 := ⟨by kernel_rfl, by kernel_rfl⟩
theorem O34 : TOne Tryd.prog 34 := ⟨by kernel_rfl, by kernel_rfl⟩
theorem O35 : TOne Tryd.prog 35 := ⟨by kernel_rfl, by kernel_rfl⟩
theorem O36 : TOne Tryd.prog 36 := ⟨by kernel_rfl, by kernel_rfl⟩
theorem O37 : TOne Tryd.prog 37 := ⟨by kernel_rfl, by kernel_rfl⟩
theorem O38 : TOne Tryd.prog 38 := ⟨by kernel_rfl, by kernel_rfl⟩
theorem O39 : TOne Tryd.prog 39 := ⟨by kernel_rfl, by kernel_rfl⟩
theorem O40 : TOne Tryd.prog 40 := ⟨by kernel_rfl, by kernel_rfl⟩
theorem O41 : TOne Tryd.prog 41 := ⟨by kernel_rfl, by kernel_rfl⟩
theorem O42 : TOne Tryd.prog 42 := ⟨by kernel_rfl, by kernel_rfl⟩
theorem O43 : TOne Tryd.prog 43 := ⟨by kernel_rfl, by kernel_rfl⟩
theorem O44 : TOne Tryd.prog 44 := ⟨by kernel_rfl, by kernel_rfl⟩
theorem O45 : TOne Tryd.prog 45 := ⟨by kernel_rfl, by kernel_rfl⟩
theorem U45 : Tryd.prog.underlying 45 = some (.int .u64) := by kernel_rfl
theorem Z45 : TZero Tryd.prog 45 [.int .u64 0] := ⟨.int .u64 0, by kernel_rfl, rfl⟩
theorem Z1_45 : (Tryd.prog.info? 45).map (·.zero) = some (some (.int .u64 0)) := by kernel_rfl
theorem M45 : (Tryd.prog.info? 45).map (fun i => (i.zero, i.bytes)) = some (some (.int .u64 0), 8) := by kernel_rfl
theorem O46 : TOne Tryd.prog 46 := ⟨by kernel_rfl, by kernel_rfl⟩
theorem O47 : TOne Tryd.prog 47 := ⟨by kernel_rfl, by kernel_rfl⟩
theorem O48 : TOne Tryd.prog 48 := ⟨by kernel_rfl, by kernel_rfl⟩
theorem O49 : TOne Tryd.prog 49 := ⟨by kernel_rfl, by kernel_rfl⟩
theorem O50 : TOne Tryd.prog 50 := ⟨by kernel_rfl, by kernel_rfl⟩
theorem O51 : TOne Tryd.prog 51 := ⟨by kernel_rfl, by kernel_rfl⟩
theorem O52 : TOne Tryd.prog 52 := ⟨by kernel_rfl, by kernel_rfl⟩
theorem O53 : TOne Tryd.prog 53 := ⟨by kernel_rfl, by kernel_rfl⟩
theorem O54 : TOne Tryd.prog 54 := ⟨by kernel_rfl, by kernel_rfl⟩
theorem O55 : TOne Tryd.prog 55 := ⟨by kernel_rfl, by kernel_rfl⟩
theorem O56 : TOne Tryd.prog 56 := ⟨by kernel_rfl, by kernel_rfl⟩
theorem O58 : TOne Tryd.prog 58 := ⟨by kernel_rfl, by kernel_rfl⟩
theorem O59 : TOne Tryd.prog 59 := ⟨by kernel_rfl, by kernel_rfl⟩
theorem O60 : TOne Tryd.prog 60 := ⟨by kernel_rfl, by kernel_rfl⟩
theorem U60 : Tryd.prog.underlying 60 = some (.int .u64) := by kernel_rfl
theorem Z60 : TZero Tryd.prog 60 [.int .u64 0] := ⟨.int .u64 0, by kernel_rfl, rfl⟩
theorem Z1_60 : (Tryd.prog.info? 60).map (·.zero) = some (some (.int .u64 0)) := by kernel_rfl
theorem M60 : (Tryd.prog.info? 60).map (fun i => (i.zero, i.bytes)) = some (some (.int .u64 0), 8) := by kernel_rfl
theorem O61 : TOne Tryd.prog 61 := ⟨by kernel_rfl, by kernel_rfl⟩
theorem O63 : TOne Tryd.prog 63 := ⟨by kernel_rfl, by kernel_rfl⟩
theorem O64 : TOne Tryd.prog 64 := ⟨by kernel_rfl, by kernel_rfl⟩
theorem S64 : TSlice Tryd.prog 64 28 := ⟨by kernel_rfl, by kernel_rfl⟩
theorem A64_28 : TApp Tryd.prog 64 28 4 (.int .u32 0) := ⟨by kernel_rfl, by kernel_rfl, rfl⟩
theorem Z64 : TZero Tryd.prog 64 [.slice none 0 0] := ⟨.slice none 0 0, by kernel_rfl, rfl⟩
theorem Z1_64 : (Tryd.prog.info? 64).map (·.zero) = some (some (.slice none 0 0)) := by kernel_rfl
theorem M64 : (Tryd.prog.info? 64).map (fun i => (i.zero, i.bytes)) = some (some (.slice none 0 0), 24) := by kernel_rfl
theorem O65 : TOne Tryd.prog 65 := ⟨by kernel_rfl, by kernel_rfl⟩
theorem O66 : TOne Tryd.prog 66 := ⟨by kernel_rfl, by kernel_rfl⟩
theorem O67 : TOne Tryd.prog 67 := ⟨by kernel_rfl, by kernel_rfl⟩
theorem O68 : TOne Tryd.prog 68 := ⟨by kernel_rfl, by kernel_rfl⟩
theorem O69 : TOne Tryd.prog 69 := ⟨by kernel_rfl, by kernel_rfl⟩
theorem O70 : TOne Tryd.prog 70 := ⟨by kernel_rfl, by kernel_rfl⟩
theorem O71 : TOne Tryd.prog 71 := ⟨by kernel_rfl, by kernel_rfl⟩
theorem O72 : TOne Tryd.prog 72 := ⟨by kernel_rfl, by kernel_rfl⟩
theorem O73 : TOne Tryd.prog 73 := ⟨by kernel_rfl, by kernel_rfl⟩
theorem O74 : TOne Tryd.prog 74 := ⟨by kernel_rfl, by kernel_rfl⟩
theorem O75 : TOne Tryd.prog 75 := ⟨by kernel_rfl, by kernel_rfl⟩
theorem S75 : TSlice Tryd.prog 75 22 := ⟨by kernel_rfl, by kernel_rfl⟩
theorem A75_22 : TApp Tryd.prog 75 22 24 (.slice none 0 0) := ⟨by kernel_rfl, by kernel_rfl, rfl⟩
theorem Z75 : TZero Tryd.prog 75 [.slice none 0 0] := ⟨.slice none 0 0, by kernel_rfl, rfl⟩
theorem Z1_75 : (Tryd.prog.info? 75).map (·.zero) = some (some (.slice none 0 0)) := by kernel_rfl
theorem M75 : (Tryd.prog.info? 75).map (fun i => (i.zero, i.bytes)) = some (some (.slice none 0 0), 24) := by kernel_rfl
theorem T76 : TArr Tryd.prog 76 5 45 5 := ⟨by kernel_rfl, by kernel_rfl⟩
theorem Z76 : TZero Tryd.prog 76 (ns vq 5 (fun _ => (0 : UInt64))) := ⟨.agg (ns vq 5 (fun _ => (0 : UInt64))).toArray, by kernel_rfl, by simp [Value.cells]⟩
theorem T77 : TArr Tryd.prog 77 5 45 5 := ⟨by kernel_rfl, by kernel_rfl⟩
theorem Z77 : TZero Tryd.prog 77 (ns vq 5 (fun _ => (0 : UInt64))) := ⟨.agg (ns vq 5 (fun _ => (0 : UInt64))).toArray, by kernel_rfl, by simp [Value.cells]⟩
theorem O78 : TOne Tryd.prog 78 := ⟨by kernel_rfl, by kernel_rfl⟩
theorem O79 : TOne Tryd.prog 79 := ⟨by kernel_rfl, by kernel_rfl⟩
theorem O80 : TOne Tryd.prog 80 := ⟨by kernel_rfl, by kernel_rfl⟩
theorem T81 : TArr Tryd.prog 81 16 5 16 := ⟨by kernel_rfl, by kernel_rfl⟩
theorem Z81 : TZero Tryd.prog 81 (ns vb 16 (fun _ => (0 : UInt8))) := ⟨.agg (ns vb 16 (fun _ => (0 : UInt8))).toArray, by kernel_rfl, by simp [Value.cells]⟩
theorem T82 : TArr Tryd.prog 82 15 81 240 := ⟨by kernel_rfl, by kernel_rfl⟩
theorem Z82 : TZero Tryd.prog 82 (ns vb 240 (fun _ => (0 : UInt8))) := ⟨.agg (ns vb 240 (fun _ => (0 : UInt8))).toArray, by kernel_rfl, by simp [Value.cells]⟩
theorem T83 : TArr Tryd.prog 83 15 81 240 := ⟨by kernel_rfl, by kernel_rfl⟩
theorem Z83 : TZero Tryd.prog 83 (ns vb 240 (fun _ => (0 : UInt8))) := ⟨.agg (ns vb 240 (fun _ => (0 : UInt8))).toArray, by kernel_rfl, by simp [Value.cells]⟩
theorem O85 : TOne Tryd.prog 85 := ⟨by kernel_rfl, by kernel_rfl⟩
theorem O86 : TOne Tryd.prog 86 := ⟨by kernel_rfl, by kernel_rfl⟩
theorem O87 : TOne Tryd.prog 87 := ⟨by kernel_rfl, by kernel_rfl⟩
theorem O88 : TOne Tryd.prog 88 := ⟨by kernel_rfl, by kernel_rfl⟩
theorem O90 : TOne Tryd.prog 90 := ⟨by kernel_rfl, by kernel_rfl⟩
theorem O91 : TOne Tryd.prog 91 := ⟨by kernel_rfl, by kernel_rfl⟩
theorem O92 : TOne Tryd.prog 92 := ⟨by kernel_rfl, by kernel_rfl⟩
theorem O94 : TOne Tryd.prog 94 := ⟨by kernel_rfl, by kernel_rfl⟩
theorem O96 : TOne Tryd.prog 96 := ⟨by kernel_rfl, by kernel_rfl⟩
theorem O97 : TOne Tryd.prog 97 := ⟨by kernel_rfl, by kernel_rfl⟩
theorem O98 : TOne Tryd.prog 98 := ⟨by kernel_rfl, by kernel_rfl⟩
theorem Z98 : TZero Tryd.prog 98 [.slice none 0 0] := ⟨.slice none 0 0, by kernel_rfl, rfl⟩
theorem Z1_98 : (Tryd.prog.info? 98).map (·.zero) = some (some (.slice none 0 0)) := by kernel_rfl
theorem M98 : (Tryd.prog.info? 98).map (fun i => (i.zero, i.bytes)) = some (some (.slice none 0 0), 24) := by kernel_rfl
theorem T99 : TArr Tryd.prog 99 4 5 4 := ⟨by kernel_rfl, by kernel_rfl⟩
theorem Z99 : TZero Tryd.prog 99 (ns vb 4 (fun _ => (0 : UInt8))) := ⟨.agg (ns vb 4 (fun _ => (0 : UInt8))).toArray, by kernel_rfl, by simp [Value.cells]⟩
theorem T100 : TArr Tryd.prog 100 60 99 240 := ⟨by kernel_rfl, by kernel_rfl⟩
theorem Z100 : TZero Tryd.prog 100 (ns vb 240 (fun _ => (0 : UInt8))) := ⟨.agg (ns vb 240 (fun _ => (0 : UInt8))).toArray, by kernel_rfl, by simp [Value.cells]⟩
theorem O101 : TOne Tryd.prog 101 := ⟨by kernel_rfl, by kernel_rfl⟩
theorem O103 : TOne Tryd.prog 103 := ⟨by kernel_rfl, by kernel_rfl⟩
theorem O105 : TOne Tryd.prog 105 := ⟨by kernel_rfl, by kernel_rfl⟩
theorem O106 : TOne Tryd.prog 106 := ⟨by kernel_rfl, by kernel_rfl⟩
theorem O107 : TOne Tryd.prog 107 := ⟨by kernel_rfl, by kernel_rfl⟩
theorem O108 : TOne Tryd.prog 108 := ⟨by kernel_rfl, by kernel_rfl⟩
theorem O109 : TOne Tryd.prog 109 := ⟨by kernel_rfl, by kernel_rfl⟩
theorem T110 : TArr Tryd.prog 110 256 5 256 := ⟨by kernel_rfl, by kernel_rfl⟩
theorem Z110 : TZero Tryd.prog 110 (ns vb 256 (fun _ => (0 : UInt8))) := ⟨.agg (ns vb 256 (fun _ => (0 : UInt8))).toArray, by kernel_rfl, by simp [Value.cells]⟩
theorem O111 : TOne Tryd.prog 111 := ⟨by kernel_rfl, by kernel_rfl⟩
theorem O112 : TOne Tryd.prog 112 := ⟨by kernel_rfl, by kernel_rfl⟩
theorem O113 : TOne Tryd.prog 113 := ⟨by kernel_rfl, by kernel_rfl⟩
theorem O119 : TOne Tryd.prog 119 := ⟨by kernel_rfl, by kernel_rfl⟩
theorem O120 : TOne Tryd.prog 120 := ⟨by kernel_rfl, by kernel_rfl⟩
theorem U120 : Tryd.prog.underlying 120 = some (.int .u8) := by kernel_rfl
theorem Z120 : TZero Tryd.prog 120 [.int .u8 0] := ⟨.int .u8 0, by kernel_rfl, rfl⟩
theorem Z1_120 : (Tryd.prog.info? 120).map (·.zero) = some (some (.int .u8 0)) := by kernel_rfl
theorem M120 : (Tryd.prog.info? 120).map (fun i => (i.zero, i.bytes)) = some (some (.int .u8 0), 1) := by kernel_rfl
theorem O121 : TOne Tryd.prog 121 := ⟨by kernel_rfl, by kernel_rfl⟩
theorem U121 : Tryd.prog.underlying 121 = some (.int .u8) := by kernel_rfl
theorem Z121 : TZero Tryd.prog 121 [.int .u8 0] := ⟨.int .u8 0, by kernel_rfl, rfl⟩
theorem Z1_121 : (Tryd.prog.info? 121).map (·.zero) = some (some (.int .u8 0)) := by kernel_rfl
theorem M121 : (Tryd.prog.info? 121).map (fun i => (i.zero, i.bytes)) = some (some (.int .u8 0), 1) := by kernel_rfl
theorem O122 : TOne Tryd.prog 122 := ⟨by kernel_rfl, by kernel_rfl⟩
theorem O123 : TOne Tryd.prog 123 := ⟨by kernel_rfl, by kernel_rfl⟩
theorem O124 : TOne Tryd.prog 124 := ⟨by kernel_rfl, by kernel_rfl⟩
theorem U124 : Tryd.prog.underlying 124 = some (.int .i32) := by kernel_rfl
theorem Z124 : TZero Tryd.prog 124 [.int .i32 0] := ⟨.int .i32 0, by kernel_rfl, rfl⟩
theorem Z1_124 : (Tryd.prog.info? 124).map (·.zero) = some (some (.int .i32 0)) := by kernel_rfl
theorem M124 : (Tryd.prog.info? 124).map (fun i => (i.zero, i.bytes)) = some (some (.int .i32 0), 4) := by kernel_rfl
theorem O125 : TOne Tryd.prog 125 := ⟨by kernel_rfl, by kernel_rfl⟩
theorem U125 : Tryd.prog.underlying 125 = some (.int .i32) := by kernel_rfl
theorem Z125 : TZero Tryd.prog 125 [.int .i32 0] := ⟨.int .i32 0, by kernel_rfl, rfl⟩
theorem Z1_125 : (Tryd.prog.info? 125).map (·.zero) = some (some (.int .i32 0)) := by kernel_rfl
theorem M125 : (Tryd.prog.info? 125).map (fun i => (i.zero, i.bytes)) = some (some (.int .i32 0), 4) := by kernel_rfl
theorem Q29 : TEq Tryd.prog 29 8 vw := teq1 (by kernel_rfl) T29.1 O28 U28 vw_inj
theorem Q31 : TEq Tryd.prog 31 64 vw := teq1 (by kernel_rfl) T31.1 O28 U28 vw_inj
theorem Q81 : TEq Tryd.prog 81 16 vb := teq1 (by kernel_rfl) T81.1 O5 U5 vb_inj
theorem Q82 : TEq Tryd.prog 82 240 vb := teq2 (by kernel_rfl) T82.1 T81 O5 U5 vb_inj rfl
theorem Q83 : TEq Tryd.prog 83 240 vb := teq2 (by kernel_rfl) T83.1 T81 O5 U5 vb_inj rfl
theorem Q99 : TEq Tryd.prog 99 4 vb := teq1 (by kernel_rfl) T99.1 O5 U5 vb_inj
theorem Q100 : TEq Tryd.prog 100 240 vb := teq2 (by kernel_rfl) T100.1 T99 O5 U5 vb_inj rfl
theorem Q110 : TEq Tryd.prog 110 256 vb := teq1 (by kernel_rfl) T110.1 O5 U5 vb_inj
theorem F3 : IsFn Tryd.prog 3 := ⟨_, Tryd.func3, by kernel_rfl, rfl⟩
theorem F4 : IsFn Tryd.prog 4 := ⟨_, Tryd.func4, by kernel_rfl, rfl⟩
theorem F5 : IsFn Tryd.prog 5 := ⟨_, Tryd.func5, by kernel_rfl, rfl⟩
theorem F6 : IsFn Tryd.prog 6 := ⟨_, Tryd.func6, by kernel_rfl, rfl⟩
theorem F7 : IsFn Tryd.prog 7 := ⟨_, Tryd.func7, by kernel_rfl, rfl⟩
theorem F8 : IsFn Tryd.prog 8 := ⟨_, Tryd.func8, by kernel_rfl, rfl⟩
theorem F9 : IsFn Tryd.prog 9 := ⟨_, Tryd.func9, by kernel_rfl, rfl⟩
theorem F10 : IsFn Tryd.prog 10 := ⟨_, Tryd.func10, by kernel_rfl, rfl⟩
theorem F11 : IsFn Tryd.prog 11 := ⟨_, Tryd.func11, by kernel_rfl, rfl⟩
theorem F12 : IsFn Tryd.prog 12 := ⟨_, Tryd.func12, by kernel_rfl, rfl⟩
theorem F13 : IsFn Tryd.prog 13 := ⟨_, Tryd.func13, by kernel_rfl, rfl⟩
theorem F14 : IsFn Tryd.prog 14 := ⟨_, Tryd.func14, by kernel_rfl, rfl⟩
theorem F15 : IsFn Tryd.prog 15 := ⟨_, Tryd.func15, by kernel_rfl, rfl⟩
theorem F16 : IsFn Tryd.prog 16 := ⟨_, Tryd.func16, by kernel_rfl, rfl⟩
theorem F17 : IsFn Tryd.prog 17 := ⟨_, Tryd.func17, by kernel_rfl, rfl⟩
theorem F18 : IsFn Tryd.prog 18 := ⟨_, Tryd.func18, by kernel_rfl, rfl⟩
theorem F19 : IsFn Tryd.prog 19 := ⟨_, Tryd.func19, by kernel_rfl, rfl⟩
theorem F20 : IsFn Tryd.prog 20 := ⟨_, Tryd.func20, by kernel_rfl, rfl⟩
theorem F21 : IsFn Tryd.prog 21 := ⟨_, Tryd.func21, by kernel_rfl, rfl⟩
theorem F22 : IsFn Tryd.prog 22 := ⟨_, Tryd.func22, by kernel_rfl, rfl⟩
theorem F23 : IsFn Tryd.prog 23 := ⟨_, Tryd.func23, by kernel_rfl, rfl⟩
theorem F24 : IsFn Tryd.prog 24 := ⟨_, Tryd.func24, by kernel_rfl, rfl⟩
theorem F25 : IsFn Tryd.prog 25 := ⟨_, Tryd.func25, by kernel_rfl, rfl⟩
theorem F26 : IsFn Tryd.prog 26 := ⟨_, Tryd.func26, by kernel_rfl, rfl⟩
theorem F27 : IsFn Tryd.prog 27 := ⟨_, Tryd.func27, by kernel_rfl, rfl⟩
theorem F28 : IsFn Tryd.prog 28 := ⟨_, Tryd.func28, by kernel_rfl, rfl⟩
theorem F29 : IsFn Tryd.prog 29 := ⟨_, Tryd.func29, by kernel_rfl, rfl⟩
theorem F30 : IsFn Tryd.prog 30 := ⟨_, Tryd.func30, by kernel_rfl, rfl⟩
theorem F31 : IsFn Tryd.prog 31 := ⟨_, Tryd.func31, by kernel_rfl, rfl⟩
theorem F32 : IsFn Tryd.prog 32 := ⟨_, Tryd.func32, by kernel_rfl, rfl⟩
theorem F33 : IsFn Tryd.prog 33 := ⟨_, Tryd.func33, by kernel_rfl, rfl⟩
theorem F34 : IsFn Tryd.prog 34 := ⟨_, Tryd.func34, by kernel_rfl, rfl⟩
theorem F35 : IsFn Tryd.prog 35 := ⟨_, Tryd.func35, by kernel_rfl, rfl⟩
theorem F36 : IsFn Tryd.prog 36 := ⟨_, Tryd.func36, by kernel_rfl, rfl⟩
theorem F37 : IsFn Tryd.prog 37 := ⟨_, Tryd.func37, by kernel_rfl, rfl⟩
theorem F38 : IsFn Tryd.prog 38 := ⟨_, Tryd.func38, by kernel_rfl, rfl⟩
theorem F39 : IsFn Tryd.prog 39 := ⟨_, Tryd.func39, by kernel_rfl, rfl⟩
theorem F40 : IsFn Tryd.prog 40 := ⟨_, Tryd.func40, by kernel_rfl, rfl⟩
theorem F41 : IsFn Tryd.prog 41 := ⟨_, Tryd.func41, by kernel_rfl, rfl⟩
theorem F42 : IsFn Tryd.prog 42 := ⟨_, Tryd.func42, by kernel_rfl, rfl⟩
theorem F43 : IsFn Tryd.prog 43 := ⟨_, Tryd.func43, by kernel_rfl, rfl⟩
theorem F44 : IsFn Tryd.prog 44 := ⟨_, Tryd.func44, by kernel_rfl, rfl⟩
theorem F45 : IsFn Tryd.prog 45 := ⟨_, Tryd.func45, by kernel_rfl, rfl⟩
theorem F46 : IsFn Tryd.prog 46 := ⟨_, Tryd.func46, by kernel_rfl, rfl⟩
theorem F47 : IsFn Tryd.prog 47 := ⟨_, Tryd.func47, by kernel_rfl, rfl⟩
theorem F48 : IsFn Tryd.prog 48 := ⟨_, Tryd.func48, by kernel_rfl, rfl⟩
theorem F49 : IsFn Tryd.prog 49 := ⟨_, Tryd.func49, by kernel_rfl, rfl⟩
theorem F50 : IsFn Tryd.prog 50 := ⟨_, Tryd.func50, by kernel_rfl, rfl⟩
theorem F51 : IsFn Tryd.prog 51 := ⟨_, Tryd.func51, by kernel_rfl, rfl⟩
theorem F52 : IsFn Tryd.prog 52 := ⟨_, Tryd.func52, by kernel_rfl, rfl⟩
theorem F53 : IsFn Tryd.prog 53 := ⟨_, Tryd.func53, by kernel_rfl, rfl⟩
theorem F54 : IsFn Tryd.prog 54 := ⟨_, Tryd.func54, by kernel_rfl, rfl⟩
theorem F55 : IsFn Tryd.prog 55 := ⟨_, Tryd.func55, by kernel_rfl, rfl⟩
theorem F56 : IsFn Tryd.prog 56 := ⟨_, Tryd.func56, by kernel_rfl, rfl⟩
theorem F57 : IsFn Tryd.prog 57 := ⟨_, Tryd.func57, by kernel_rfl, rfl⟩
theorem F58 : IsFn Tryd.prog 58 := ⟨_, Tryd.func58, by kernel_rfl, rfl⟩
theorem F59 : IsFn Tryd.prog 59 := ⟨_, Tryd.func59, by kernel_rfl, rfl⟩
theorem F60 : IsFn Tryd.prog 60 := ⟨_, Tryd.func60, by kernel_rfl, rfl⟩
theorem F61 : IsFn Tryd.prog 61 := ⟨_, Tryd.func61, by kernel_rfl, rfl⟩
theorem F62 : IsFn Tryd.prog 62 := ⟨_, Tryd.func62, by kernel_rfl, rfl⟩
theorem F63 : IsFn Tryd.prog 63 := ⟨_, Tryd.func63, by kernel_rfl, rfl⟩
theorem F64 : IsFn Tryd.prog 64 := ⟨_, Tryd.func64, by kernel_rfl, rfl⟩
theorem F65 : IsFn Tryd.prog 65 := ⟨_, Tryd.func65, by kernel_rfl, rfl⟩
theorem F66 : IsFn Tryd.prog 66 := ⟨_, Tryd.func66, by kernel_rfl, rfl⟩
theorem F67 : IsFn Tryd.prog 67 := ⟨_, Tryd.func67, by kernel_rfl, rfl⟩
theorem F68 : IsFn Tryd.prog 68 := ⟨_, Tryd.func68, by kernel_rfl, rfl⟩
theorem F69 : IsFn Tryd.prog 69 := ⟨_, Tryd.func69, by kernel_rfl, rfl⟩
theorem F70 : IsFn Tryd.prog 70 := ⟨_, Tryd.func70, by kernel_rfl, rfl⟩
theorem F71 : IsFn Tryd.prog 71 := ⟨_, Tryd.func71, by kernel_rfl, rfl⟩
theorem F72 : IsFn Tryd.prog 72 := ⟨_, Tryd.func72, by kernel_rfl, rfl⟩
theorem F73 : IsFn Tryd.prog 73 := ⟨_, Tryd.func73, by kernel_rfl, rfl⟩
theorem F74 : IsFn Tryd.prog 74 := ⟨_, Tryd.func74, by kernel_rfl, rfl⟩
theorem F75 : IsFn Tryd.prog 75 := ⟨_, Tryd.func75, by kernel_rfl, rfl⟩
theorem F76 : IsFn Tryd.prog 76 := ⟨_, Tryd.func76, by kernel_rfl, rfl⟩
theorem F77 : IsFn Tryd.prog 77 := ⟨_, Tryd.func77, by kernel_rfl, rfl⟩
theorem F78 : IsFn Tryd.prog 78 := ⟨_, Tryd.func78, by kernel_rfl, rfl⟩
theorem F79 : IsFn Tryd.prog 79 := ⟨_, Tryd.func79, by kernel_rfl, rfl⟩
theorem F80 : IsFn Tryd.prog 80 := ⟨_, Tryd.func80, by kernel_rfl, rfl⟩
theorem F81 : IsFn Tryd.prog 81 := ⟨_, Tryd.func81, by kernel_rfl, rfl⟩
theorem F82 : IsFn Tryd.prog 82 := ⟨_, Tryd.func82, by kernel_rfl, rfl⟩
theorem F83 : IsFn Tryd.prog 83 := ⟨_, Tryd.func83, by kernel_rfl, rfl⟩
theorem F84 : IsFn Tryd.prog 84 := ⟨_, Tryd.func84, by kernel_rfl, rfl⟩
theorem F85 : IsFn Tryd.prog 85 := ⟨_, Tryd.func85, by kernel_rfl, rfl⟩
theorem F86 : IsFn Tryd.prog 86 := ⟨_, Tryd.func86, by kernel_rfl, rfl⟩
theorem F87 : IsFn Tryd.prog 87 := ⟨_, Tryd.func87, by kernel_rfl, rfl⟩
theorem F88 : IsFn Tryd.prog 88 := ⟨_, Tryd.func88, by kernel_rfl, rfl⟩
theorem F89 : IsFn Tryd.prog 89 := ⟨_, Tryd.func89, by kernel_rfl, rfl⟩
theorem F90 : IsFn Tryd.prog 90 := ⟨_, Tryd.func90, by kernel_rfl, rfl⟩
theorem F91 : IsFn Tryd.prog 91 := ⟨_, Tryd.func91, by kernel_rfl, rfl⟩
theorem F92 : IsFn Tryd.prog 92 := ⟨_, Tryd.func92, by kernel_rfl, rfl⟩
theorem F93 : IsFn Tryd.prog 93 := ⟨_, Tryd.func93, by kernel_rfl, rfl⟩
theorem F94 : IsFn Tryd.prog 94 := ⟨_, Tryd.func94, by kernel_rfl, rfl⟩
theorem F95 : IsFn Tryd.prog 95 := ⟨_, Tryd.func95, by kernel_rfl, rfl⟩
theorem F96 : IsFn Tryd.prog 96 := ⟨_, Tryd.func96, by kernel_rfl, rfl⟩
theorem F97 : IsFn Tryd.prog 97 := ⟨_, Tryd.func97, by kernel_rfl, rfl⟩
theorem F98 : IsFn Tryd.prog 98 := ⟨_, Tryd.func98, by kernel_rfl, rfl⟩
theorem F99 : IsFn Tryd.prog 99 := ⟨_, Tryd.func99, by kernel_rfl, rfl⟩
theorem F101 : IsFn Tryd.prog 101 := ⟨_, Tryd.func101, by kernel_rfl, rfl⟩
theorem F102 : IsFn Tryd.prog 102 := ⟨_, Tryd.func102, by kernel_rfl, rfl⟩
theorem F103 : IsFn Tryd.prog 103 := ⟨_, Tryd.func103, by kernel_rfl, rfl⟩
theorem F104 : IsFn Tryd.prog 104 := ⟨_, Tryd.func104, by kernel_rfl, rfl⟩
theorem F105 : IsFn Tryd.prog 105 := ⟨_, Tryd.func105, by kernel_rfl, rfl⟩
theorem F106 : IsFn Tryd.prog 106 := ⟨_, Tryd.func106, by kernel_rfl, rfl⟩
theorem F107 : IsFn Tryd.prog 107 := ⟨_, Tryd.func107, by kernel_rfl, rfl⟩
theorem F108 : IsFn Tryd.prog 108 := ⟨_, Tryd.func108, by kernel_rfl, rfl⟩
theorem F109 : IsFn Tryd.prog 109 := ⟨_, Tryd.func109, by kernel_rfl, rfl⟩
theorem F110 : IsFn Tryd.prog 110 := ⟨_, Tryd.func110, by kernel_rfl, rfl⟩
theorem F111 : IsFn Tryd.prog 111 := ⟨_, Tryd.func111, by kernel_rfl, rfl⟩
theorem F112 : IsFn Tryd.prog 112 := ⟨_, Tryd.func112, by kernel_rfl, rfl⟩
theorem F113 : IsFn Tryd.prog 113 := ⟨_, Tryd.func113, by kernel_rfl, rfl⟩
theorem F114 : IsFn Tryd.prog 114 := ⟨_, Tryd.func114, by kernel_rfl, rfl⟩
theorem F115 : IsFn Tryd.prog 115 := ⟨_, Tryd.func115, by kernel_rfl, rfl⟩
theorem F116 : IsFn Tryd.prog 116 := ⟨_, Tryd.func116, by kernel_rfl, rfl⟩
theorem F117 : IsFn Tryd.prog 117 := ⟨_, Tryd.func117, by kernel_rfl, rfl⟩
theorem F118 : IsFn Tryd.prog 118 := ⟨_, Tryd.func118, by kernel_rfl, rfl⟩
theorem F119 : IsFn Tryd.prog 119 := ⟨_, Tryd.func119, by kernel_rfl, rfl⟩
theorem F120 : IsFn Tryd.prog 120 := ⟨_, Tryd.func120, by kernel_rfl, rfl⟩
theorem F121 : IsFn Tryd.prog 121 := ⟨_, Tryd.func121, by kernel_rfl, rfl⟩
theorem F122 : IsFn Tryd.prog 122 := ⟨_, Tryd.func122, by kernel_rfl, rfl⟩
theorem F123 : IsFn Tryd.prog 123 := ⟨_, Tryd.func123, by kernel_rfl, rfl⟩
theorem F124 : IsFn Tryd.prog 124 := ⟨_, Tryd.func124, by kernel_rfl, rfl⟩
theorem F125 : IsFn Tryd.prog 125 := ⟨_, Tryd.func125, by kernel_rfl, rfl⟩
theorem F126 : IsFn Tryd.prog 126 := ⟨_, Tryd.func126, by kernel_rfl, rfl⟩
theorem F127 : IsFn Tryd.prog 127 := ⟨_, Tryd.func127, by kernel_rfl, rfl⟩
theorem follows_mixed : Tryd.prog.follows .mixedOrders = true := by kernel_rfl
end Go.Proofs.YtcdidapkpfnphaaDoor
