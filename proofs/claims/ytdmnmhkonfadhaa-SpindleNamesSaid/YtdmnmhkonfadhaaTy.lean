/-
  The types and functions of this program, as the frame's laws ask them.
-/
import Derived.Test.YtdmnmhkonfadhaaProg
import Derived.Test.YtdmnmhkonfadhaaFw
import Derived.KernelRfl
namespace Go.Sp
open Go Go.Proofs
theorem tyOne {P : Program} {t : TypeId} {d : TypeDesc} {z : Value} {b : Nat} (hu : P.underlying t = some d) (hp : plainD d = true)
    (hi : (P.info? t).map (fun i => (i.zero, i.size, i.bytes)) = some (some z, 1, b)) (hz : z.cells = #[z]) : TyOne P t z := by
  obtain ⟨i, h1, h2⟩ := Option.map_eq_some_iff.1 hi
  simp only [Prod.mk.injEq] at h2
  exact ⟨⟨d, hu, hp⟩, ⟨i, h1, h2.2.1, h2.1⟩, hz⟩
theorem tyAgg {P : Program} {t : TypeId} {d : TypeDesc} {zs : Array Value} {n b : Nat} (hu : P.underlying t = some d) (hp : aggD d = true)
    (hi : (P.info? t).map (fun i => (i.zero, i.size, i.bytes)) = some (some (.agg zs), n, b)) : TyAgg P t n zs := by
  obtain ⟨i, h1, h2⟩ := Option.map_eq_some_iff.1 hi
  simp only [Prod.mk.injEq] at h2
  exact ⟨⟨d, hu, hp⟩, ⟨i, h1, h2.2.1, h2.1⟩⟩

theorem tinfo3 : (Try.prog.info? 3).map (fun i => (i.zero, i.size, i.bytes)) = some (some (.int .i64 0), 1, 8) := by kernel_rfl
instance : TyOne Try.prog 3 (.int .i64 0) := tyOne Try.underlying3 rfl tinfo3 rfl
theorem tinfo4 : (Try.prog.info? 4).map (fun i => (i.zero, i.size, i.bytes)) = some (some (.bool false), 1, 1) := by kernel_rfl
instance : TyOne Try.prog 4 (.bool false) := tyOne Try.underlying4 rfl tinfo4 rfl
theorem tinfo5 : (Try.prog.info? 5).map (fun i => (i.zero, i.size, i.bytes)) = some (some (.int .u8 0), 1, 1) := by kernel_rfl
instance : TyOne Try.prog 5 (.int .u8 0) := tyOne Try.underlying5 rfl tinfo5 rfl
theorem tinfo22 : (Try.prog.info? 22).map (fun i => (i.zero, i.size, i.bytes)) = some (some (.slice none 0 0), 1, 24) := by kernel_rfl
instance : TyOne Try.prog 22 (.slice none 0 0) := tyOne Try.underlying22 rfl tinfo22 rfl
theorem tinfo24 : (Try.prog.info? 24).map (fun i => (i.zero, i.size, i.bytes)) = some (some (.agg #[.int .i64 0, .int .i64 0, .int .i64 0, .int .i64 0, .int .i64 0, .slice none 0 0]), 6, 64) := by kernel_rfl
instance : TyAgg Try.prog 24 6 (#[.int .i64 0, .int .i64 0, .int .i64 0, .int .i64 0, .int .i64 0, .slice none 0 0]) := tyAgg Try.underlying24 rfl tinfo24
theorem tinfo30 : (Try.prog.info? 30).map (fun i => (i.zero, i.size, i.bytes)) = some (some (.agg #[.int .i64 0, .int .i64 0, .int .i64 0, .int .i64 0, .int .i64 0, .slice none 0 0]), 6, 64) := by kernel_rfl
instance : TyAgg Try.prog 30 6 (#[.int .i64 0, .int .i64 0, .int .i64 0, .int .i64 0, .int .i64 0, .slice none 0 0]) := tyAgg Try.underlying30 rfl tinfo30
theorem tinfo33 : (Try.prog.info? 33).map (fun i => (i.zero, i.size, i.bytes)) = some (some (.agg #[.int .i64 0, .int .i64 0]), 2, 16) := by kernel_rfl
instance : TyAgg Try.prog 33 2 (#[.int .i64 0, .int .i64 0]) := tyAgg Try.underlying33 rfl tinfo33
theorem tinfo42 : (Try.prog.info? 42).map (fun i => (i.zero, i.size, i.bytes)) = some (some (.agg #[.int .i64 0, .int .i64 0]), 2, 16) := by kernel_rfl
instance : TyAgg Try.prog 42 2 (#[.int .i64 0, .int .i64 0]) := tyAgg Try.underlying42 rfl tinfo42
theorem tinfo47 : (Try.prog.info? 47).map (fun i => (i.zero, i.size, i.bytes)) = some (some (.agg #[.int .i64 0, .int .i64 0]), 2, 16) := by kernel_rfl
instance : TyAgg Try.prog 47 2 (#[.int .i64 0, .int .i64 0]) := tyAgg Try.underlying47 rfl tinfo47
theorem tinfo53 : (Try.prog.info? 53).map (fun i => (i.zero, i.size, i.bytes)) = some (some (.slice none 0 0), 1, 24) := by kernel_rfl
instance : TyOne Try.prog 53 (.slice none 0 0) := tyOne Try.underlying53 rfl tinfo53 rfl
theorem tinfo93 : (Try.prog.info? 93).map (fun i => (i.zero, i.size, i.bytes)) = some (some (.agg #[.int .i64 0, .int .i64 0]), 2, 16) := by kernel_rfl
instance : TyAgg Try.prog 93 2 (#[.int .i64 0, .int .i64 0]) := tyAgg Try.underlying93 rfl tinfo93
theorem tinfo97 : (Try.prog.info? 97).map (fun i => (i.zero, i.size, i.bytes)) = some (some (.pointer none), 1, 8) := by kernel_rfl
instance : TyOne Try.prog 97 (.pointer none) := tyOne Try.underlying97 rfl tinfo97 rfl
theorem tinfo101 : (Try.prog.info? 101).map (fun i => (i.zero, i.size, i.bytes)) = some (some (.nilFunc), 1, 8) := by kernel_rfl
instance : TyOne Try.prog 101 (.nilFunc) := tyOne Try.underlying101 rfl tinfo101 rfl
theorem tinfo106 : (Try.prog.info? 106).map (fun i => (i.zero, i.size, i.bytes)) = some (some (.nilFunc), 1, 8) := by kernel_rfl
instance : TyOne Try.prog 106 (.nilFunc) := tyOne Try.underlying106 rfl tinfo106 rfl
theorem tinfo117 : (Try.prog.info? 117).map (fun i => (i.zero, i.size, i.bytes)) = some (some (.map none), 1, 8) := by kernel_rfl
instance : TyOne Try.prog 117 (.map none) := tyOne Try.underlying117 rfl tinfo117 rfl
theorem tinfo119 : (Try.prog.info? 119).map (fun i => (i.zero, i.size, i.bytes)) = some (some (.agg #[.int .i64 0, .int .i64 0, .int .i64 0, .int .i64 0, .int .i64 0, .slice none 0 0, .map none]), 7, 72) := by kernel_rfl
instance : TyAgg Try.prog 119 7 (#[.int .i64 0, .int .i64 0, .int .i64 0, .int .i64 0, .int .i64 0, .slice none 0 0, .map none]) := tyAgg Try.underlying119 rfl tinfo119
theorem tinfo123 : (Try.prog.info? 123).map (fun i => (i.zero, i.size, i.bytes)) = some (some (.nilFunc), 1, 8) := by kernel_rfl
instance : TyOne Try.prog 123 (.nilFunc) := tyOne Try.underlying123 rfl tinfo123 rfl
theorem tinfo126 : (Try.prog.info? 126).map (fun i => (i.zero, i.size, i.bytes)) = some (some (.nilFunc), 1, 8) := by kernel_rfl
instance : TyOne Try.prog 126 (.nilFunc) := tyOne Try.underlying126 rfl tinfo126 rfl
theorem tinfo128 : (Try.prog.info? 128).map (fun i => (i.zero, i.size, i.bytes)) = some (some (.agg (List.replicate 2001 (.bool false)).toArray), 2001, 2001) := by kernel_rfl
instance : TyAgg Try.prog 128 2001 ((List.replicate 2001 (.bool false)).toArray) := tyAgg Try.underlying128 rfl tinfo128
theorem tinfo132 : (Try.prog.info? 132).map (fun i => (i.zero, i.size, i.bytes)) = some (some (.nilFunc), 1, 8) := by kernel_rfl
instance : TyOne Try.prog 132 (.nilFunc) := tyOne Try.underlying132 rfl tinfo132 rfl
theorem tinfo135 : (Try.prog.info? 135).map (fun i => (i.zero, i.size, i.bytes)) = some (some (.agg #[.nilFunc]), 1, 8) := by kernel_rfl
instance : TyAgg Try.prog 135 1 (#[.nilFunc]) := tyAgg Try.underlying135 rfl tinfo135
instance : TyField Try.prog 24 0 0 := ⟨_, _, Try.underlying24, rfl, rfl, 0, by kernel_rfl⟩
instance : TyField Try.prog 24 1 1 := ⟨_, _, Try.underlying24, rfl, rfl, 0, by kernel_rfl⟩
instance : TyField Try.prog 24 2 2 := ⟨_, _, Try.underlying24, rfl, rfl, 0, by kernel_rfl⟩
instance : TyField Try.prog 24 3 3 := ⟨_, _, Try.underlying24, rfl, rfl, 0, by kernel_rfl⟩
instance : TyField Try.prog 24 4 4 := ⟨_, _, Try.underlying24, rfl, rfl, 0, by kernel_rfl⟩
instance : TyField Try.prog 24 5 5 := ⟨_, _, Try.underlying24, rfl, rfl, 0, by kernel_rfl⟩
instance : TyField Try.prog 30 0 0 := ⟨_, _, Try.underlying30, rfl, rfl, 0, by kernel_rfl⟩
instance : TyField Try.prog 30 1 1 := ⟨_, _, Try.underlying30, rfl, rfl, 0, by kernel_rfl⟩
instance : TyField Try.prog 30 2 2 := ⟨_, _, Try.underlying30, rfl, rfl, 0, by kernel_rfl⟩
instance : TyField Try.prog 30 3 3 := ⟨_, _, Try.underlying30, rfl, rfl, 0, by kernel_rfl⟩
instance : TyField Try.prog 30 4 4 := ⟨_, _, Try.underlying30, rfl, rfl, 0, by kernel_rfl⟩
instance : TyField Try.prog 30 5 5 := ⟨_, _, Try.underlying30, rfl, rfl, 0, by kernel_rfl⟩
instance : TyField Try.prog 33 0 0 := ⟨_, _, Try.underlying33, rfl, rfl, 0, by kernel_rfl⟩
instance : TyField Try.prog 33 1 1 := ⟨_, _, Try.underlying33, rfl, rfl, 0, by kernel_rfl⟩
instance : TyField Try.prog 42 0 0 := ⟨_, _, Try.underlying42, rfl, rfl, 0, by kernel_rfl⟩
instance : TyField Try.prog 42 1 1 := ⟨_, _, Try.underlying42, rfl, rfl, 0, by kernel_rfl⟩
instance : TyField Try.prog 47 0 0 := ⟨_, _, Try.underlying47, rfl, rfl, 0, by kernel_rfl⟩
instance : TyField Try.prog 47 1 1 := ⟨_, _, Try.underlying47, rfl, rfl, 0, by kernel_rfl⟩
instance : TyField Try.prog 93 0 0 := ⟨_, _, Try.underlying93, rfl, rfl, 0, by kernel_rfl⟩
instance : TyField Try.prog 93 1 1 := ⟨_, _, Try.underlying93, rfl, rfl, 0, by kernel_rfl⟩
instance : TyField Try.prog 119 0 0 := ⟨_, _, Try.underlying119, rfl, rfl, 5, by kernel_rfl⟩
instance : TyField Try.prog 119 1 6 := ⟨_, _, Try.underlying119, rfl, rfl, 0, by kernel_rfl⟩
instance : TyField Try.prog 135 0 0 := ⟨_, _, Try.underlying135, rfl, rfl, 0, by kernel_rfl⟩
instance : TyPlaces Try.prog 30 [(0, 1), (1, 1), (2, 1), (3, 1), (4, 1), (5, 1)] := ⟨_, Try.underlying30, places_run (by kernel_rfl)⟩
instance : TyPlaces Try.prog 33 [(0, 1), (1, 1)] := ⟨_, Try.underlying33, places_run (by kernel_rfl)⟩
instance : TyPlaces Try.prog 42 [(0, 1), (1, 1)] := ⟨_, Try.underlying42, places_run (by kernel_rfl)⟩
instance : TyPlaces Try.prog 47 [(0, 1), (1, 1)] := ⟨_, Try.underlying47, places_run (by kernel_rfl)⟩
instance : TyPlaces Try.prog 93 [(0, 1), (1, 1)] := ⟨_, Try.underlying93, places_run (by kernel_rfl)⟩
instance : TyPlaces Try.prog 119 [(0, 6), (6, 1)] := ⟨_, Try.underlying119, places_run (by kernel_rfl)⟩
instance : TyPlaces Try.prog 135 [(0, 1)] := ⟨_, Try.underlying135, places_run (by kernel_rfl)⟩
instance : TyEq2 Try.prog 33 .i64 .i64 := tyEq2 Try.underlying33 (by kernel_rfl) (by kernel_rfl) (by kernel_rfl) (by kernel_rfl) rfl rfl Try.underlying3 Try.underlying3
instance : TyEq2 Try.prog 93 .i64 .i64 := tyEq2 Try.underlying93 (by kernel_rfl) (by kernel_rfl) (by kernel_rfl) (by kernel_rfl) rfl rfl Try.underlying3 Try.underlying3
instance : TyMap2 Try.prog 117 93 33 (#[.int .i64 0, .int .i64 0]) := tyMap2 Try.underlying117 inferInstance tinfo33
instance : TyBool Try.prog 4 := ⟨Try.underlying4⟩
instance : TyElem Try.prog 3 1 8 := tyElem tinfo3 rfl
instance : TyElem Try.prog 5 1 1 := tyElem tinfo5 rfl
instance : TyElem Try.prog 42 2 16 := tyElem tinfo42 rfl
instance : TyElem Try.prog 93 2 16 := tyElem tinfo93 rfl
instance : TySlice Try.prog 22 3 1 := ⟨Try.underlying22, by kernel_rfl⟩
instance : TySlice Try.prog 50 42 2 := ⟨Try.underlying50, by kernel_rfl⟩
instance : TySlice Try.prog 53 93 2 := ⟨Try.underlying53, by kernel_rfl⟩
instance : TySlice Try.prog 67 5 1 := ⟨Try.underlying67, by kernel_rfl⟩
instance : TyArr Try.prog 128 2001 4 1 := ⟨Try.underlying128, by kernel_rfl⟩
instance : TyArrB Try.prog 128 2001 := ⟨⟨4, Try.underlying128, Try.underlying4, by kernel_rfl⟩, by kernel_rfl⟩
instance : TyInt Try.prog 3 .i64 := ⟨Try.underlying3⟩
instance : TyInt Try.prog 5 .u8 := ⟨Try.underlying5⟩
instance : TyInt Try.prog 27 .i64 := ⟨Try.underlying27⟩
instance : TyInt Try.prog 66 .u16 := ⟨Try.underlying66⟩
instance : TyInt Try.prog 73 .u64 := ⟨Try.underlying73⟩
instance : TyInt Try.prog 80 .i8 := ⟨Try.underlying80⟩
instance : GoFn Try.prog 3 := ⟨_, Try.func3, by kernel_rfl, by kernel_rfl⟩
instance : GoFn Try.prog 4 := ⟨_, Try.func4, by kernel_rfl, by kernel_rfl⟩
instance : GoFn Try.prog 5 := ⟨_, Try.func5, by kernel_rfl, by kernel_rfl⟩
instance : GoFn Try.prog 6 := ⟨_, Try.func6, by kernel_rfl, by kernel_rfl⟩
instance : GoFn Try.prog 7 := ⟨_, Try.func7, by kernel_rfl, by kernel_rfl⟩
instance : GoFn Try.prog 8 := ⟨_, Try.func8, by kernel_rfl, by kernel_rfl⟩
instance : GoFn Try.prog 9 := ⟨_, Try.func9, by kernel_rfl, by kernel_rfl⟩
instance : GoFn Try.prog 10 := ⟨_, Try.func10, by kernel_rfl, by kernel_rfl⟩
instance : GoFn Try.prog 11 := ⟨_, Try.func11, by kernel_rfl, by kernel_rfl⟩
instance : GoFn Try.prog 12 := ⟨_, Try.func12, by kernel_rfl, by kernel_rfl⟩
instance : GoFn Try.prog 13 := ⟨_, Try.func13, by kernel_rfl, by kernel_rfl⟩
instance : GoFn Try.prog 14 := ⟨_, Try.func14, by kernel_rfl, by kernel_rfl⟩
instance : GoFn Try.prog 15 := ⟨_, Try.func15, by kernel_rfl, by kernel_rfl⟩
instance : GoFn Try.prog 16 := ⟨_, Try.func16, by kernel_rfl, by kernel_rfl⟩
instance : GoFn Try.prog 17 := ⟨_, Try.func17, by kernel_rfl, by kernel_rfl⟩
instance : GoFn Try.prog 18 := ⟨_, Try.func18, by kernel_rfl, by kernel_rfl⟩
instance : GoFn Try.prog 19 := ⟨_, Try.func19, by kernel_rfl, by kernel_rfl⟩
instance : GoFn Try.prog 20 := ⟨_, Try.func20, by kernel_rfl, by kernel_rfl⟩
instance : GoFn Try.prog 21 := ⟨_, Try.func21, by kernel_rfl, by kernel_rfl⟩
instance : GoFn Try.prog 22 := ⟨_, Try.func22, by kernel_rfl, by kernel_rfl⟩
instance : GoFn Try.prog 23 := ⟨_, Try.func23, by kernel_rfl, by kernel_rfl⟩
instance : GoFn Try.prog 24 := ⟨_, Try.func24, by kernel_rfl, by kernel_rfl⟩
instance : GoFn Try.prog 25 := ⟨_, Try.func25, by kernel_rfl, by kernel_rfl⟩
instance : GoFn Try.prog 26 := ⟨_, Try.func26, by kernel_rfl, by kernel_rfl⟩
instance : GoFn Try.prog 27 := ⟨_, Try.func27, by kernel_rfl, by kernel_rfl⟩
instance : GoFn Try.prog 28 := ⟨_, Try.func28, by kernel_rfl, by kernel_rfl⟩
instance : GoFn Try.prog 29 := ⟨_, Try.func29, by kernel_rfl, by kernel_rfl⟩
instance : GoFn Try.prog 30 := ⟨_, Try.func30, by kernel_rfl, by kernel_rfl⟩
instance : GoFn Try.prog 31 := ⟨_, Try.func31, by kernel_rfl, by kernel_rfl⟩
instance : GoFn Try.prog 32 := ⟨_, Try.func32, by kernel_rfl, by kernel_rfl⟩
instance : GoFn Try.prog 33 := ⟨_, Try.func33, by kernel_rfl, by kernel_rfl⟩
instance : GoFn Try.prog 34 := ⟨_, Try.func34, by kernel_rfl, by kernel_rfl⟩
instance : GoFn Try.prog 35 := ⟨_, Try.func35, by kernel_rfl, by kernel_rfl⟩
instance : GoFn Try.prog 36 := ⟨_, Try.func36, by kernel_rfl, by kernel_rfl⟩
instance : GoFn Try.prog 37 := ⟨_, Try.func37, by kernel_rfl, by kernel_rfl⟩
instance : GoFn Try.prog 38 := ⟨_, Try.func38, by kernel_rfl, by kernel_rfl⟩
instance : GoFn Try.prog 39 := ⟨_, Try.func39, by kernel_rfl, by kernel_rfl⟩
instance : GoFn Try.prog 40 := ⟨_, Try.func40, by kernel_rfl, by kernel_rfl⟩
instance : GoFn Try.prog 41 := ⟨_, Try.func41, by kernel_rfl, by kernel_rfl⟩
instance : GoFn Try.prog 42 := ⟨_, Try.func42, by kernel_rfl, by kernel_rfl⟩
instance : GoFn Try.prog 43 := ⟨_, Try.func43, by kernel_rfl, by kernel_rfl⟩
instance : GoFn Try.prog 44 := ⟨_, Try.func44, by kernel_rfl, by kernel_rfl⟩
instance : GoFn Try.prog 45 := ⟨_, Try.func45, by kernel_rfl, by kernel_rfl⟩
instance : GoFn Try.prog 46 := ⟨_, Try.func46, by kernel_rfl, by kernel_rfl⟩
instance : GoFn Try.prog 47 := ⟨_, Try.func47, by kernel_rfl, by kernel_rfl⟩
instance : GoFn Try.prog 48 := ⟨_, Try.func48, by kernel_rfl, by kernel_rfl⟩
instance : GoFn Try.prog 49 := ⟨_, Try.func49, by kernel_rfl, by kernel_rfl⟩
instance : GoFn Try.prog 50 := ⟨_, Try.func50, by kernel_rfl, by kernel_rfl⟩
instance : GoFn Try.prog 51 := ⟨_, Try.func51, by kernel_rfl, by kernel_rfl⟩
instance : GoFn Try.prog 52 := ⟨_, Try.func52, by kernel_rfl, by kernel_rfl⟩
instance : GoFn Try.prog 53 := ⟨_, Try.func53, by kernel_rfl, by kernel_rfl⟩
instance : GoFn Try.prog 54 := ⟨_, Try.func54, by kernel_rfl, by kernel_rfl⟩
instance : GoFn Try.prog 55 := ⟨_, Try.func55, by kernel_rfl, by kernel_rfl⟩
instance : GoFn Try.prog 56 := ⟨_, Try.func56, by kernel_rfl, by kernel_rfl⟩
instance : GoFn Try.prog 57 := ⟨_, Try.func57, by kernel_rfl, by kernel_rfl⟩
instance : GoFn Try.prog 58 := ⟨_, Try.func58, by kernel_rfl, by kernel_rfl⟩
instance : GoFn Try.prog 59 := ⟨_, Try.func59, by kernel_rfl, by kernel_rfl⟩
instance : GoFn Try.prog 60 := ⟨_, Try.func60, by kernel_rfl, by kernel_rfl⟩
instance : GoFn Try.prog 61 := ⟨_, Try.func61, by kernel_rfl, by kernel_rfl⟩
instance : GoFn Try.prog 62 := ⟨_, Try.func62, by kernel_rfl, by kernel_rfl⟩
instance : GoFn Try.prog 63 := ⟨_, Try.func63, by kernel_rfl, by kernel_rfl⟩
instance : GoFn Try.prog 64 := ⟨_, Try.func64, by kernel_rfl, by kernel_rfl⟩
instance : GoFn Try.prog 65 := ⟨_, Try.func65, by kernel_rfl, by kernel_rfl⟩
instance : GoFn Try.prog 66 := ⟨_, Try.func66, by kernel_rfl, by kernel_rfl⟩
instance : GoFn Try.prog 67 := ⟨_, Try.func67, by kernel_rfl, by kernel_rfl⟩
instance : GoFn Try.prog 68 := ⟨_, Try.func68, by kernel_rfl, by kernel_rfl⟩
instance : GoFn Try.prog 69 := ⟨_, Try.func69, by kernel_rfl, by kernel_rfl⟩
instance : GoFn Try.prog 70 := ⟨_, Try.func70, by kernel_rfl, by kernel_rfl⟩
instance : GoFn Try.prog 71 := ⟨_, Try.func71, by kernel_rfl, by kernel_rfl⟩
instance : GoFn Try.prog 72 := ⟨_, Try.func72, by kernel_rfl, by kernel_rfl⟩
instance : GoFn Try.prog 73 := ⟨_, Try.func73, by kernel_rfl, by kernel_rfl⟩
instance : GoFn Try.prog 74 := ⟨_, Try.func74, by kernel_rfl, by kernel_rfl⟩
instance : GoFn Try.prog 75 := ⟨_, Try.func75, by kernel_rfl, by kernel_rfl⟩
instance : GoFn Try.prog 76 := ⟨_, Try.func76, by kernel_rfl, by kernel_rfl⟩
instance : GoFn Try.prog 77 := ⟨_, Try.func77, by kernel_rfl, by kernel_rfl⟩
instance : GoFn Try.prog 78 := ⟨_, Try.func78, by kernel_rfl, by kernel_rfl⟩
instance : GoFn Try.prog 79 := ⟨_, Try.func79, by kernel_rfl, by kernel_rfl⟩
instance : GoFn Try.prog 80 := ⟨_, Try.func80, by kernel_rfl, by kernel_rfl⟩
instance : GoFn Try.prog 81 := ⟨_, Try.func81, by kernel_rfl, by kernel_rfl⟩
instance : GoFn Try.prog 82 := ⟨_, Try.func82, by kernel_rfl, by kernel_rfl⟩
instance : GoFn Try.prog 83 := ⟨_, Try.func83, by kernel_rfl, by kernel_rfl⟩
instance : GoFn Try.prog 84 := ⟨_, Try.func84, by kernel_rfl, by kernel_rfl⟩
instance : GoFn Try.prog 85 := ⟨_, Try.func85, by kernel_rfl, by kernel_rfl⟩
instance : GoFn Try.prog 86 := ⟨_, Try.func86, by kernel_rfl, by kernel_rfl⟩
instance : GoFn Try.prog 87 := ⟨_, Try.func87, by kernel_rfl, by kernel_rfl⟩
instance : GoFn Try.prog 88 := ⟨_, Try.func88, by kernel_rfl, by kernel_rfl⟩
instance : GoFn Try.prog 89 := ⟨_, Try.func89, by kernel_rfl, by kernel_rfl⟩
instance : GoFn Try.prog 90 := ⟨_, Try.func90, by kernel_rfl, by kernel_rfl⟩
instance : GoFn Try.prog 91 := ⟨_, Try.func91, by kernel_rfl, by kernel_rfl⟩
instance : GoFn Try.prog 92 := ⟨_, Try.func92, by kernel_rfl, by kernel_rfl⟩
instance : GoFn Try.prog 93 := ⟨_, Try.func93, by kernel_rfl, by kernel_rfl⟩
instance : GoFn Try.prog 94 := ⟨_, Try.func94, by kernel_rfl, by kernel_rfl⟩
instance : GoFn Try.prog 95 := ⟨_, Try.func95, by kernel_rfl, by kernel_rfl⟩
instance : GoFn Try.prog 96 := ⟨_, Try.func96, by kernel_rfl, by kernel_rfl⟩
instance : GoFn Try.prog 97 := ⟨_, Try.func97, by kernel_rfl, by kernel_rfl⟩
instance : GoFn Try.prog 98 := ⟨_, Try.func98, by kernel_rfl, by kernel_rfl⟩
instance : GoFn Try.prog 99 := ⟨_, Try.func99, by kernel_rfl, by kernel_rfl⟩
instance : GoFn Try.prog 100 := ⟨_, Try.func100, by kernel_rfl, by kernel_rfl⟩
instance : GoFn Try.prog 101 := ⟨_, Try.func101, by kernel_rfl, by kernel_rfl⟩
instance : GoFn Try.prog 102 := ⟨_, Try.func102, by kernel_rfl, by kernel_rfl⟩
instance : GoFn Try.prog 103 := ⟨_, Try.func103, by kernel_rfl, by kernel_rfl⟩
instance : GoFn Try.prog 104 := ⟨_, Try.func104, by kernel_rfl, by kernel_rfl⟩
end Go.Sp
