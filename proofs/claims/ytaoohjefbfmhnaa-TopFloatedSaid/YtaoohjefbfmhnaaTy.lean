/-
  The types and functions of this program, as the frame's laws ask them.
-/
import Derived.Test.YtaoohjefbfmhnaaProg
import Derived.Test.YtaoohjefbfmhnaaFw
import Derived.KernelRfl
namespace Go.Sp
open Go Go.Proofs
theorem tyOne {P : Program} {t : TypeId} {d : TypeDesc} {z : Value} {b : Nat} (hu : P.underlying t = some d) (hp : plainD d = true)
    (hi : (P.info? t).map (fun i => (i.zero, i.size, i.bytes)) = some (some z, 1, b)) (hz : z.cells = #[z]) : TyOne P t z := by
  obtain ⟨i, h1, h2⟩ := Option.map_eq_some_iff.1 hi
  simp only [Prod.mk.injEq] at h2
  exact ⟨⟨d, hu, hp⟩, ⟨i, h1, h2.2.1, h2.1⟩, hz⟩
theorem tyAgg {P : Program} {t : TypeId} {d : TypeDesc} {zs : Array Value} {n b : Nat} (hu : P.underlying t = some d) (hp : aggD d = true)
    (hi : (P.info? t).map (fun i => (i.zero, i.size, i.bytes)) = some (some (.agg zs), n, b)) : TyAgg P t n zs := by
  obtain ⟨i, h1, h2⟩ := Option.map_eq_some_iff.1 hi
  simp only [Prod.mk.injEq] at h2
  exact ⟨⟨d, hu, hp⟩, ⟨i, h1, h2.2.1, h2.1⟩⟩

theorem tinfo3 : (Try.prog.info? 3).map (fun i => (i.zero, i.size, i.bytes)) = some (some (.int .i64 0), 1, 8) := by kernel_rfl
instance : TyOne Try.prog 3 (.int .i64 0) := tyOne Try.underlying3 rfl tinfo3 rfl
theorem tinfo22 : (Try.prog.info? 22).map (fun i => (i.zero, i.size, i.bytes)) = some (some (.slice none 0 0), 1, 24) := by kernel_rfl
instance : TyOne Try.prog 22 (.slice none 0 0) := tyOne Try.underlying22 rfl tinfo22 rfl
theorem tinfo24 : (Try.prog.info? 24).map (fun i => (i.zero, i.size, i.bytes)) = some (some (.agg #[.int .i64 0, .int .i64 0, .int .i64 0, .int .i64 0, .int .i64 0, .slice none 0 0]), 6, 64) := by kernel_rfl
instance : TyAgg Try.prog 24 6 (#[.int .i64 0, .int .i64 0, .int .i64 0, .int .i64 0, .int .i64 0, .slice none 0 0]) := tyAgg Try.underlying24 rfl tinfo24
theorem tinfo31 : (Try.prog.info? 31).map (fun i => (i.zero, i.size, i.bytes)) = some (some (.agg #[.int .i64 0, .int .i64 0]), 2, 16) := by kernel_rfl
instance : TyAgg Try.prog 31 2 (#[.int .i64 0, .int .i64 0]) := tyAgg Try.underlying31 rfl tinfo31
theorem tinfo32 : (Try.prog.info? 32).map (fun i => (i.zero, i.size, i.bytes)) = some (some (.slice none 0 0), 1, 24) := by kernel_rfl
instance : TyOne Try.prog 32 (.slice none 0 0) := tyOne Try.underlying32 rfl tinfo32 rfl
theorem tinfo33 : (Try.prog.info? 33).map (fun i => (i.zero, i.size, i.bytes)) = some (some (.slice none 0 0), 1, 24) := by kernel_rfl
instance : TyOne Try.prog 33 (.slice none 0 0) := tyOne Try.underlying33 rfl tinfo33 rfl
theorem tinfo35 : (Try.prog.info? 35).map (fun i => (i.zero, i.size, i.bytes)) = some (some (.agg #[.int .i64 0, .int .i64 0, .int .i64 0, .int .i64 0, .int .i64 0, .slice none 0 0, .slice none 0 0, .int .i64 0, .slice none 0 0, .slice none 0 0]), 10, 144) := by kernel_rfl
instance : TyAgg Try.prog 35 10 (#[.int .i64 0, .int .i64 0, .int .i64 0, .int .i64 0, .int .i64 0, .slice none 0 0, .slice none 0 0, .int .i64 0, .slice none 0 0, .slice none 0 0]) := tyAgg Try.underlying35 rfl tinfo35
theorem tinfo37 : (Try.prog.info? 37).map (fun i => (i.zero, i.size, i.bytes)) = some (some (.agg #[.int .i64 0, .int .i64 0]), 2, 16) := by kernel_rfl
instance : TyAgg Try.prog 37 2 (#[.int .i64 0, .int .i64 0]) := tyAgg Try.underlying37 rfl tinfo37
theorem tinfo39 : (Try.prog.info? 39).map (fun i => (i.zero, i.size, i.bytes)) = some (some (.agg #[.int .i64 0, .int .i64 0, .int .i64 0]), 3, 24) := by kernel_rfl
instance : TyAgg Try.prog 39 3 (#[.int .i64 0, .int .i64 0, .int .i64 0]) := tyAgg Try.underlying39 rfl tinfo39
theorem tinfo41 : (Try.prog.info? 41).map (fun i => (i.zero, i.size, i.bytes)) = some (some (.agg #[.int .i64 0, .int .i64 0]), 2, 16) := by kernel_rfl
instance : TyAgg Try.prog 41 2 (#[.int .i64 0, .int .i64 0]) := tyAgg Try.underlying41 rfl tinfo41
theorem tinfo45 : (Try.prog.info? 45).map (fun i => (i.zero, i.size, i.bytes)) = some (some (.agg #[.int .i64 0, .int .i64 0, .int .i64 0, .int .i64 0, .int .i64 0, .slice none 0 0]), 6, 64) := by kernel_rfl
instance : TyAgg Try.prog 45 6 (#[.int .i64 0, .int .i64 0, .int .i64 0, .int .i64 0, .int .i64 0, .slice none 0 0]) := tyAgg Try.underlying45 rfl tinfo45
theorem tinfo47 : (Try.prog.info? 47).map (fun i => (i.zero, i.size, i.bytes)) = some (some (.slice none 0 0), 1, 24) := by kernel_rfl
instance : TyOne Try.prog 47 (.slice none 0 0) := tyOne Try.underlying47 rfl tinfo47 rfl
theorem tinfo49 : (Try.prog.info? 49).map (fun i => (i.zero, i.size, i.bytes)) = some (some (.slice none 0 0), 1, 24) := by kernel_rfl
instance : TyOne Try.prog 49 (.slice none 0 0) := tyOne Try.underlying49 rfl tinfo49 rfl
theorem tinfo52 : (Try.prog.info? 52).map (fun i => (i.zero, i.size, i.bytes)) = some (some (.slice none 0 0), 1, 24) := by kernel_rfl
instance : TyOne Try.prog 52 (.slice none 0 0) := tyOne Try.underlying52 rfl tinfo52 rfl
theorem tinfo54 : (Try.prog.info? 54).map (fun i => (i.zero, i.size, i.bytes)) = some (some (.agg #[.int .i64 0, .int .i64 0, .int .i64 0, .int .i64 0, .int .i64 0, .slice none 0 0, .slice none 0 0, .int .i64 0, .slice none 0 0, .slice none 0 0]), 10, 144) := by kernel_rfl
instance : TyAgg Try.prog 54 10 (#[.int .i64 0, .int .i64 0, .int .i64 0, .int .i64 0, .int .i64 0, .slice none 0 0, .slice none 0 0, .int .i64 0, .slice none 0 0, .slice none 0 0]) := tyAgg Try.underlying54 rfl tinfo54
theorem tinfo59 : (Try.prog.info? 59).map (fun i => (i.zero, i.size, i.bytes)) = some (some (.agg #[.int .i64 0, .int .i64 0]), 2, 16) := by kernel_rfl
instance : TyAgg Try.prog 59 2 (#[.int .i64 0, .int .i64 0]) := tyAgg Try.underlying59 rfl tinfo59
theorem tinfo62 : (Try.prog.info? 62).map (fun i => (i.zero, i.size, i.bytes)) = some (some (.agg #[.int .i64 0, .int .i64 0]), 2, 16) := by kernel_rfl
instance : TyAgg Try.prog 62 2 (#[.int .i64 0, .int .i64 0]) := tyAgg Try.underlying62 rfl tinfo62
theorem tinfo63 : (Try.prog.info? 63).map (fun i => (i.zero, i.size, i.bytes)) = some (some (.agg #[.int .i64 0, .int .i64 0, .int .i64 0]), 3, 24) := by kernel_rfl
instance : TyAgg Try.prog 63 3 (#[.int .i64 0, .int .i64 0, .int .i64 0]) := tyAgg Try.underlying63 rfl tinfo63
theorem tinfo66 : (Try.prog.info? 66).map (fun i => (i.zero, i.size, i.bytes)) = some (some (.pointer none), 1, 8) := by kernel_rfl
instance : TyOne Try.prog 66 (.pointer none) := tyOne Try.underlying66 rfl tinfo66 rfl
theorem tinfo70 : (Try.prog.info? 70).map (fun i => (i.zero, i.size, i.bytes)) = some (some (.pointer none), 1, 8) := by kernel_rfl
instance : TyOne Try.prog 70 (.pointer none) := tyOne Try.underlying70 rfl tinfo70 rfl
theorem tinfo71 : (Try.prog.info? 71).map (fun i => (i.zero, i.size, i.bytes)) = some (some (.slice none 0 0), 1, 24) := by kernel_rfl
instance : TyOne Try.prog 71 (.slice none 0 0) := tyOne Try.underlying71 rfl tinfo71 rfl
theorem tinfo75 : (Try.prog.info? 75).map (fun i => (i.zero, i.size, i.bytes)) = some (some (.agg #[.int .i64 0, .int .i64 0, .int .i64 0]), 3, 24) := by kernel_rfl
instance : TyAgg Try.prog 75 3 (#[.int .i64 0, .int .i64 0, .int .i64 0]) := tyAgg Try.underlying75 rfl tinfo75
theorem tinfo83 : (Try.prog.info? 83).map (fun i => (i.zero, i.size, i.bytes)) = some (some (.nilFunc), 1, 8) := by kernel_rfl
instance : TyOne Try.prog 83 (.nilFunc) := tyOne Try.underlying83 rfl tinfo83 rfl
theorem tinfo89 : (Try.prog.info? 89).map (fun i => (i.zero, i.size, i.bytes)) = some (some (.nilFunc), 1, 8) := by kernel_rfl
instance : TyOne Try.prog 89 (.nilFunc) := tyOne Try.underlying89 rfl tinfo89 rfl
theorem tinfo91 : (Try.prog.info? 91).map (fun i => (i.zero, i.size, i.bytes)) = some (some (.map none), 1, 8) := by kernel_rfl
instance : TyOne Try.prog 91 (.map none) := tyOne Try.underlying91 rfl tinfo91 rfl
theorem tinfo93 : (Try.prog.info? 93).map (fun i => (i.zero, i.size, i.bytes)) = some (some (.agg #[.int .i64 0, .int .i64 0, .int .i64 0, .int .i64 0, .int .i64 0, .slice none 0 0, .map none]), 7, 72) := by kernel_rfl
instance : TyAgg Try.prog 93 7 (#[.int .i64 0, .int .i64 0, .int .i64 0, .int .i64 0, .int .i64 0, .slice none 0 0, .map none]) := tyAgg Try.underlying93 rfl tinfo93
theorem tinfo98 : (Try.prog.info? 98).map (fun i => (i.zero, i.size, i.bytes)) = some (some (.nilFunc), 1, 8) := by kernel_rfl
instance : TyOne Try.prog 98 (.nilFunc) := tyOne Try.underlying98 rfl tinfo98 rfl
theorem tinfo99 : (Try.prog.info? 99).map (fun i => (i.zero, i.size, i.bytes)) = some (some (.map none), 1, 8) := by kernel_rfl
instance : TyOne Try.prog 99 (.map none) := tyOne Try.underlying99 rfl tinfo99 rfl
theorem tinfo101 : (Try.prog.info? 101).map (fun i => (i.zero, i.size, i.bytes)) = some (some (.agg #[.int .i64 0, .int .i64 0, .int .i64 0, .int .i64 0, .int .i64 0, .slice none 0 0, .slice none 0 0, .int .i64 0, .slice none 0 0, .slice none 0 0, .map none]), 11, 152) := by kernel_rfl
instance : TyAgg Try.prog 101 11 (#[.int .i64 0, .int .i64 0, .int .i64 0, .int .i64 0, .int .i64 0, .slice none 0 0, .slice none 0 0, .int .i64 0, .slice none 0 0, .slice none 0 0, .map none]) := tyAgg Try.underlying101 rfl tinfo101
theorem tinfo104 : (Try.prog.info? 104).map (fun i => (i.zero, i.size, i.bytes)) = some (some (.nilFunc), 1, 8) := by kernel_rfl
instance : TyOne Try.prog 104 (.nilFunc) := tyOne Try.underlying104 rfl tinfo104 rfl
theorem tinfo105 : (Try.prog.info? 105).map (fun i => (i.zero, i.size, i.bytes)) = some (some (.nilFunc), 1, 8) := by kernel_rfl
instance : TyOne Try.prog 105 (.nilFunc) := tyOne Try.underlying105 rfl tinfo105 rfl
theorem tinfo107 : (Try.prog.info? 107).map (fun i => (i.zero, i.size, i.bytes)) = some (some (.nilFunc), 1, 8) := by kernel_rfl
instance : TyOne Try.prog 107 (.nilFunc) := tyOne Try.underlying107 rfl tinfo107 rfl
theorem tinfo120 : (Try.prog.info? 120).map (fun i => (i.zero, i.size, i.bytes)) = some (some (.agg #[.int .i64 0, .int .i64 0]), 2, 16) := by kernel_rfl
instance : TyAgg Try.prog 120 2 (#[.int .i64 0, .int .i64 0]) := tyAgg Try.underlying120 rfl tinfo120
instance : TyField Try.prog 24 0 0 := ⟨_, _, Try.underlying24, rfl, rfl, 0, by kernel_rfl⟩
instance : TyField Try.prog 24 1 1 := ⟨_, _, Try.underlying24, rfl, rfl, 0, by kernel_rfl⟩
instance : TyField Try.prog 24 2 2 := ⟨_, _, Try.underlying24, rfl, rfl, 0, by kernel_rfl⟩
instance : TyField Try.prog 24 3 3 := ⟨_, _, Try.underlying24, rfl, rfl, 0, by kernel_rfl⟩
instance : TyField Try.prog 24 4 4 := ⟨_, _, Try.underlying24, rfl, rfl, 0, by kernel_rfl⟩
instance : TyField Try.prog 24 5 5 := ⟨_, _, Try.underlying24, rfl, rfl, 0, by kernel_rfl⟩
instance : TyField Try.prog 31 0 0 := ⟨_, _, Try.underlying31, rfl, rfl, 0, by kernel_rfl⟩
instance : TyField Try.prog 31 1 1 := ⟨_, _, Try.underlying31, rfl, rfl, 0, by kernel_rfl⟩
instance : TyField Try.prog 35 0 0 := ⟨_, _, Try.underlying35, rfl, rfl, 5, by kernel_rfl⟩
instance : TyField Try.prog 35 1 6 := ⟨_, _, Try.underlying35, rfl, rfl, 0, by kernel_rfl⟩
instance : TyField Try.prog 35 2 7 := ⟨_, _, Try.underlying35, rfl, rfl, 0, by kernel_rfl⟩
instance : TyField Try.prog 35 3 8 := ⟨_, _, Try.underlying35, rfl, rfl, 0, by kernel_rfl⟩
instance : TyField Try.prog 35 4 9 := ⟨_, _, Try.underlying35, rfl, rfl, 0, by kernel_rfl⟩
instance : TyField Try.prog 37 0 0 := ⟨_, _, Try.underlying37, rfl, rfl, 0, by kernel_rfl⟩
instance : TyField Try.prog 37 1 1 := ⟨_, _, Try.underlying37, rfl, rfl, 0, by kernel_rfl⟩
instance : TyField Try.prog 39 0 0 := ⟨_, _, Try.underlying39, rfl, rfl, 0, by kernel_rfl⟩
instance : TyField Try.prog 39 1 1 := ⟨_, _, Try.underlying39, rfl, rfl, 0, by kernel_rfl⟩
instance : TyField Try.prog 39 2 2 := ⟨_, _, Try.underlying39, rfl, rfl, 0, by kernel_rfl⟩
instance : TyField Try.prog 41 0 0 := ⟨_, _, Try.underlying41, rfl, rfl, 0, by kernel_rfl⟩
instance : TyField Try.prog 41 1 1 := ⟨_, _, Try.underlying41, rfl, rfl, 0, by kernel_rfl⟩
instance : TyField Try.prog 45 0 0 := ⟨_, _, Try.underlying45, rfl, rfl, 0, by kernel_rfl⟩
instance : TyField Try.prog 45 1 1 := ⟨_, _, Try.underlying45, rfl, rfl, 0, by kernel_rfl⟩
instance : TyField Try.prog 45 2 2 := ⟨_, _, Try.underlying45, rfl, rfl, 0, by kernel_rfl⟩
instance : TyField Try.prog 45 3 3 := ⟨_, _, Try.underlying45, rfl, rfl, 0, by kernel_rfl⟩
instance : TyField Try.prog 45 4 4 := ⟨_, _, Try.underlying45, rfl, rfl, 0, by kernel_rfl⟩
instance : TyField Try.prog 45 5 5 := ⟨_, _, Try.underlying45, rfl, rfl, 0, by kernel_rfl⟩
instance : TyField Try.prog 54 0 0 := ⟨_, _, Try.underlying54, rfl, rfl, 5, by kernel_rfl⟩
instance : TyField Try.prog 54 1 6 := ⟨_, _, Try.underlying54, rfl, rfl, 0, by kernel_rfl⟩
instance : TyField Try.prog 54 2 7 := ⟨_, _, Try.underlying54, rfl, rfl, 0, by kernel_rfl⟩
instance : TyField Try.prog 54 3 8 := ⟨_, _, Try.underlying54, rfl, rfl, 0, by kernel_rfl⟩
instance : TyField Try.prog 54 4 9 := ⟨_, _, Try.underlying54, rfl, rfl, 0, by kernel_rfl⟩
instance : TyField Try.prog 59 0 0 := ⟨_, _, Try.underlying59, rfl, rfl, 0, by kernel_rfl⟩
instance : TyField Try.prog 59 1 1 := ⟨_, _, Try.underlying59, rfl, rfl, 0, by kernel_rfl⟩
instance : TyField Try.prog 62 0 0 := ⟨_, _, Try.underlying62, rfl, rfl, 0, by kernel_rfl⟩
instance : TyField Try.prog 62 1 1 := ⟨_, _, Try.underlying62, rfl, rfl, 0, by kernel_rfl⟩
instance : TyField Try.prog 63 0 0 := ⟨_, _, Try.underlying63, rfl, rfl, 0, by kernel_rfl⟩
instance : TyField Try.prog 63 1 1 := ⟨_, _, Try.underlying63, rfl, rfl, 0, by kernel_rfl⟩
instance : TyField Try.prog 63 2 2 := ⟨_, _, Try.underlying63, rfl, rfl, 0, by kernel_rfl⟩
instance : TyField Try.prog 93 0 0 := ⟨_, _, Try.underlying93, rfl, rfl, 5, by kernel_rfl⟩
instance : TyField Try.prog 93 1 6 := ⟨_, _, Try.underlying93, rfl, rfl, 0, by kernel_rfl⟩
instance : TyField Try.prog 101 0 0 := ⟨_, _, Try.underlying101, rfl, rfl, 9, by kernel_rfl⟩
instance : TyField Try.prog 101 1 10 := ⟨_, _, Try.underlying101, rfl, rfl, 0, by kernel_rfl⟩
instance : TyField Try.prog 120 0 0 := ⟨_, _, Try.underlying120, rfl, rfl, 0, by kernel_rfl⟩
instance : TyField Try.prog 120 1 1 := ⟨_, _, Try.underlying120, rfl, rfl, 0, by kernel_rfl⟩
instance : TyPlaces Try.prog 31 [(0, 1), (1, 1)] := ⟨_, Try.underlying31, places_run (by kernel_rfl)⟩
instance : TyPlaces Try.prog 35 [(0, 6), (6, 1), (7, 1), (8, 1), (9, 1)] := ⟨_, Try.underlying35, places_run (by kernel_rfl)⟩
instance : TyPlaces Try.prog 39 [(0, 1), (1, 1), (2, 1)] := ⟨_, Try.underlying39, places_run (by kernel_rfl)⟩
instance : TyPlaces Try.prog 41 [(0, 1), (1, 1)] := ⟨_, Try.underlying41, places_run (by kernel_rfl)⟩
instance : TyPlaces Try.prog 45 [(0, 1), (1, 1), (2, 1), (3, 1), (4, 1), (5, 1)] := ⟨_, Try.underlying45, places_run (by kernel_rfl)⟩
instance : TyPlaces Try.prog 54 [(0, 6), (6, 1), (7, 1), (8, 1), (9, 1)] := ⟨_, Try.underlying54, places_run (by kernel_rfl)⟩
instance : TyPlaces Try.prog 59 [(0, 1), (1, 1)] := ⟨_, Try.underlying59, places_run (by kernel_rfl)⟩
instance : TyPlaces Try.prog 62 [(0, 1), (1, 1)] := ⟨_, Try.underlying62, places_run (by kernel_rfl)⟩
instance : TyPlaces Try.prog 63 [(0, 1), (1, 1), (2, 1)] := ⟨_, Try.underlying63, places_run (by kernel_rfl)⟩
instance : TyPlaces Try.prog 93 [(0, 6), (6, 1)] := ⟨_, Try.underlying93, places_run (by kernel_rfl)⟩
instance : TyPlaces Try.prog 101 [(0, 10), (10, 1)] := ⟨_, Try.underlying101, places_run (by kernel_rfl)⟩
instance : TyPlaces Try.prog 120 [(0, 1), (1, 1)] := ⟨_, Try.underlying120, places_run (by kernel_rfl)⟩
instance : TyEq2 Try.prog 41 .i64 .i64 := tyEq2 Try.underlying41 (by kernel_rfl) (by kernel_rfl) (by kernel_rfl) (by kernel_rfl) rfl rfl Try.underlying3 Try.underlying3
instance : TyEq2 Try.prog 59 .i64 .i64 := tyEq2 Try.underlying59 (by kernel_rfl) (by kernel_rfl) (by kernel_rfl) (by kernel_rfl) rfl rfl Try.underlying3 Try.underlying3
instance : TyEq2 Try.prog 62 .i64 .i64 := tyEq2 Try.underlying62 (by kernel_rfl) (by kernel_rfl) (by kernel_rfl) (by kernel_rfl) rfl rfl Try.underlying3 Try.underlying3
instance : TyEq2 Try.prog 120 .i64 .i64 := tyEq2 Try.underlying120 (by kernel_rfl) (by kernel_rfl) (by kernel_rfl) (by kernel_rfl) rfl rfl Try.underlying3 Try.underlying3
instance : TyMap2 Try.prog 91 62 41 (#[.int .i64 0, .int .i64 0]) := tyMap2 Try.underlying91 inferInstance tinfo41
instance : TyMap2 Try.prog 99 120 41 (#[.int .i64 0, .int .i64 0]) := tyMap2 Try.underlying99 inferInstance tinfo41
instance : TyElem Try.prog 3 1 8 := tyElem tinfo3 rfl
instance : TyElem Try.prog 31 2 16 := tyElem tinfo31 rfl
instance : TyElem Try.prog 37 2 16 := tyElem tinfo37 rfl
instance : TyElem Try.prog 39 3 24 := tyElem tinfo39 rfl
instance : TyElem Try.prog 59 2 16 := tyElem tinfo59 rfl
instance : TyElem Try.prog 62 2 16 := tyElem tinfo62 rfl
instance : TyElem Try.prog 63 3 24 := tyElem tinfo63 rfl
instance : TyElem Try.prog 75 3 24 := tyElem tinfo75 rfl
instance : TySlice Try.prog 22 3 1 := ⟨Try.underlying22, by kernel_rfl⟩
instance : TySlice Try.prog 25 37 2 := ⟨Try.underlying25, by kernel_rfl⟩
instance : TySlice Try.prog 32 31 2 := ⟨Try.underlying32, by kernel_rfl⟩
instance : TySlice Try.prog 33 39 3 := ⟨Try.underlying33, by kernel_rfl⟩
instance : TySlice Try.prog 47 62 2 := ⟨Try.underlying47, by kernel_rfl⟩
instance : TySlice Try.prog 49 59 2 := ⟨Try.underlying49, by kernel_rfl⟩
instance : TySlice Try.prog 52 63 3 := ⟨Try.underlying52, by kernel_rfl⟩
instance : TySlice Try.prog 71 75 3 := ⟨Try.underlying71, by kernel_rfl⟩
instance : TyArr Try.prog 75 3 3 1 := ⟨Try.underlying75, by kernel_rfl⟩
instance : TyArr3 Try.prog 75 := ⟨⟨3, Try.underlying75, Try.underlying3, by kernel_rfl⟩, by kernel_rfl⟩
instance : TyInt Try.prog 3 .i64 := ⟨Try.underlying3⟩
instance : TyInt Try.prog 26 .u16 := ⟨Try.underlying26⟩
instance : TyInt Try.prog 42 .i64 := ⟨Try.underlying42⟩
instance : GoFn Try.prog 3 := ⟨_, Try.func3, by kernel_rfl, by kernel_rfl⟩
instance : GoFn Try.prog 4 := ⟨_, Try.func4, by kernel_rfl, by kernel_rfl⟩
instance : GoFn Try.prog 5 := ⟨_, Try.func5, by kernel_rfl, by kernel_rfl⟩
instance : GoFn Try.prog 6 := ⟨_, Try.func6, by kernel_rfl, by kernel_rfl⟩
instance : GoFn Try.prog 7 := ⟨_, Try.func7, by kernel_rfl, by kernel_rfl⟩
instance : GoFn Try.prog 8 := ⟨_, Try.func8, by kernel_rfl, by kernel_rfl⟩
instance : GoFn Try.prog 9 := ⟨_, Try.func9, by kernel_rfl, by kernel_rfl⟩
instance : GoFn Try.prog 10 := ⟨_, Try.func10, by kernel_rfl, by kernel_rfl⟩
instance : GoFn Try.prog 11 := ⟨_, Try.func11, by kernel_rfl, by kernel_rfl⟩
instance : GoFn Try.prog 12 := ⟨_, Try.func12, by kernel_rfl, by kernel_rfl⟩
instance : GoFn Try.prog 13 := ⟨_, Try.func13, by kernel_rfl, by kernel_rfl⟩
instance : GoFn Try.prog 14 := ⟨_, Try.func14, by kernel_rfl, by kernel_rfl⟩
instance : GoFn Try.prog 15 := ⟨_, Try.func15, by kernel_rfl, by kernel_rfl⟩
instance : GoFn Try.prog 16 := ⟨_, Try.func16, by kernel_rfl, by kernel_rfl⟩
instance : GoFn Try.prog 17 := ⟨_, Try.func17, by kernel_rfl, by kernel_rfl⟩
instance : GoFn Try.prog 18 := ⟨_, Try.func18, by kernel_rfl, by kernel_rfl⟩
instance : GoFn Try.prog 19 := ⟨_, Try.func19, by kernel_rfl, by kernel_rfl⟩
instance : GoFn Try.prog 20 := ⟨_, Try.func20, by kernel_rfl, by kernel_rfl⟩
instance : GoFn Try.prog 21 := ⟨_, Try.func21, by kernel_rfl, by kernel_rfl⟩
instance : GoFn Try.prog 22 := ⟨_, Try.func22, by kernel_rfl, by kernel_rfl⟩
instance : GoFn Try.prog 23 := ⟨_, Try.func23, by kernel_rfl, by kernel_rfl⟩
instance : GoFn Try.prog 24 := ⟨_, Try.func24, by kernel_rfl, by kernel_rfl⟩
instance : GoFn Try.prog 25 := ⟨_, Try.func25, by kernel_rfl, by kernel_rfl⟩
instance : GoFn Try.prog 26 := ⟨_, Try.func26, by kernel_rfl, by kernel_rfl⟩
instance : GoFn Try.prog 27 := ⟨_, Try.func27, by kernel_rfl, by kernel_rfl⟩
instance : GoFn Try.prog 28 := ⟨_, Try.func28, by kernel_rfl, by kernel_rfl⟩
instance : GoFn Try.prog 29 := ⟨_, Try.func29, by kernel_rfl, by kernel_rfl⟩
instance : GoFn Try.prog 30 := ⟨_, Try.func30, by kernel_rfl, by kernel_rfl⟩
instance : GoFn Try.prog 31 := ⟨_, Try.func31, by kernel_rfl, by kernel_rfl⟩
instance : GoFn Try.prog 32 := ⟨_, Try.func32, by kernel_rfl, by kernel_rfl⟩
instance : GoFn Try.prog 33 := ⟨_, Try.func33, by kernel_rfl, by kernel_rfl⟩
instance : GoFn Try.prog 34 := ⟨_, Try.func34, by kernel_rfl, by kernel_rfl⟩
instance : GoFn Try.prog 35 := ⟨_, Try.func35, by kernel_rfl, by kernel_rfl⟩
instance : GoFn Try.prog 36 := ⟨_, Try.func36, by kernel_rfl, by kernel_rfl⟩
instance : GoFn Try.prog 37 := ⟨_, Try.func37, by kernel_rfl, by kernel_rfl⟩
instance : GoFn Try.prog 38 := ⟨_, Try.func38, by kernel_rfl, by kernel_rfl⟩
instance : GoFn Try.prog 39 := ⟨_, Try.func39, by kernel_rfl, by kernel_rfl⟩
instance : GoFn Try.prog 40 := ⟨_, Try.func40, by kernel_rfl, by kernel_rfl⟩
instance : GoFn Try.prog 41 := ⟨_, Try.func41, by kernel_rfl, by kernel_rfl⟩
instance : GoFn Try.prog 42 := ⟨_, Try.func42, by kernel_rfl, by kernel_rfl⟩
instance : GoFn Try.prog 43 := ⟨_, Try.func43, by kernel_rfl, by kernel_rfl⟩
instance : GoFn Try.prog 44 := ⟨_, Try.func44, by kernel_rfl, by kernel_rfl⟩
instance : GoFn Try.prog 45 := ⟨_, Try.func45, by kernel_rfl, by kernel_rfl⟩
instance : GoFn Try.prog 46 := ⟨_, Try.func46, by kernel_rfl, by kernel_rfl⟩
instance : GoFn Try.prog 47 := ⟨_, Try.func47, by kernel_rfl, by kernel_rfl⟩
instance : GoFn Try.prog 48 := ⟨_, Try.func48, by kernel_rfl, by kernel_rfl⟩
instance : GoFn Try.prog 49 := ⟨_, Try.func49, by kernel_rfl, by kernel_rfl⟩
instance : GoFn Try.prog 50 := ⟨_, Try.func50, by kernel_rfl, by kernel_rfl⟩
instance : GoFn Try.prog 51 := ⟨_, Try.func51, by kernel_rfl, by kernel_rfl⟩
instance : GoFn Try.prog 52 := ⟨_, Try.func52, by kernel_rfl, by kernel_rfl⟩
instance : GoFn Try.prog 53 := ⟨_, Try.func53, by kernel_rfl, by kernel_rfl⟩
instance : GoFn Try.prog 54 := ⟨_, Try.func54, by kernel_rfl, by kernel_rfl⟩
instance : GoFn Try.prog 55 := ⟨_, Try.func55, by kernel_rfl, by kernel_rfl⟩
instance : GoFn Try.prog 56 := ⟨_, Try.func56, by kernel_rfl, by kernel_rfl⟩
instance : GoFn Try.prog 57 := ⟨_, Try.func57, by kernel_rfl, by kernel_rfl⟩
instance : GoFn Try.prog 58 := ⟨_, Try.func58, by kernel_rfl, by kernel_rfl⟩
instance : GoFn Try.prog 59 := ⟨_, Try.func59, by kernel_rfl, by kernel_rfl⟩
instance : GoFn Try.prog 60 := ⟨_, Try.func60, by kernel_rfl, by kernel_rfl⟩
instance : GoFn Try.prog 61 := ⟨_, Try.func61, by kernel_rfl, by kernel_rfl⟩
instance : GoFn Try.prog 62 := ⟨_, Try.func62, by kernel_rfl, by kernel_rfl⟩
instance : GoFn Try.prog 63 := ⟨_, Try.func63, by kernel_rfl, by kernel_rfl⟩
instance : GoFn Try.prog 64 := ⟨_, Try.func64, by kernel_rfl, by kernel_rfl⟩
instance : GoFn Try.prog 65 := ⟨_, Try.func65, by kernel_rfl, by kernel_rfl⟩
instance : GoFn Try.prog 66 := ⟨_, Try.func66, by kernel_rfl, by kernel_rfl⟩
instance : GoFn Try.prog 67 := ⟨_, Try.func67, by kernel_rfl, by kernel_rfl⟩
instance : GoFn Try.prog 68 := ⟨_, Try.func68, by kernel_rfl, by kernel_rfl⟩
instance : GoFn Try.prog 69 := ⟨_, Try.func69, by kernel_rfl, by kernel_rfl⟩
instance : GoFn Try.prog 70 := ⟨_, Try.func70, by kernel_rfl, by kernel_rfl⟩
instance : GoFn Try.prog 71 := ⟨_, Try.func71, by kernel_rfl, by kernel_rfl⟩
instance : GoFn Try.prog 72 := ⟨_, Try.func72, by kernel_rfl, by kernel_rfl⟩
instance : GoFn Try.prog 73 := ⟨_, Try.func73, by kernel_rfl, by kernel_rfl⟩
instance : GoFn Try.prog 74 := ⟨_, Try.func74, by kernel_rfl, by kernel_rfl⟩
instance : GoFn Try.prog 75 := ⟨_, Try.func75, by kernel_rfl, by kernel_rfl⟩
instance : GoFn Try.prog 76 := ⟨_, Try.func76, by kernel_rfl, by kernel_rfl⟩
instance : GoFn Try.prog 77 := ⟨_, Try.func77, by kernel_rfl, by kernel_rfl⟩
instance : GoFn Try.prog 78 := ⟨_, Try.func78, by kernel_rfl, by kernel_rfl⟩
instance : GoFn Try.prog 79 := ⟨_, Try.func79, by kernel_rfl, by kernel_rfl⟩
instance : GoFn Try.prog 80 := ⟨_, Try.func80, by kernel_rfl, by kernel_rfl⟩
instance : GoFn Try.prog 81 := ⟨_, Try.func81, by kernel_rfl, by kernel_rfl⟩
instance : GoFn Try.prog 82 := ⟨_, Try.func82, by kernel_rfl, by kernel_rfl⟩
instance : GoFn Try.prog 83 := ⟨_, Try.func83, by kernel_rfl, by kernel_rfl⟩
instance : GoFn Try.prog 84 := ⟨_, Try.func84, by kernel_rfl, by kernel_rfl⟩
instance : GoFn Try.prog 85 := ⟨_, Try.func85, by kernel_rfl, by kernel_rfl⟩
instance : GoFn Try.prog 86 := ⟨_, Try.func86, by kernel_rfl, by kernel_rfl⟩
instance : GoFn Try.prog 87 := ⟨_, Try.func87, by kernel_rfl, by kernel_rfl⟩
instance : GoFn Try.prog 88 := ⟨_, Try.func88, by kernel_rfl, by kernel_rfl⟩
instance : GoFn Try.prog 89 := ⟨_, Try.func89, by kernel_rfl, by kernel_rfl⟩
instance : GoFn Try.prog 90 := ⟨_, Try.func90, by kernel_rfl, by kernel_rfl⟩
instance : GoFn Try.prog 91 := ⟨_, Try.func91, by kernel_rfl, by kernel_rfl⟩
instance : GoFn Try.prog 92 := ⟨_, Try.func92, by kernel_rfl, by kernel_rfl⟩
end Go.Sp
