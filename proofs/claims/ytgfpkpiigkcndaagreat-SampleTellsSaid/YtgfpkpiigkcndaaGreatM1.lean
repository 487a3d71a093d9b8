
/-
  The types and functions of this program, as the frame's laws ask them.
-/
import Derived.Test.YtgfpkpiigkcndaaGreatFw
import Derived.Test.YtgfpkpiigkcndaaGreatProg
import Derived.KernelRfl
set_option linter.unusedVariables false
set_option linter.unusedSimpArgs false
set_option linter.deprecated false
namespace Go.Sp
open Go Go.Proofs
theorem tyOne {P : Program} {t : TypeId} {d : TypeDesc} {z : Value} {b : Nat} (hu : P.underlying t = some d) (hp : plainD d = true)
    (hi : (P.info? t).map (fun i => (i.zero, i.size, i.bytes)) = some (some z, 1, b)) (hz : z.cells = #[z]) : TyOne P t z := by
  obtain ⟨i, h1, h2⟩ := Option.map_eq_some_iff.1 hi
  simp only [Prod.mk.injEq] at h2
  exact ⟨⟨d, hu, hp⟩, ⟨i, h1, h2.2.1, h2.1⟩, hz⟩
theorem tyAgg {P : Program} {t : TypeId} {d : TypeDesc} {zs : Array Value} {n b : Nat} (hu : P.underlying t = some d) (hp : aggD d = true)
    (hi : (P.info? t).map (fun i => (i.zero, i.size, i.bytes)) = some (some (.agg zs), n, b)) : TyAgg P t n zs := by
  obtain ⟨i, h1, h2⟩ := Option.map_eq_some_iff.1 hi
  simp only [Prod.mk.injEq] at h2
  exact ⟨⟨d, hu, hp⟩, ⟨i, h1, h2.2.1, h2.1⟩⟩
theorem tinfo3 : (Tryz.prog.info? 3).map (fun i => (i.zero, i.size, i.bytes)) = some (some (.int .i64 0), 1, 8) := by kernel_rfl
instance : TyOne Tryz.prog 3 (.int .i64 0) := tyOne Tryz.underlying3 rfl tinfo3 rfl
theorem tinfo4 : (Tryz.prog.info? 4).map (fun i => (i.zero, i.size, i.bytes)) = some (some (.bool false), 1, 1) := by kernel_rfl
instance : TyOne Tryz.prog 4 (.bool false) := tyOne Tryz.underlying4 rfl tinfo4 rfl
theorem tinfo5 : (Tryz.prog.info? 5).map (fun i => (i.zero, i.size, i.bytes)) = some (some (.int .u8 0), 1, 1) := by kernel_rfl
instance : TyOne Tryz.prog 5 (.int .u8 0) := tyOne Tryz.underlying5 rfl tinfo5 rfl
theorem tinfo22 : (Tryz.prog.info? 22).map (fun i => (i.zero, i.size, i.bytes)) = some (some (.slice none 0 0), 1, 24) := by kernel_rfl
instance : TyOne Tryz.prog 22 (.slice none 0 0) := tyOne Tryz.underlying22 rfl tinfo22 rfl
theorem tinfo23 : (Tryz.prog.info? 23).map (fun i => (i.zero, i.size, i.bytes)) = some (some (.slice none 0 0), 1, 24) := by kernel_rfl
instance : TyOne Tryz.prog 23 (.slice none 0 0) := tyOne Tryz.underlying23 rfl tinfo23 rfl
theorem tinfo24 : (Tryz.prog.info? 24).map (fun i => (i.zero, i.size, i.bytes)) = some (some (.slice none 0 0), 1, 24) := by kernel_rfl
instance : TyOne Tryz.prog 24 (.slice none 0 0) := tyOne Tryz.underlying24 rfl tinfo24 rfl
theorem tinfo26 : (Tryz.prog.info? 26).map (fun i => (i.zero, i.size, i.bytes)) = some (some (.agg #[.int .i64 0, .int .i64 0, .int .i64 0, .int .i64 0, .slice none 0 0, .slice none 0 0, .slice none 0 0]), 7, 104) := by kernel_rfl
instance : TyAgg Tryz.prog 26 7 (#[.int .i64 0, .int .i64 0, .int .i64 0, .int .i64 0, .slice none 0 0, .slice none 0 0, .slice none 0 0]) := tyAgg Tryz.underlying26 rfl tinfo26
theorem tinfo29 : (Tryz.prog.info? 29).map (fun i => (i.zero, i.size, i.bytes)) = some (some (.slice none 0 0), 1, 24) := by kernel_rfl
instance : TyOne Tryz.prog 29 (.slice none 0 0) := tyOne Tryz.underlying29 rfl tinfo29 rfl
theorem tinfo33 : (Tryz.prog.info? 33).map (fun i => (i.zero, i.size, i.bytes)) = some (some (.slice none 0 0), 1, 24) := by kernel_rfl
instance : TyOne Tryz.prog 33 (.slice none 0 0) := tyOne Tryz.underlying33 rfl tinfo33 rfl
theorem tinfo34 : (Tryz.prog.info? 34).map (fun i => (i.zero, i.size, i.bytes)) = some (some (.slice none 0 0), 1, 24) := by kernel_rfl
instance : TyOne Tryz.prog 34 (.slice none 0 0) := tyOne Tryz.underlying34 rfl tinfo34 rfl
theorem tinfo36 : (Tryz.prog.info? 36).map (fun i => (i.zero, i.size, i.bytes)) = some (some (.agg #[.int .i64 0, .int .i64 0, .int .i64 0, .int .i64 0, .slice none 0 0, .slice none 0 0, .slice none 0 0]), 7, 104) := by kernel_rfl
instance : TyAgg Tryz.prog 36 7 (#[.int .i64 0, .int .i64 0, .int .i64 0, .int .i64 0, .slice none 0 0, .slice none 0 0, .slice none 0 0]) := tyAgg Tryz.underlying36 rfl tinfo36
theorem tinfo41 : (Tryz.prog.info? 41).map (fun i => (i.zero, i.size, i.bytes)) = some (some (.agg #[.bool false, .bool false, .bool false, .bool false]), 4, 4) := by kernel_rfl
instance : TyAgg Tryz.prog 41 4 (#[.bool false, .bool false, .bool false, .bool false]) := tyAgg Tryz.underlying41 rfl tinfo41
theorem tinfo44 : (Tryz.prog.info? 44).map (fun i => (i.zero, i.size, i.bytes)) = some (some (.agg #[.bool false, .bool false, .bool false, .bool false, .bool false, .bool false, .bool false, .bool false, .bool false, .bool false, .bool false, .bool false, .bool false, .bool false, .bool false, .bool false, .bool false, .bool false, .bool false, .bool false, .bool false, .bool false, .bool false, .bool false, .bool false, .bool false, .bool false, .bool false, .bool false, .bool false, .bool false, .bool false, .bool false, .bool false, .bool false, .bool false, .bool false, .bool false, .bool false, .bool false, .bool false, .bool false, .bool false, .bool false, .int .i64 0, .int .i64 0, .bool false]), 47, 72) := by kernel_rfl
instance : TyAgg Tryz.prog 44 47 (#[.bool false, .bool false, .bool false, .bool false, .bool false, .bool false, .bool false, .bool false, .bool false, .bool false, .bool false, .bool false, .bool false, .bool false, .bool false, .bool false, .bool false, .bool false, .bool false, .bool false, .bool false, .bool false, .bool false, .bool false, .bool false, .bool false, .bool false, .bool false, .bool false, .bool false, .bool false, .bool false, .bool false, .bool false, .bool false, .bool false, .bool false, .bool false, .bool false, .bool false, .bool false, .bool false, .bool false, .bool false, .int .i64 0, .int .i64 0, .bool false]) := tyAgg Tryz.underlying44 rfl tinfo44
theorem tinfo58 : (Tryz.prog.info? 58).map (fun i => (i.zero, i.size, i.bytes)) = some (some (.slice none 0 0), 1, 24) := by kernel_rfl
instance : TyOne Tryz.prog 58 (.slice none 0 0) := tyOne Tryz.underlying58 rfl tinfo58 rfl
theorem tinfo60 : (Tryz.prog.info? 60).map (fun i => (i.zero, i.size, i.bytes)) = some (some (.agg #[.slice none 0 0, .slice none 0 0]), 2, 48) := by kernel_rfl
instance : TyAgg Tryz.prog 60 2 (#[.slice none 0 0, .slice none 0 0]) := tyAgg Tryz.underlying60 rfl tinfo60
theorem tinfo65 : (Tryz.prog.info? 65).map (fun i => (i.zero, i.size, i.bytes)) = some (some (.agg #[.int .i64 0, .int .i64 0, .bool false]), 3, 24) := by kernel_rfl
instance : TyAgg Tryz.prog 65 3 (#[.int .i64 0, .int .i64 0, .bool false]) := tyAgg Tryz.underlying65 rfl tinfo65
theorem tinfo75 : (Tryz.prog.info? 75).map (fun i => (i.zero, i.size, i.bytes)) = some (some (.agg #[.int .i64 0, .int .i64 0]), 2, 16) := by kernel_rfl
instance : TyAgg Tryz.prog 75 2 (#[.int .i64 0, .int .i64 0]) := tyAgg Tryz.underlying75 rfl tinfo75
theorem tinfo77 : (Tryz.prog.info? 77).map (fun i => (i.zero, i.size, i.bytes)) = some (some (.agg #[.int .i64 0, .int .i64 0, .int .i64 0, .int .i64 0, .int .i64 0]), 5, 40) := by kernel_rfl
instance : TyAgg Tryz.prog 77 5 (#[.int .i64 0, .int .i64 0, .int .i64 0, .int .i64 0, .int .i64 0]) := tyAgg Tryz.underlying77 rfl tinfo77
theorem tinfo83 : (Tryz.prog.info? 83).map (fun i => (i.zero, i.size, i.bytes)) = some (some (.agg #[.slice none 0 0, .slice none 0 0]), 2, 48) := by kernel_rfl
instance : TyAgg Tryz.prog 83 2 (#[.slice none 0 0, .slice none 0 0]) := tyAgg Tryz.underlying83 rfl tinfo83
theorem tinfo89 : (Tryz.prog.info? 89).map (fun i => (i.zero, i.size, i.bytes)) = some (some (.agg #[.int .i64 0, .int .i64 0, .bool false]), 3, 24) := by kernel_rfl
instance : TyAgg Tryz.prog 89 3 (#[.int .i64 0, .int .i64 0, .bool false]) := tyAgg Tryz.underlying89 rfl tinfo89
theorem tinfo90 : (Tryz.prog.info? 90).map (fun i => (i.zero, i.size, i.bytes)) = some (some (.agg #[.int .i64 0, .int .i64 0]), 2, 16) := by kernel_rfl
instance : TyAgg Tryz.prog 90 2 (#[.int .i64 0, .int .i64 0]) := tyAgg Tryz.underlying90 rfl tinfo90
theorem tinfo92 : (Tryz.prog.info? 92).map (fun i => (i.zero, i.size, i.bytes)) = some (some (.agg #[.int .i64 0, .int .i64 0, .int .i64 0, .int .i64 0, .int .i64 0]), 5, 40) := by kernel_rfl
instance : TyAgg Tryz.prog 92 5 (#[.int .i64 0, .int .i64 0, .int .i64 0, .int .i64 0, .int .i64 0]) := tyAgg Tryz.underlying92 rfl tinfo92
theorem tinfo98 : (Tryz.prog.info? 98).map (fun i => (i.zero, i.size, i.bytes)) = some (some (.nilFunc), 1, 8) := by kernel_rfl
instance : TyOne Tryz.prog 98 (.nilFunc) := tyOne Tryz.underlying98 rfl tinfo98 rfl
theorem tinfo101 : (Tryz.prog.info? 101).map (fun i => (i.zero, i.size, i.bytes)) = some (some (.agg #[.bool false, .bool false, .bool false, .bool false, .bool false, .bool false, .bool false, .bool false, .bool false, .bool false, .bool false, .bool false, .bool false, .bool false, .bool false, .bool false, .bool false, .bool false, .bool false, .bool false, .bool false, .bool false, .bool false, .bool false, .bool false, .bool false, .bool false, .bool false, .bool false, .bool false, .bool false, .bool false, .bool false, .bool false, .bool false, .bool false, .bool false, .bool false, .bool false, .bool false, .bool false, .bool false, .bool false, .bool false, .int .i64 0, .bool false]), 46, 64) := by kernel_rfl
instance : TyAgg Tryz.prog 101 46 (#[.bool false, .bool false, .bool false, .bool false, .bool false, .bool false, .bool false, .bool false, .bool false, .bool false, .bool false, .bool false, .bool false, .bool false, .bool false, .bool false, .bool false, .bool false, .bool false, .bool false, .bool false, .bool false, .bool false, .bool false, .bool false, .bool false, .bool false, .bool false, .bool false, .bool false, .bool false, .bool false, .bool false, .bool false, .bool false, .bool false, .bool false, .bool false, .bool false, .bool false, .bool false, .bool false, .bool false, .bool false, .int .i64 0, .bool false]) := tyAgg Tryz.underlying101 rfl tinfo101
theorem tinfo108 : (Tryz.prog.info? 108).map (fun i => (i.zero, i.size, i.bytes)) = some (some (.agg #[.slice none 0 0, .slice none 0 0, .slice none 0 0]), 3, 72) := by kernel_rfl
instance : TyAgg Tryz.prog 108 3 (#[.slice none 0 0, .slice none 0 0, .slice none 0 0]) := tyAgg Tryz.underlying108 rfl tinfo108
theorem tinfo115 : (Tryz.prog.info? 115).map (fun i => (i.zero, i.size, i.bytes)) = some (some (.agg #[.int .i64 0, .int .i64 0, .int .i64 0]), 3, 24) := by kernel_rfl
instance : TyAgg Tryz.prog 115 3 (#[.int .i64 0, .int .i64 0, .int .i64 0]) := tyAgg Tryz.underlying115 rfl tinfo115
theorem tinfo117 : (Tryz.prog.info? 117).map (fun i => (i.zero, i.size, i.bytes)) = some (some (.agg (List.replicate 30 (.int .i64 0)).toArray), 30, 240) := by kernel_rfl
instance : TyAgg Tryz.prog 117 30 ((List.replicate 30 (.int .i64 0)).toArray) := tyAgg Tryz.underlying117 rfl tinfo117
theorem tinfo124 : (Tryz.prog.info? 124).map (fun i => (i.zero, i.size, i.bytes)) = some (some (.agg #[.int .i64 0, .int .i64 0, .int .i64 0, .int .i64 0, .int .i64 0, .int .i64 0, .int .i64 0, .int .i64 0, .int .i64 0, .int .i64 0]), 10, 80) := by kernel_rfl
instance : TyAgg Tryz.prog 124 10 (#[.int .i64 0, .int .i64 0, .int .i64 0, .int .i64 0, .int .i64 0, .int .i64 0, .int .i64 0, .int .i64 0, .int .i64 0, .int .i64 0]) := tyAgg Tryz.underlying124 rfl tinfo124
theorem tinfo130 : (Tryz.prog.info? 130).map (fun i => (i.zero, i.size, i.bytes)) = some (some (.nilFunc), 1, 8) := by kernel_rfl
instance : TyOne Tryz.prog 130 (.nilFunc) := tyOne Tryz.underlying130 rfl tinfo130 rfl
theorem tinfo131 : (Tryz.prog.info? 131).map (fun i => (i.zero, i.size, i.bytes)) = some (some (.nilFunc), 1, 8) := by kernel_rfl
instance : TyOne Tryz.prog 131 (.nilFunc) := tyOne Tryz.underlying131 rfl tinfo131 rfl
theorem tinfo136 : (Tryz.prog.info? 136).map (fun i => (i.zero, i.size, i.bytes)) = some (some (.nilFunc), 1, 8) := by kernel_rfl
instance : TyOne Tryz.prog 136 (.nilFunc) := tyOne Tryz.underlying136 rfl tinfo136 rfl
theorem tinfo139 : (Tryz.prog.info? 139).map (fun i => (i.zero, i.size, i.bytes)) = some (some (.agg #[.bool false, .bool false]), 2, 2) := by kernel_rfl
instance : TyAgg Tryz.prog 139 2 (#[.bool false, .bool false]) := tyAgg Tryz.underlying139 rfl tinfo139
theorem tinfo142 : (Tryz.prog.info? 142).map (fun i => (i.zero, i.size, i.bytes)) = some (some (.nilFunc), 1, 8) := by kernel_rfl
instance : TyOne Tryz.prog 142 (.nilFunc) := tyOne Tryz.underlying142 rfl tinfo142 rfl
theorem tinfo143 : (Tryz.prog.info? 143).map (fun i => (i.zero, i.size, i.bytes)) = some (some (.nilFunc), 1, 8) := by kernel_rfl
instance : TyOne Tryz.prog 143 (.nilFunc) := tyOne Tryz.underlying143 rfl tinfo143 rfl
theorem tinfo145 : (Tryz.prog.info? 145).map (fun i => (i.zero, i.size, i.bytes)) = some (some (.agg #[.nilFunc, .bool false]), 2, 16) := by kernel_rfl
instance : TyAgg Tryz.prog 145 2 (#[.nilFunc, .bool false]) := tyAgg Tryz.underlying145 rfl tinfo145
theorem tinfo146 : (Tryz.prog.info? 146).map (fun i => (i.zero, i.size, i.bytes)) = some (some (.agg #[.nilFunc, .bool false, .nilFunc, .bool false, .nilFunc, .bool false, .nilFunc, .bool false]), 8, 64) := by kernel_rfl
instance : TyAgg Tryz.prog 146 8 (#[.nilFunc, .bool false, .nilFunc, .bool false, .nilFunc, .bool false, .nilFunc, .bool false]) := tyAgg Tryz.underlying146 rfl tinfo146
theorem tinfo149 : (Tryz.prog.info? 149).map (fun i => (i.zero, i.size, i.bytes)) = some (some (.agg #[.bool false, .bool false]), 2, 2) := by kernel_rfl
instance : TyAgg Tryz.prog 149 2 (#[.bool false, .bool false]) := tyAgg Tryz.underlying149 rfl tinfo149
theorem tinfo156 : (Tryz.prog.info? 156).map (fun i => (i.zero, i.size, i.bytes)) = some (some (.agg #[.bool false, .bool false, .bool false, .bool false, .bool false, .bool false, .bool false, .bool false, .bool false, .bool false]), 10, 10) := by kernel_rfl
instance : TyAgg Tryz.prog 156 10 (#[.bool false, .bool false, .bool false, .bool false, .bool false, .bool false, .bool false, .bool false, .bool false, .bool false]) := tyAgg Tryz.underlying156 rfl tinfo156
theorem tinfo158 : (Tryz.prog.info? 158).map (fun i => (i.zero, i.size, i.bytes)) = some (some (.map none), 1, 8) := by kernel_rfl
instance : TyOne Tryz.prog 158 (.map none) := tyOne Tryz.underlying158 rfl tinfo158 rfl
theorem tinfo160 : (Tryz.prog.info? 160).map (fun i => (i.zero, i.size, i.bytes)) = some (some (.agg #[.int .i64 0, .int .i64 0, .int .i64 0, .int .i64 0, .slice none 0 0, .slice none 0 0, .slice none 0 0, .int .i64 0, .int .i64 0, .int .i64 0, .int .i64 0, .int .i64 0, .int .i64 0, .int .i64 0, .int .i64 0, .int .i64 0, .int .i64 0, .int .i64 0, .map none]), 19, 200) := by kernel_rfl
instance : TyAgg Tryz.prog 160 19 (#[.int .i64 0, .int .i64 0, .int .i64 0, .int .i64 0, .slice none 0 0, .slice none 0 0, .slice none 0 0, .int .i64 0, .int .i64 0, .int .i64 0, .int .i64 0, .int .i64 0, .int .i64 0, .int .i64 0, .int .i64 0, .int .i64 0, .int .i64 0, .int .i64 0, .map none]) := tyAgg Tryz.underlying160 rfl tinfo160
theorem tinfo162 : (Tryz.prog.info? 162).map (fun i => (i.zero, i.size, i.bytes)) = some (some (.agg #[.int .i64 0, .bool false]), 2, 16) := by kernel_rfl
instance : TyAgg Tryz.prog 162 2 (#[.int .i64 0, .bool false]) := tyAgg Tryz.underlying162 rfl tinfo162
theorem tinfo179 : (Tryz.prog.info? 179).map (fun i => (i.zero, i.size, i.bytes)) = some (some (.nilFunc), 1, 8) := by kernel_rfl
instance : TyOne Tryz.prog 179 (.nilFunc) := tyOne Tryz.underlying179 rfl tinfo179 rfl
theorem tinfo186 : (Tryz.prog.info? 186).map (fun i => (i.zero, i.size, i.bytes)) = some (some (.agg #[.int .i64 0, .bool false, .int .i64 0]), 3, 24) := by kernel_rfl
instance : TyAgg Tryz.prog 186 3 (#[.int .i64 0, .bool false, .int .i64 0]) := tyAgg Tryz.underlying186 rfl tinfo186
theorem tinfo190 : (Tryz.prog.info? 190).map (fun i => (i.zero, i.size, i.bytes)) = some (some (.int .u64 0), 1, 8) := by kernel_rfl
instance : TyOne Tryz.prog 190 (.int .u64 0) := tyOne Tryz.underlying190 rfl tinfo190 rfl
instance : TyField Tryz.prog 26 0 0 := ⟨_, _, Tryz.underlying26, rfl, rfl, 0, by kernel_rfl⟩
instance : TyField Tryz.prog 26 1 1 := ⟨_, _, Tryz.underlying26, rfl, rfl, 0, by kernel_rfl⟩
instance : TyField Tryz.prog 26 2 2 := ⟨_, _, Tryz.underlying26, rfl, rfl, 0, by kernel_rfl⟩
instance : TyField Tryz.prog 26 3 3 := ⟨_, _, Tryz.underlying26, rfl, rfl, 0, by kernel_rfl⟩
instance : TyField Tryz.prog 26 4 4 := ⟨_, _, Tryz.underlying26, rfl, rfl, 0, by kernel_rfl⟩
instance : TyField Tryz.prog 26 5 5 := ⟨_, _, Tryz.underlying26, rfl, rfl, 0, by kernel_rfl⟩
instance : TyField Tryz.prog 26 6 6 := ⟨_, _, Tryz.underlying26, rfl, rfl, 0, by kernel_rfl⟩
instance : TyField Tryz.prog 36 0 0 := ⟨_, _, Tryz.underlying36, rfl, rfl, 0, by kernel_rfl⟩
instance : TyField Tryz.prog 36 1 1 := ⟨_, _, Tryz.underlying36, rfl, rfl, 0, by kernel_rfl⟩
instance : TyField Tryz.prog 36 2 2 := ⟨_, _, Tryz.underlying36, rfl, rfl, 0, by kernel_rfl⟩
instance : TyField Tryz.prog 36 3 3 := ⟨_, _, Tryz.underlying36, rfl, rfl, 0, by kernel_rfl⟩
instance : TyField Tryz.prog 36 4 4 := ⟨_, _, Tryz.underlying36, rfl, rfl, 0, by kernel_rfl⟩
instance : TyField Tryz.prog 36 5 5 := ⟨_, _, Tryz.underlying36, rfl, rfl, 0, by kernel_rfl⟩
instance : TyField Tryz.prog 36 6 6 := ⟨_, _, Tryz.underlying36, rfl, rfl, 0, by kernel_rfl⟩
instance : TyField Tryz.prog 44 0 0 := ⟨_, _, Tryz.underlying44, rfl, rfl, 39, by kernel_rfl⟩
instance : TyField Tryz.prog 44 1 40 := ⟨_, _, Tryz.underlying44, rfl, rfl, 3, by kernel_rfl⟩
instance : TyField Tryz.prog 44 2 44 := ⟨_, _, Tryz.underlying44, rfl, rfl, 0, by kernel_rfl⟩
instance : TyField Tryz.prog 44 3 45 := ⟨_, _, Tryz.underlying44, rfl, rfl, 0, by kernel_rfl⟩
instance : TyField Tryz.prog 44 4 46 := ⟨_, _, Tryz.underlying44, rfl, rfl, 0, by kernel_rfl⟩
instance : TyField Tryz.prog 60 0 0 := ⟨_, _, Tryz.underlying60, rfl, rfl, 0, by kernel_rfl⟩
instance : TyField Tryz.prog 60 1 1 := ⟨_, _, Tryz.underlying60, rfl, rfl, 0, by kernel_rfl⟩
instance : TyField Tryz.prog 65 0 0 := ⟨_, _, Tryz.underlying65, rfl, rfl, 0, by kernel_rfl⟩
instance : TyField Tryz.prog 65 1 1 := ⟨_, _, Tryz.underlying65, rfl, rfl, 0, by kernel_rfl⟩
instance : TyField Tryz.prog 65 2 2 := ⟨_, _, Tryz.underlying65, rfl, rfl, 0, by kernel_rfl⟩
instance : TyField Tryz.prog 75 0 0 := ⟨_, _, Tryz.underlying75, rfl, rfl, 0, by kernel_rfl⟩
instance : TyField Tryz.prog 75 1 1 := ⟨_, _, Tryz.underlying75, rfl, rfl, 0, by kernel_rfl⟩
instance : TyField Tryz.prog 77 0 0 := ⟨_, _, Tryz.underlying77, rfl, rfl, 0, by kernel_rfl⟩
instance : TyField Tryz.prog 77 1 1 := ⟨_, _, Tryz.underlying77, rfl, rfl, 0, by kernel_rfl⟩
instance : TyField Tryz.prog 77 2 2 := ⟨_, _, Tryz.underlying77, rfl, rfl, 0, by kernel_rfl⟩
instance : TyField Tryz.prog 77 3 3 := ⟨_, _, Tryz.underlying77, rfl, rfl, 1, by kernel_rfl⟩
instance : TyField Tryz.prog 83 0 0 := ⟨_, _, Tryz.underlying83, rfl, rfl, 0, by kernel_rfl⟩
instance : TyField Tryz.prog 83 1 1 := ⟨_, _, Tryz.underlying83, rfl, rfl, 0, by kernel_rfl⟩
instance : TyField Tryz.prog 89 0 0 := ⟨_, _, Tryz.underlying89, rfl, rfl, 0, by kernel_rfl⟩
instance : TyField Tryz.prog 89 1 1 := ⟨_, _, Tryz.underlying89, rfl, rfl, 0, by kernel_rfl⟩
instance : TyField Tryz.prog 89 2 2 := ⟨_, _, Tryz.underlying89, rfl, rfl, 0, by kernel_rfl⟩
instance : TyField Tryz.prog 90 0 0 := ⟨_, _, Tryz.underlying90, rfl, rfl, 0, by kernel_rfl⟩
instance : TyField Tryz.prog 90 1 1 := ⟨_, _, Tryz.underlying90, rfl, rfl, 0, by kernel_rfl⟩
instance : TyField Tryz.prog 92 0 0 := ⟨_, _, Tryz.underlying92, rfl, rfl, 0, by kernel_rfl⟩
instance : TyField Tryz.prog 92 1 1 := ⟨_, _, Tryz.underlying92, rfl, rfl, 0, by kernel_rfl⟩
instance : TyField Tryz.prog 92 2 2 := ⟨_, _, Tryz.underlying92, rfl, rfl, 0, by kernel_rfl⟩
instance : TyField Tryz.prog 92 3 3 := ⟨_, _, Tryz.underlying92, rfl, rfl, 1, by kernel_rfl⟩
instance : TyField Tryz.prog 101 0 0 := ⟨_, _, Tryz.underlying101, rfl, rfl, 39, by kernel_rfl⟩
instance : TyField Tryz.prog 101 1 40 := ⟨_, _, Tryz.underlying101, rfl, rfl, 3, by kernel_rfl⟩
instance : TyField Tryz.prog 101 2 44 := ⟨_, _, Tryz.underlying101, rfl, rfl, 0, by kernel_rfl⟩
instance : TyField Tryz.prog 101 3 45 := ⟨_, _, Tryz.underlying101, rfl, rfl, 0, by kernel_rfl⟩
instance : TyField Tryz.prog 108 0 0 := ⟨_, _, Tryz.underlying108, rfl, rfl, 0, by kernel_rfl⟩
instance : TyField Tryz.prog 108 1 1 := ⟨_, _, Tryz.underlying108, rfl, rfl, 0, by kernel_rfl⟩
instance : TyField Tryz.prog 108 2 2 := ⟨_, _, Tryz.underlying108, rfl, rfl, 0, by kernel_rfl⟩
instance : TyField Tryz.prog 145 0 0 := ⟨_, _, Tryz.underlying145, rfl, rfl, 0, by kernel_rfl⟩
instance : TyField Tryz.prog 145 1 1 := ⟨_, _, Tryz.underlying145, rfl, rfl, 0, by kernel_rfl⟩
instance : TyField Tryz.prog 149 0 0 := ⟨_, _, Tryz.underlying149, rfl, rfl, 0, by kernel_rfl⟩
instance : TyField Tryz.prog 149 1 1 := ⟨_, _, Tryz.underlying149, rfl, rfl, 0, by kernel_rfl⟩
instance : TyField Tryz.prog 160 0 0 := ⟨_, _, Tryz.underlying160, rfl, rfl, 6, by kernel_rfl⟩
instance : TyField Tryz.prog 160 1 7 := ⟨_, _, Tryz.underlying160, rfl, rfl, 0, by kernel_rfl⟩
instance : TyField Tryz.prog 160 2 8 := ⟨_, _, Tryz.underlying160, rfl, rfl, 9, by kernel_rfl⟩
instance : TyField Tryz.prog 160 3 18 := ⟨_, _, Tryz.underlying160, rfl, rfl, 0, by kernel_rfl⟩
instance : TyField Tryz.prog 162 0 0 := ⟨_, _, Tryz.underlying162, rfl, rfl, 0, by kernel_rfl⟩
instance : TyField Tryz.prog 162 1 1 := ⟨_, _, Tryz.underlying162, rfl, rfl, 0, by kernel_rfl⟩
instance : TyField Tryz.prog 186 0 0 := ⟨_, _, Tryz.underlying186, rfl, rfl, 1, by kernel_rfl⟩
instance : TyField Tryz.prog 186 1 2 := ⟨_, _, Tryz.underlying186, rfl, rfl, 0, by kernel_rfl⟩
instance : TyPlaces Tryz.prog 36 [(0, 1), (1, 1), (2, 1), (3, 1), (4, 1), (5, 1), (6, 1)] := ⟨_, Tryz.underlying36, places_run (by kernel_rfl)⟩
instance : TyPlaces Tryz.prog 65 [(0, 1), (1, 1), (2, 1)] := ⟨_, Tryz.underlying65, places_run (by kernel_rfl)⟩
instance : TyPlaces Tryz.prog 75 [(0, 1), (1, 1)] := ⟨_, Tryz.underlying75, places_run (by kernel_rfl)⟩
instance : TyPlaces Tryz.prog 77 [(0, 1), (1, 1), (2, 1), (3, 2)] := ⟨_, Tryz.underlying77, places_run (by kernel_rfl)⟩
instance : TyPlaces Tryz.prog 83 [(0, 1), (1, 1)] := ⟨_, Tryz.underlying83, places_run (by kernel_rfl)⟩
instance : TyPlaces Tryz.prog 89 [(0, 1), (1, 1), (2, 1)] := ⟨_, Tryz.underlying89, places_run (by kernel_rfl)⟩
instance : TyPlaces Tryz.prog 90 [(0, 1), (1, 1)] := ⟨_, Tryz.underlying90, places_run (by kernel_rfl)⟩
instance : TyPlaces Tryz.prog 92 [(0, 1), (1, 1), (2, 1), (3, 2)] := ⟨_, Tryz.underlying92, places_run (by kernel_rfl)⟩
instance : TyPlaces Tryz.prog 108 [(0, 1), (1, 1), (2, 1)] := ⟨_, Tryz.underlying108, places_run (by kernel_rfl)⟩
instance : TyPlaces Tryz.prog 145 [(0, 1), (1, 1)] := ⟨_, Tryz.underlying145, places_run (by kernel_rfl)⟩
instance : TyPlaces Tryz.prog 149 [(0, 1), (1, 1)] := ⟨_, Tryz.underlying149, places_run (by kernel_rfl)⟩
instance : TyPlaces Tryz.prog 160 [(0, 7), (7, 1), (8, 10), (18, 1)] := ⟨_, Tryz.underlying160, places_run (by kernel_rfl)⟩
instance : TyPlaces Tryz.prog 162 [(0, 1), (1, 1)] := ⟨_, Tryz.underlying162, places_run (by kernel_rfl)⟩
instance : TyPlaces Tryz.prog 186 [(0, 2), (2, 1)] := ⟨_, Tryz.underlying186, places_run (by kernel_rfl)⟩
instance : TyEqIB Tryz.prog 162 := tyEqIB Tryz.underlying162 (by kernel_rfl) (by kernel_rfl) (by kernel_rfl) (by kernel_rfl) rfl rfl Tryz.underlying3 Tryz.underlying4
instance : TyMapIB Tryz.prog 158 162 3 := tyMapIB Tryz.underlying158 inferInstance tinfo3
instance : TyBool Tryz.prog 4 := ⟨Tryz.underlying4⟩
instance : TyElem Tryz.prog 3 1 8 := tyElem tinfo3 rfl
instance : TyElem Tryz.prog 4 1 1 := tyElem tinfo4 rfl
instance : TyElem Tryz.prog 5 1 1 := tyElem tinfo5 rfl
instance : TyElem Tryz.prog 22 1 24 := tyElem tinfo22 rfl
instance : TyElem Tryz.prog 29 1 24 := tyElem tinfo29 rfl
instance : TyElem Tryz.prog 65 3 24 := tyElem tinfo65 rfl
instance : TyElem Tryz.prog 77 5 40 := tyElem tinfo77 rfl
instance : TyElem Tryz.prog 89 3 24 := tyElem tinfo89 rfl
instance : TyElem Tryz.prog 92 5 40 := tyElem tinfo92 rfl
instance : TyElem Tryz.prog 101 46 64 := tyElem tinfo101 rfl
instance : TyElem Tryz.prog 108 3 72 := tyElem tinfo108 rfl
instance : TyElem Tryz.prog 162 2 16 := tyElem tinfo162 rfl
instance : TyElem Tryz.prog 186 3 24 := tyElem tinfo186 rfl
instance : TySlice Tryz.prog 22 4 1 := ⟨Tryz.underlying22, by kernel_rfl⟩
instance : TySlice Tryz.prog 23 77 5 := ⟨Tryz.underlying23, by kernel_rfl⟩
instance : TySlice Tryz.prog 24 65 3 := ⟨Tryz.underlying24, by kernel_rfl⟩
instance : TySlice Tryz.prog 29 3 1 := ⟨Tryz.underlying29, by kernel_rfl⟩
instance : TySlice Tryz.prog 33 92 5 := ⟨Tryz.underlying33, by kernel_rfl⟩
instance : TySlice Tryz.prog 34 89 3 := ⟨Tryz.underlying34, by kernel_rfl⟩
instance : TySlice Tryz.prog 56 5 1 := ⟨Tryz.underlying56, by kernel_rfl⟩
instance : TySlice Tryz.prog 58 29 1 := ⟨Tryz.underlying58, by kernel_rfl⟩
instance : TySlice Tryz.prog 67 22 1 := ⟨Tryz.underlying67, by kernel_rfl⟩
instance : TySlice Tryz.prog 95 101 46 := ⟨Tryz.underlying95, by kernel_rfl⟩
instance : TySlice Tryz.prog 105 108 3 := ⟨Tryz.underlying105, by kernel_rfl⟩
instance : TySlice Tryz.prog 183 186 3 := ⟨Tryz.underlying183, by kernel_rfl⟩
instance : TySlice Tryz.prog 188 162 2 := ⟨Tryz.underlying188, by kernel_rfl⟩
instance : TyArr Tryz.prog 41 4 4 1 := ⟨Tryz.underlying41, by kernel_rfl⟩
instance : TyArrB Tryz.prog 41 4 := ⟨⟨4, Tryz.underlying41, Tryz.underlying4, by kernel_rfl⟩, by kernel_rfl⟩
instance : TyArr Tryz.prog 42 10 41 4 := ⟨Tryz.underlying42, by kernel_rfl⟩
instance : TyArr Tryz.prog 115 3 3 1 := ⟨Tryz.underlying115, by kernel_rfl⟩
instance : TyArr Tryz.prog 116 10 3 1 := ⟨Tryz.underlying116, by kernel_rfl⟩
instance : TyArr Tryz.prog 117 3 116 10 := ⟨Tryz.underlying117, by kernel_rfl⟩
instance : TyArr Tryz.prog 124 10 3 1 := ⟨Tryz.underlying124, by kernel_rfl⟩
instance : TyArr Tryz.prog 139 2 4 1 := ⟨Tryz.underlying139, by kernel_rfl⟩
instance : TyArrB Tryz.prog 139 2 := ⟨⟨4, Tryz.underlying139, Tryz.underlying4, by kernel_rfl⟩, by kernel_rfl⟩
instance : TyArr Tryz.prog 146 4 145 2 := ⟨Tryz.underlying146, by kernel_rfl⟩
instance : TyArr Tryz.prog 156 10 4 1 := ⟨Tryz.underlying156, by kernel_rfl⟩
instance : TyArrB Tryz.prog 156 10 := ⟨⟨4, Tryz.underlying156, Tryz.underlying4, by kernel_rfl⟩, by kernel_rfl⟩
instance : TyArrI Tryz.prog 115 3 := ⟨⟨3, Tryz.underlying115, Tryz.underlying3, by kernel_rfl⟩, by kernel_rfl⟩
instance : TyArr3 Tryz.prog 115 := ⟨⟨3, Tryz.underlying115, Tryz.underlying3, by kernel_rfl⟩, by kernel_rfl⟩
instance : TyArrI Tryz.prog 116 10 := ⟨⟨3, Tryz.underlying116, Tryz.underlying3, by kernel_rfl⟩, by kernel_rfl⟩
instance : TyArrI Tryz.prog 124 10 := ⟨⟨3, Tryz.underlying124, Tryz.underlying3, by kernel_rfl⟩, by kernel_rfl⟩
instance : TyInt Tryz.prog 3 .i64 := ⟨Tryz.underlying3⟩
instance : TyInt Tryz.prog 5 .u8 := ⟨Tryz.underlying5⟩
instance : TyInt Tryz.prog 30 .i64 := ⟨Tryz.underlying30⟩
instance : TyInt Tryz.prog 57 .u16 := ⟨Tryz.underlying57⟩
instance : TyInt Tryz.prog 114 .u64 := ⟨Tryz.underlying114⟩
instance : TyInt Tryz.prog 165 .i64 := ⟨Tryz.underlying165⟩
instance : TyInt Tryz.prog 173 .u32 := ⟨Tryz.underlying173⟩
instance : TyInt Tryz.prog 175 .u64 := ⟨Tryz.underlying175⟩
instance : TyInt Tryz.prog 190 .u64 := ⟨Tryz.underlying190⟩
instance : GoFn Tryz.prog 3 := ⟨_, Tryz.func3, by kernel_rfl, by kernel_rfl⟩
instance : GoFn Tryz.prog 4 := ⟨_, Tryz.func4, by kernel_rfl, by kernel_rfl⟩
instance : GoFn Tryz.prog 5 := ⟨_, Tryz.func5, by kernel_rfl, by kernel_rfl⟩
instance : GoFn Tryz.prog 6 := ⟨_, Tryz.func6, by kernel_rfl, by kernel_rfl⟩
instance : GoFn Tryz.prog 7 := ⟨_, Tryz.func7, by kernel_rfl, by kernel_rfl⟩
instance : GoFn Tryz.prog 8 := ⟨_, Tryz.func8, by kernel_rfl, by kernel_rfl⟩
instance : GoFn Tryz.prog 9 := ⟨_, Tryz.func9, by kernel_rfl, by kernel_rfl⟩
instance : GoFn Tryz.prog 10 := ⟨_, Tryz.func10, by kernel_rfl, by kernel_rfl⟩
instance : GoFn Tryz.prog 11 := ⟨_, Tryz.func11, by kernel_rfl, by kernel_rfl⟩
instance : GoFn Tryz.prog 12 := ⟨_, Tryz.func12, by kernel_rfl, by kernel_rfl⟩
instance : GoFn Tryz.prog 13 := ⟨_, Tryz.func13, by kernel_rfl, by kernel_rfl⟩
instance : GoFn Tryz.prog 14 := ⟨_, Tryz.func14, by kernel_rfl, by kernel_rfl⟩
instance : GoFn Tryz.prog 15 := ⟨_, Tryz.func15, by kernel_rfl, by kernel_rfl⟩
instance : GoFn Tryz.prog 16 := ⟨_, Tryz.func16, by kernel_rfl, by kernel_rfl⟩
instance : GoFn Tryz.prog 17 := ⟨_, Tryz.func17, by kernel_rfl, by kernel_rfl⟩
instance : GoFn Tryz.prog 18 := ⟨_, Tryz.func18, by kernel_rfl, by kernel_rfl⟩
instance : GoFn Tryz.prog 19 := ⟨_, Tryz.func19, by kernel_rfl, by kernel_rfl⟩
instance : GoFn Tryz.prog 20 := ⟨_, Tryz.func20, by kernel_rfl, by kernel_rfl⟩
instance : GoFn Tryz.prog 21 := ⟨_, Tryz.func21, by kernel_rfl, by kernel_rfl⟩
instance : GoFn Tryz.prog 22 := ⟨_, Tryz.func22, by kernel_rfl, by kernel_rfl⟩
instance : GoFn Tryz.prog 23 := ⟨_, Tryz.func23, by kernel_rfl, by kernel_rfl⟩
instance : GoFn Tryz.prog 24 := ⟨_, Tryz.func24, by kernel_rfl, by kernel_rfl⟩
instance : GoFn Tryz.prog 25 := ⟨_, Tryz.func25, by kernel_rfl, by kernel_rfl⟩
instance : GoFn Tryz.prog 26 := ⟨_, Tryz.func26, by kernel_rfl, by kernel_rfl⟩
instance : GoFn Tryz.prog 27 := ⟨_, Tryz.func27, by kernel_rfl, by kernel_rfl⟩
instance : GoFn Tryz.prog 28 := ⟨_, Tryz.func28, by kernel_rfl, by kernel_rfl⟩
instance : GoFn Tryz.prog 29 := ⟨_, Tryz.func29, by kernel_rfl, by kernel_rfl⟩
instance : GoFn Tryz.prog 30 := ⟨_, Tryz.func30, by kernel_rfl, by kernel_rfl⟩
instance : GoFn Tryz.prog 31 := ⟨_, Tryz.func31, by kernel_rfl, by kernel_rfl⟩
instance : GoFn Tryz.prog 32 := ⟨_, Tryz.func32, by kernel_rfl, by kernel_rfl⟩
instance : GoFn Tryz.prog 33 := ⟨_, Tryz.func33, by kernel_rfl, by kernel_rfl⟩
instance : GoFn Tryz.prog 34 := ⟨_, Tryz.func34, by kernel_rfl, by kernel_rfl⟩
instance : GoFn Tryz.prog 35 := ⟨_, Tryz.func35, by kernel_rfl, by kernel_rfl⟩
instance : GoFn Tryz.prog 36 := ⟨_, Tryz.func36, by kernel_rfl, by kernel_rfl⟩
instance : GoFn Tryz.prog 37 := ⟨_, Tryz.func37, by kernel_rfl, by kernel_rfl⟩
instance : GoFn Tryz.prog 38 := ⟨_, Tryz.func38, by kernel_rfl, by kernel_rfl⟩
instance : GoFn Tryz.prog 39 := ⟨_, Tryz.func39, by kernel_rfl, by kernel_rfl⟩
instance : GoFn Tryz.prog 40 := ⟨_, Tryz.func40, by kernel_rfl, by kernel_rfl⟩
instance : GoFn Tryz.prog 41 := ⟨_, Tryz.func41, by kernel_rfl, by kernel_rfl⟩
instance : GoFn Tryz.prog 42 := ⟨_, Tryz.func42, by kernel_rfl, by kernel_rfl⟩
instance : GoFn Tryz.prog 43 := ⟨_, Tryz.func43, by kernel_rfl, by kernel_rfl⟩
instance : GoFn Tryz.prog 44 := ⟨_, Tryz.func44, by kernel_rfl, by kernel_rfl⟩
instance : GoFn Tryz.prog 45 := ⟨_, Tryz.func45, by kernel_rfl, by kernel_rfl⟩
instance : GoFn Tryz.prog 46 := ⟨_, Tryz.func46, by kernel_rfl, by kernel_rfl⟩
instance : GoFn Tryz.prog 47 := ⟨_, Tryz.func47, by kernel_rfl, by kernel_rfl⟩
instance : GoFn Tryz.prog 48 := ⟨_, Tryz.func48, by kernel_rfl, by kernel_rfl⟩
instance : GoFn Tryz.prog 49 := ⟨_, Tryz.func49, by kernel_rfl, by kernel_rfl⟩
instance : GoFn Tryz.prog 50 := ⟨_, Tryz.func50, by kernel_rfl, by kernel_rfl⟩
instance : GoFn Tryz.prog 51 := ⟨_, Tryz.func51, by kernel_rfl, by kernel_rfl⟩
instance : GoFn Tryz.prog 52 := ⟨_, Tryz.func52, by kernel_rfl, by kernel_rfl⟩
instance : GoFn Tryz.prog 53 := ⟨_, Tryz.func53, by kernel_rfl, by kernel_rfl⟩
instance : GoFn Tryz.prog 54 := ⟨_, Tryz.func54, by kernel_rfl, by kernel_rfl⟩
instance : GoFn Tryz.prog 55 := ⟨_, Tryz.func55, by kernel_rfl, by kernel_rfl⟩
instance : GoFn Tryz.prog 56 := ⟨_, Tryz.func56, by kernel_rfl, by kernel_rfl⟩
instance : GoFn Tryz.prog 57 := ⟨_, Tryz.func57, by kernel_rfl, by kernel_rfl⟩
instance : GoFn Tryz.prog 58 := ⟨_, Tryz.func58, by kernel_rfl, by kernel_rfl⟩
instance : GoFn Tryz.prog 59 := ⟨_, Tryz.func59, by kernel_rfl, by kernel_rfl⟩
instance : GoFn Tryz.prog 60 := ⟨_, Tryz.func60, by kernel_rfl, by kernel_rfl⟩
instance : GoFn Tryz.prog 61 := ⟨_, Tryz.func61, by kernel_rfl, by kernel_rfl⟩
instance : GoFn Tryz.prog 62 := ⟨_, Tryz.func62, by kernel_rfl, by kernel_rfl⟩
instance : GoFn Tryz.prog 63 := ⟨_, Tryz.func63, by kernel_rfl, by kernel_rfl⟩
instance : GoFn Tryz.prog 64 := ⟨_, Tryz.func64, by kernel_rfl, by kernel_rfl⟩
instance : GoFn Tryz.prog 65 := ⟨_, Tryz.func65, by kernel_rfl, by kernel_rfl⟩
instance : GoFn Tryz.prog 66 := ⟨_, Tryz.func66, by kernel_rfl, by kernel_rfl⟩
instance : GoFn Tryz.prog 67 := ⟨_, Tryz.func67, by kernel_rfl, by kernel_rfl⟩
instance : GoFn Tryz.prog 68 := ⟨_, Tryz.func68, by kernel_rfl, by kernel_rfl⟩
instance : GoFn Tryz.prog 69 := ⟨_, Tryz.func69, by kernel_rfl, by kernel_rfl⟩
instance : GoFn Tryz.prog 70 := ⟨_, Tryz.func70, by kernel_rfl, by kernel_rfl⟩
instance : GoFn Tryz.prog 71 := ⟨_, Tryz.func71, by kernel_rfl, by kernel_rfl⟩
instance : GoFn Tryz.prog 72 := ⟨_, Tryz.func72, by kernel_rfl, by kernel_rfl⟩
instance : GoFn Tryz.prog 73 := ⟨_, Tryz.func73, by kernel_rfl, by kernel_rfl⟩
instance : GoFn Tryz.prog 74 := ⟨_, Tryz.func74, by kernel_rfl, by kernel_rfl⟩
instance : GoFn Tryz.prog 75 := ⟨_, Tryz.func75, by kernel_rfl, by kernel_rfl⟩
instance : GoFn Tryz.prog 76 := ⟨_, Tryz.func76, by kernel_rfl, by kernel_rfl⟩
instance : GoFn Tryz.prog 77 := ⟨_, Tryz.func77, by kernel_rfl, by kernel_rfl⟩
instance : GoFn Tryz.prog 78 := ⟨_, Tryz.func78, by kernel_rfl, by kernel_rfl⟩
instance : GoFn Tryz.prog 79 := ⟨_, Tryz.func79, by kernel_rfl, by kernel_rfl⟩
instance : GoFn Tryz.prog 80 := ⟨_, Tryz.func80, by kernel_rfl, by kernel_rfl⟩
instance : GoFn Tryz.prog 81 := ⟨_, Tryz.func81, by kernel_rfl, by kernel_rfl⟩
instance : GoFn Tryz.prog 82 := ⟨_, Tryz.func82, by kernel_rfl, by kernel_rfl⟩
instance : GoFn Tryz.prog 83 := ⟨_, Tryz.func83, by kernel_rfl, by kernel_rfl⟩
instance : GoFn Tryz.prog 84 := ⟨_, Tryz.func84, by kernel_rfl, by kernel_rfl⟩
instance : GoFn Tryz.prog 85 := ⟨_, Tryz.func85, by kernel_rfl, by kernel_rfl⟩
instance : GoFn Tryz.prog 86 := ⟨_, Tryz.func86, by kernel_rfl, by kernel_rfl⟩
instance : GoFn Tryz.prog 87 := ⟨_, Tryz.func87, by kernel_rfl, by kernel_rfl⟩
instance : GoFn Tryz.prog 88 := ⟨_, Tryz.func88, by kernel_rfl, by kernel_rfl⟩
instance : GoFn Tryz.prog 89 := ⟨_, Tryz.func89, by kernel_rfl, by kernel_rfl⟩
instance : GoFn Tryz.prog 90 := ⟨_, Tryz.func90, by kernel_rfl, by kernel_rfl⟩
instance : GoFn Tryz.prog 91 := ⟨_, Tryz.func91, by kernel_rfl, by kernel_rfl⟩
instance : GoFn Tryz.prog 92 := ⟨_, Tryz.func92, by kernel_rfl, by kernel_rfl⟩
instance : GoFn Tryz.prog 93 := ⟨_, Tryz.func93, by kernel_rfl, by kernel_rfl⟩
instance : GoFn Tryz.prog 94 := ⟨_, Tryz.func94, by kernel_rfl, by kernel_rfl⟩
instance : GoFn Tryz.prog 95 := ⟨_, Tryz.func95, by kernel_rfl, by kernel_rfl⟩
instance : GoFn Tryz.prog 96 := ⟨_, Tryz.func96, by kernel_rfl, by kernel_rfl⟩
instance : GoFn Tryz.prog 97 := ⟨_, Tryz.func97, by kernel_rfl, by kernel_rfl⟩
instance : GoFn Tryz.prog 98 := ⟨_, Tryz.func98, by kernel_rfl, by kernel_rfl⟩
instance : GoFn Tryz.prog 99 := ⟨_, Tryz.func99, by kernel_rfl, by kernel_rfl⟩
instance : GoFn Tryz.prog 100 := ⟨_, Tryz.func100, by kernel_rfl, by kernel_rfl⟩
instance : GoFn Tryz.prog 101 := ⟨_, Tryz.func101, by kernel_rfl, by kernel_rfl⟩
instance : GoFn Tryz.prog 102 := ⟨_, Tryz.func102, by kernel_rfl, by kernel_rfl⟩
instance : GoFn Tryz.prog 103 := ⟨_, Tryz.func103, by kernel_rfl, by kernel_rfl⟩
instance : GoFn Tryz.prog 104 := ⟨_, Tryz.func104, by kernel_rfl, by kernel_rfl⟩
instance : GoFn Tryz.prog 105 := ⟨_, Tryz.func105, by kernel_rfl, by kernel_rfl⟩
instance : GoFn Tryz.prog 106 := ⟨_, Tryz.func106, by kernel_rfl, by kernel_rfl⟩
instance : GoFn Tryz.prog 107 := ⟨_, Tryz.func107, by kernel_rfl, by kernel_rfl⟩
instance : GoFn Tryz.prog 108 := ⟨_, Tryz.func108, by kernel_rfl, by kernel_rfl⟩
instance : GoFn Tryz.prog 109 := ⟨_, Tryz.func109, by kernel_rfl, by kernel_rfl⟩
instance : GoFn Tryz.prog 110 := ⟨_, Tryz.func110, by kernel_rfl, by kernel_rfl⟩
instance : GoFn Tryz.prog 111 := ⟨_, Tryz.func111, by kernel_rfl, by kernel_rfl⟩
instance : GoFn Tryz.prog 112 := ⟨_, Tryz.func112, by kernel_rfl, by kernel_rfl⟩
instance : GoFn Tryz.prog 113 := ⟨_, Tryz.func113, by kernel_rfl, by kernel_rfl⟩
instance : GoFn Tryz.prog 114 := ⟨_, Tryz.func114, by kernel_rfl, by kernel_rfl⟩
instance : GoFn Tryz.prog 115 := ⟨_, Tryz.func115, by kernel_rfl, by kernel_rfl⟩
instance : GoFn Tryz.prog 116 := ⟨_, Tryz.func116, by kernel_rfl, by kernel_rfl⟩
instance : GoFn Tryz.prog 117 := ⟨_, Tryz.func117, by kernel_rfl, by kernel_rfl⟩
instance : GoFn Tryz.prog 118 := ⟨_, Tryz.func118, by kernel_rfl, by kernel_rfl⟩
instance : GoFn Tryz.prog 119 := ⟨_, Tryz.func119, by kernel_rfl, by kernel_rfl⟩
instance : GoFn Tryz.prog 120 := ⟨_, Tryz.func120, by kernel_rfl, by kernel_rfl⟩
instance : GoFn Tryz.prog 121 := ⟨_, Tryz.func121, by kernel_rfl, by kernel_rfl⟩
instance : GoFn Tryz.prog 122 := ⟨_, Tryz.func122, by kernel_rfl, by kernel_rfl⟩
instance : GoFn Tryz.prog 123 := ⟨_, Tryz.func123, by kernel_rfl, by kernel_rfl⟩
instance : GoFn Tryz.prog 124 := ⟨_, Tryz.func124, by kernel_rfl, by kernel_rfl⟩
instance : GoFn Tryz.prog 125 := ⟨_, Tryz.func125, by kernel_rfl, by kernel_rfl⟩
instance : GoFn Tryz.prog 126 := ⟨_, Tryz.func126, by kernel_rfl, by kernel_rfl⟩
instance : GoFn Tryz.prog 127 := ⟨_, Tryz.func127, by kernel_rfl, by kernel_rfl⟩
instance : GoFn Tryz.prog 128 := ⟨_, Tryz.func128, by kernel_rfl, by kernel_rfl⟩
instance : GoFn Tryz.prog 129 := ⟨_, Tryz.func129, by kernel_rfl, by kernel_rfl⟩
instance : GoFn Tryz.prog 130 := ⟨_, Tryz.func130, by kernel_rfl, by kernel_rfl⟩
instance : GoFn Tryz.prog 131 := ⟨_, Tryz.func131, by kernel_rfl, by kernel_rfl⟩
instance : GoFn Tryz.prog 132 := ⟨_, Tryz.func132, by kernel_rfl, by kernel_rfl⟩
instance : GoFn Tryz.prog 133 := ⟨_, Tryz.func133, by kernel_rfl, by kernel_rfl⟩
instance : GoFn Tryz.prog 134 := ⟨_, Tryz.func134, by kernel_rfl, by kernel_rfl⟩
instance : GoFn Tryz.prog 135 := ⟨_, Tryz.func135, by kernel_rfl, by kernel_rfl⟩
instance : GoFn Tryz.prog 136 := ⟨_, Tryz.func136, by kernel_rfl, by kernel_rfl⟩
instance : GoFn Tryz.prog 137 := ⟨_, Tryz.func137, by kernel_rfl, by kernel_rfl⟩
instance : GoFn Tryz.prog 138 := ⟨_, Tryz.func138, by kernel_rfl, by kernel_rfl⟩
instance : GoFn Tryz.prog 139 := ⟨_, Tryz.func139, by kernel_rfl, by kernel_rfl⟩
instance : GoFn Tryz.prog 140 := ⟨_, Tryz.func140, by kernel_rfl, by kernel_rfl⟩
instance : GoFn Tryz.prog 141 := ⟨_, Tryz.func141, by kernel_rfl, by kernel_rfl⟩
instance : GoFn Tryz.prog 142 := ⟨_, Tryz.func142, by kernel_rfl, by kernel_rfl⟩
instance : GoFn Tryz.prog 143 := ⟨_, Tryz.func143, by kernel_rfl, by kernel_rfl⟩
instance : GoFn Tryz.prog 144 := ⟨_, Tryz.func144, by kernel_rfl, by kernel_rfl⟩
instance : GoFn Tryz.prog 145 := ⟨_, Tryz.func145, by kernel_rfl, by kernel_rfl⟩
instance : GoFn Tryz.prog 146 := ⟨_, Tryz.func146, by kernel_rfl, by kernel_rfl⟩
instance : GoFn Tryz.prog 147 := ⟨_, Tryz.func147, by kernel_rfl, by kernel_rfl⟩
instance : GoFn Tryz.prog 148 := ⟨_, Tryz.func148, by kernel_rfl, by kernel_rfl⟩
instance : GoFn Tryz.prog 149 := ⟨_, Tryz.func149, by kernel_rfl, by kernel_rfl⟩
instance : GoFn Tryz.prog 150 := ⟨_, Tryz.func150, by kernel_rfl, by kernel_rfl⟩
end Go.Sp
/-
  General lemmas, picked out of other parts by pick.py.
-/
namespace Go.Sp
open Go Go.Proofs
abbrev vi (n : Int) : Value := .int .i64 n
/-- A slice that reads as integers. -/
def RdI (w : World) (sl : Value) (xs : List Int) : Prop := Reads w sl 1 xs.length (xs.map vi)
theorem RdI.fr {w w' : World} {sl : Value} {xs : List Int} (h : RdI w sl xs) (f : Fr [] w w') : RdI w' sl xs := by
  obtain ⟨h1, ad, cap, h2, h3⟩ := h
  refine ⟨h1, ad, cap, h2, fun hn => ?_⟩
  obtain ⟨b, o, h4, h5⟩ := h3 hn
  refine ⟨b, o, h4, ?_⟩
  clear h1 h2 h3 h4 hn
  generalize xs.map vi = vs at h5
  generalize xs.length * 1 = n at h5
  induction h5 with
  | nil => exact .nil
  | cons hv _ ih => exact .cons (f.cell (p := ⟨b, _, none⟩) (by simp) hv) ih
theorem CA.get {f : Nat → Option Value} {o n : Nat} {vs : List Value} (h : CA f o n vs) : ∀ (i : Nat) (v : Value), vs[i]? = some v → f (o + i) = some v := by
  induction h with
  | nil => intro i v hv; simp at hv
  | @cons o n v vs hv _ ih =>
    intro i u hu
    cases i with
    | zero => simp at hu; subst hu; exact hv
    | succ i => have := ih i u (by simpa using hu); rw [← this]; congr 1; omega
/-- A slice of integers, laid open. -/
theorem RdI.open {w : World} {sl : Value} {xs : List Int} (h : RdI w sl xs) : ∃ ad cap b o, sl = .slice ad xs.length cap ∧ (0 < xs.length → ad = some ⟨b, o, none⟩) ∧ ∀ w', Fr [] w w' → ∀ i, i < xs.length → w'.cell? ⟨b, o + i, none⟩ = some (vi (xs.getD i 0)) := by
  by_cases hn : xs.length = 0
  · obtain ⟨_, ad, cap, h2, _⟩ := h
    exact ⟨ad, cap, 0, 0, h2, fun h => by omega, fun _ _ i hi => by omega⟩
  · have h' := h
    obtain ⟨_, ad, cap, h2, h3⟩ := h
    obtain ⟨b, o, h4, h5⟩ := h3 hn
    refine ⟨ad, cap, b, o, h2, fun _ => h4, fun w' f i hi => ?_⟩
    obtain ⟨_, ad', cap', h2', h3'⟩ := h'.fr f
    obtain ⟨b', o', h4', h5'⟩ := h3' hn
    have e : ad' = ad := by rw [h2] at h2'; injection h2' with e1 e2 e3; exact e1.symm
    rw [e, h4] at h4'
    injection h4' with e1
    injection e1 with e2 e3
    subst e2; subst e3
    refine h5'.get i _ ?_
    rw [List.getElem?_map, List.getElem?_eq_getElem hi, List.getD_eq_getElem?_getD, List.getElem?_eq_getElem hi]
    rfl
/-- The minimum of two. -/
theorem min_c (a b : Int) (sl : Value) (w : World) (hr : RdI w sl [a, b]) : CnV Tryz.prog 148 #[sl] w (vi (min a b)) := by
  obtain ⟨ad, cap, b0, o, rfl, had, hcell⟩ := hr.open
  have had' := had (by simp)
  refine cnv (vs := [_]) Tryz.func148 rfl rfl ?_
  all_goals refine tc_seq fun K1 hK1 => ?_
  all_goals refine tc_region ?_
  all_goals refine tl_q (y_assign rfl) rfl ?_
  all_goals refine tl_nil ?_
  all_goals (refine hK1 ?_; try (clear hK1; clear K1))
  all_goals refine tc_seq fun K2 hK2 => ?_
  all_goals refine tc_seq fun K3 hK3 => ?_
  have hl2 : ([a, b].length : Int) = 2 := rfl
  all_goals refine tc_region ?_
  all_goals refine tl_q (y_move rfl) rfl ?_
  all_goals refine tl_q (y_len rfl) rfl ?_
  all_goals refine tl_q (y_lss rfl rfl) rfl ?_
  all_goals refine tl_nil ?_
  all_goals (refine hK3 ?_; try (clear hK3; clear K3))
  all_goals (
   refine tc_cond rfl (fun hc => ?_) (fun hc => ?_)
   · try simp only [qn1, qn2, qn3, qn4, qn5, qn6, qn7, qn8] at hc
     all_goals first | (exfalso; with_reducible exact bft hc) | (exfalso; with_reducible exact btf hc) | (exfalso; omega) | skip
     all_goals (exfalso; first | omega | simp_all | contradiction)
   · try simp only [qn1, qn2, qn3, qn4, qn5, qn6, qn7, qn8] at hc
     all_goals first | (exfalso; with_reducible exact bft hc) | (exfalso; with_reducible exact btf hc) | (exfalso; omega) | skip
     all_goals refine tc_skip ?_
     all_goals (refine hK2 ?_; try (clear hK2; clear K2))
     all_goals refine tc_seq fun K4 hK4 => ?_
     all_goals refine tc_region ?_
     all_goals refine tl_q (y_move rfl) rfl ?_
     all_goals (first | refine tl_q (y_index rfl rfl (by omega) had') rfl ?_ | refine tl_q (y_index rfl rfl (by omega) rfl) rfl ?_ | refine tl_q (y_indexA rfl rfl (by omega)) rfl ?_)
     all_goals (first | refine tl_q (y_load1 rfl (by repeat constructor) (by rfl)) rfl ?_ | refine tl_q (y_load1o rfl (fun w' hw' => hcell w' (hw'.fr (by simp)) _ (by decide))) rfl ?_ | refine tl_q (y_load1o rfl (fun w' hw' => hcell w' (hw'.fr (by simp)) _ (by omega))) rfl ?_)
     all_goals refine tl_q (y_assign rfl) rfl ?_
     all_goals refine tl_nil ?_
     all_goals (refine hK4 ?_; try (clear hK4; clear K4))
     all_goals refine tc_seq fun K5 hK5 => ?_
     all_goals refine tc_seq fun K6 hK6 => ?_
     all_goals refine tc_region ?_
     all_goals refine tl_q (y_assign rfl) rfl ?_
     all_goals refine tl_nil ?_
     all_goals (refine hK6 ?_; try (clear hK6; clear K6))
     all_goals refine tc_block ?_
     all_goals (
      refine tc_loop (fun p : Int × Int => (p.1 = a ∧ p.2 = 1) ∨ (p.1 = min a b ∧ p.2 = 2)) (fun p => [(0, .slice ad [a, b].length cap), (3, vi p.1), (4, vi p.2)]) (fun _ => [(w, [])]) (fun _ => []) (fun p => (2 - p.2).toNat) ?_ ?_
      · exact tk_start (a, 1) (.inl ⟨rfl, rfl⟩) (.cons rfl (.cons rfl (.cons rfl .nil))) (fun _ h => h)
      · rintro ⟨m, i⟩ hI
        dsimp only at hI ⊢
        all_goals refine tc_seq fun K7 hK7 => ?_
        all_goals refine tc_seq fun K8 hK8 => ?_
        all_goals refine tc_region ?_
        all_goals refine tl_q (y_move rfl) rfl ?_
        all_goals refine tl_q (y_move rfl) rfl ?_
        all_goals refine tl_q (y_len rfl) rfl ?_
        all_goals refine tl_q (y_lss rfl rfl) rfl ?_
        all_goals refine tl_nil ?_
        all_goals (refine hK8 ?_; try (clear hK8; clear K8))
        all_goals (
         refine tc_cond rfl (fun hc => ?_) (fun hc => ?_)
         · try simp only [qn1, qn2, qn3, qn4, qn5, qn6, qn7, qn8] at hc
           all_goals first | (exfalso; with_reducible exact bft hc) | (exfalso; with_reducible exact btf hc) | (exfalso; omega) | skip
           all_goals refine tc_skip ?_
           all_goals (refine hK7 ?_; try (clear hK7; clear K7))
           all_goals refine tc_seq fun K9 hK9 => ?_
           all_goals refine tc_block ?_
           all_goals refine tc_region ?_
           all_goals refine tl_q (y_move rfl) rfl ?_
           all_goals refine tl_q (y_move rfl) rfl ?_
           all_goals refine tl_q (y_move rfl) rfl ?_
           all_goals (first | refine tl_q (y_index rfl rfl (by omega) had') rfl ?_ | refine tl_q (y_index rfl rfl (by omega) rfl) rfl ?_ | refine tl_q (y_indexA rfl rfl (by omega)) rfl ?_)
           all_goals (first | refine tl_q (y_load1 rfl (by repeat constructor) (by rfl)) rfl ?_ | refine tl_q (y_load1o rfl (fun w' hw' => hcell w' (hw'.fr (by simp)) _ (by decide))) rfl ?_ | refine tl_q (y_load1o rfl (fun w' hw' => hcell w' (hw'.fr (by simp)) _ (by omega))) rfl ?_)
           all_goals refine tl_q (y_min rfl rfl) rfl ?_
           all_goals refine tl_q (y_assign rfl) rfl ?_
           all_goals refine tl_nil ?_
           all_goals (refine hK9 ?_; try (clear hK9; clear K9))
           all_goals refine tc_region ?_
           all_goals refine tl_q (y_move rfl) rfl ?_
           all_goals refine tl_q (y_add rfl rfl (by omega)) rfl ?_
           all_goals refine tl_q (y_assign rfl) rfl ?_
           all_goals refine tl_nil ?_
           all_goals (
            obtain ⟨rfl, rfl⟩ : m = a ∧ i = 1 := by omega
            exact tk_round (min m b, 2) (.inr ⟨rfl, rfl⟩) (by simp) (.cons rfl (.cons rfl (.cons rfl .nil))) (fun _ h => h))
         · try simp only [qn1, qn2, qn3, qn4, qn5, qn6, qn7, qn8] at hc
           all_goals first | (exfalso; with_reducible exact bft hc) | (exfalso; with_reducible exact btf hc) | (exfalso; omega) | skip
           all_goals refine tc_exit ?_
           all_goals (refine hK5 ?_; try (clear hK5; clear K5))
           all_goals refine tc_seq fun K10 hK10 => ?_
           all_goals refine tc_region ?_
           all_goals refine tl_q (y_move rfl) rfl ?_
           all_goals refine tl_q (y_assign rfl) rfl ?_
           all_goals refine tl_nil ?_
           all_goals (refine hK10 ?_; try (clear hK10; clear K10))
           all_goals refine tc_ret ?_
           all_goals (repeat (first | refine tk_then_ret ?_ | refine tk_block_ret ?_ | refine tk_scope_ret ?_))
           all_goals first | refine tk_ret rfl rfl (.cons (.tmp rfl) .nil) ?_ | refine tk_retM rfl (by repeat constructor) rfl (.cons (.tmp rfl) .nil) ?_
           all_goals (
            have hm : m = min a b := by omega
            exact fun w' hw' => ⟨by rw [hm]; rfl, hw'.fr (by simp)⟩))))
theorem RdI.own {bs : List (World × List Nat)} {H : List (Nat × Obj)} {w : World} {b : Nat} {xs : List Int} {e : TypeId} {f : Nat × Nat} {cap : Nat} {junk : List Value} (hw : HG bs H w) (hm : HM b (.cells (xs.map vi ++ junk).toArray e f) H) : RdI w (.slice (some ⟨b, 0, none⟩) xs.length cap) xs := by
  refine ⟨by simp, _, _, rfl, fun _ => ⟨b, 0, rfl, ?_⟩⟩
  have := CA_pre (xs.map vi) junk e f
  rw [List.length_map] at this
  rw [Nat.mul_one]
  exact this.cells (hw.heap _ hm.mem)
theorem RdI.own0 {bs : List (World × List Nat)} {H : List (Nat × Obj)} {w : World} {b : Nat} {xs : List Int} {e : TypeId} {f : Nat × Nat} {cap : Nat} (hw : HG bs H w) (hm : HM b (.cells (xs.map vi).toArray e f) H) : RdI w (.slice (some ⟨b, 0, none⟩) xs.length cap) xs :=
  RdI.own (junk := []) hw (by rw [List.append_nil]; exact hm)
def idxF (xs : List Int) (p : Int → Bool) : Int := if xs.any p then (xs.findIdx p : Int) else -1
theorem idxF_hit {xs : List Int} {p : Int → Bool} {k : Nat} (hk : k < xs.length) (hp : p (xs.getD k 0) = true) (hn : ∀ j, j < k → p (xs.getD j 0) = false) : idxF xs p = k := by
  rw [List.getD_eq_getElem?_getD, List.getElem?_eq_getElem hk] at hp
  simp only [Option.getD_some] at hp
  have h1 : xs.any p = true := List.any_eq_true.2 ⟨_, List.getElem_mem hk, hp⟩
  unfold idxF
  rw [if_pos h1]
  have : xs.findIdx p = k := by
    apply (List.findIdx_eq hk).2
    refine ⟨hp, fun j hj => ?_⟩
    have := hn j hj
    rw [List.getD_eq_getElem?_getD, List.getElem?_eq_getElem (Nat.lt_trans hj hk)] at this
    simpa using this
  rw [this]
theorem idxF_miss {xs : List Int} {p : Int → Bool} (hn : ∀ j, j < xs.length → p (xs.getD j 0) = false) : idxF xs p = -1 := by
  unfold idxF
  rw [if_neg]
  intro h
  obtain ⟨x, hx, hp⟩ := List.any_eq_true.1 h
  obtain ⟨j, hj, rfl⟩ := List.getElem_of_mem hx
  have := hn j hj
  rw [List.getD_eq_getElem?_getD, List.getElem?_eq_getElem hj] at this
  simp only [Option.getD_some] at this
  rw [this] at hp; cases hp
theorem idxF_any (xs : List Int) (p : Int → Bool) : decide (0 ≤ idxF xs p) = xs.any p := by
  unfold idxF
  cases h : xs.any p
  · simp
  · simp
abbrev ptr (b : Nat) : Value := .pointer (some ⟨b, 0, none⟩)
theorem RdI.frM {w w' : World} {sl : Value} {xs : List Int} {bm : Nat} {es : Array MapEntry} {ck : Nat} {S : List Nat} (h : RdI w sl xs) (f : Fr S w w') (hS : ∀ x ∈ S, ∃ es ck, w.heap[x]? = some (.map es ck)) : RdI w' sl xs := by
  obtain ⟨h1, ad, cap, h2, h3⟩ := h
  refine ⟨h1, ad, cap, h2, fun hn => ?_⟩
  obtain ⟨b, o, h4, h5⟩ := h3 hn
  refine ⟨b, o, h4, ?_⟩
  clear h1 h2 h3 h4 hn
  generalize xs.map vi = vs at h5
  generalize xs.length * 1 = n at h5
  induction h5 with
  | nil => exact .nil
  | @cons o n v vs hv _ ih =>
    refine .cons (f.cell (p := ⟨b, o, none⟩) (fun hb => ?_) hv) ih
    obtain ⟨es, ck, he⟩ := hS b hb
    simp [World.cell?, he] at hv
theorem RdI.one {w : World} {sl : Value} {xs : List Int} (h : RdI w sl xs) : sl.oneCell' = true := by obtain ⟨_, ad, cap, rfl, _⟩ := h; rfl
def flatR (l : List (Int × Int)) : List Value := l.flatMap fun r => [vi r.1, vi r.2]
/-- A slice that reads as readings. -/
def RdR (w : World) (v : Value) (l : List (Int × Int)) : Prop := Reads w v 2 l.length (flatR l)
theorem Reads.frS {w w' : World} {v : Value} {sz n : Nat} {vs : List Value} {S : List Nat} (h : Reads w v sz n vs) (f : Fr S w w') (hS : ∀ p m c, v = .slice (some p) m c → p.block ∉ S) : Reads w' v sz n vs := by
  obtain ⟨h1, ad, cap, h2, h3⟩ := h
  refine ⟨h1, ad, cap, h2, fun hn => ?_⟩
  obtain ⟨b, o, h4, h5⟩ := h3 hn
  refine ⟨b, o, h4, ?_⟩
  have hb : b ∉ S := hS ⟨b, o, none⟩ n cap (by rw [h2, h4])
  clear h1 h2 h3 h4 hn
  generalize n * sz = q at h5
  induction h5 with
  | nil => exact .nil
  | cons hv _ ih => exact .cons (f.cell (p := ⟨b, _, none⟩) hb hv) ih
theorem RdR.fr {w w' : World} {v : Value} {l : List (Int × Int)} (h : RdR w v l) (f : Fr [] w w') : RdR w' v l := Reads.frS h f (by simp)
theorem RdR.one {w : World} {v : Value} {l : List (Int × Int)} (h : RdR w v l) : v.oneCell' = true := by obtain ⟨_, ad, cap, rfl, _⟩ := h; rfl
theorem index_c (xs : List Int) (hx : (xs.length : Int) ≤ 9000000000000000000) (v : Int) (sl : Value) (w : World) (hr : RdI w sl xs) : CnV Tryz.prog 89 #[sl, vi v] w (vi (idxF xs (fun x => decide (v = x)))) := by
  obtain ⟨ad, cp, b0, o, rfl, had, hcell⟩ := hr.open
  refine cnv (vs := [_, _]) Tryz.func89 rfl rfl ?_
  all_goals refine tc_seq fun K1 hK1 => ?_
  all_goals refine tc_region ?_
  all_goals refine tl_q (y_assign rfl) rfl ?_
  all_goals refine tl_nil ?_
  all_goals (refine hK1 ?_; try (clear hK1; clear K1))
  all_goals refine tc_seq fun K2 hK2 => ?_
  all_goals refine tc_seq fun K3 hK3 => ?_
  all_goals refine tc_region ?_
  all_goals refine tl_q (y_move rfl) rfl ?_
  all_goals refine tl_q (y_len rfl) rfl ?_
  all_goals refine tl_q (y_move rfl) rfl ?_
  all_goals refine tl_nil ?_
  all_goals (refine hK3 ?_; try (clear hK3; clear K3))
  all_goals refine tc_block ?_
  all_goals (
   refine tc_loop (fun k : Nat => k ≤ xs.length ∧ ∀ j, j < k → decide (v = xs.getD j 0) = false) (fun k => [(0, .slice ad xs.length cp), (1, vi v), (7, vi xs.length), (8, vi k)]) (fun _ => [(w, [])]) (fun _ => []) (fun k => xs.length - k) ?_ ?_
   · exact tk_start 0 ⟨Nat.zero_le _, fun j hj => absurd hj (Nat.not_lt_zero j)⟩ (.cons rfl (.cons rfl (.cons rfl (.cons rfl .nil)))) (fun _ h => h)
   · rintro k ⟨hk, hj⟩
     all_goals refine tc_seq fun K4 hK4 => ?_
     all_goals refine tc_region ?_
     all_goals refine tl_q (y_lss rfl rfl) rfl ?_
     all_goals refine tl_nil ?_
     all_goals (refine hK4 ?_; try (clear hK4; clear K4))
     all_goals refine tc_seq fun K5 hK5 => ?_
     all_goals (
      refine tc_cond rfl (fun hc => ?_) (fun hc => ?_)
      · try simp only [qn1, qn2, qn3, qn4, qn5, qn6, qn7, qn8] at hc
        all_goals first | (exfalso; with_reducible exact bft hc) | (exfalso; with_reducible exact btf hc) | (exfalso; omega) | skip
        all_goals refine tc_skip ?_
        all_goals (refine hK5 ?_; try (clear hK5; clear K5))
        all_goals refine tc_seq fun K6 hK6 => ?_
        all_goals refine tc_block ?_
        all_goals refine tc_seq fun K7 hK7 => ?_
        all_goals refine tc_region ?_
        all_goals refine tl_q (y_move rfl) rfl ?_
        all_goals refine tl_q (y_assign rfl) rfl ?_
        all_goals refine tl_nil ?_
        all_goals (refine hK7 ?_; try (clear hK7; clear K7))
        all_goals refine tc_seq fun K8 hK8 => ?_
        have had' := had (by omega)
        all_goals refine tc_region ?_
        all_goals refine tl_q (y_move rfl) rfl ?_
        all_goals refine tl_q (y_move rfl) rfl ?_
        all_goals refine tl_q (y_move rfl) rfl ?_
        all_goals (first | refine tl_q (y_index rfl rfl (by omega) had') rfl ?_ | refine tl_q (y_index rfl rfl (by omega) rfl) rfl ?_ | refine tl_q (y_indexA rfl rfl (by omega)) rfl ?_)
        all_goals (first | refine tl_q (y_load1 rfl (by repeat constructor) (by rfl)) rfl ?_ | refine tl_q (y_load1o rfl (fun w' hw' => hcell w' (hw'.fr (by simp)) (Int.toNat k * 1) (by omega))) rfl ?_)
        all_goals refine tl_q (y_eql rfl rfl) rfl ?_
        all_goals refine tl_nil ?_
        all_goals (refine hK8 ?_; try (clear hK8; clear K8))
        all_goals (
         refine tc_cond rfl (fun hc => ?_) (fun hc => ?_)
         · try simp only [qn1, qn2, qn3, qn4, qn5, qn6, qn7, qn8] at hc
           all_goals first | (exfalso; with_reducible exact bft hc) | (exfalso; with_reducible exact btf hc) | (exfalso; omega) | skip
           all_goals refine tc_seq fun K9 hK9 => ?_
           all_goals refine tc_region ?_
           all_goals refine tl_q (y_move rfl) rfl ?_
           all_goals refine tl_q (y_assign rfl) rfl ?_
           all_goals refine tl_nil ?_
           all_goals (refine hK9 ?_; try (clear hK9; clear K9))
           all_goals refine tc_ret ?_
           all_goals (repeat (first | refine tk_then_ret ?_ | refine tk_block_ret ?_ | refine tk_scope_ret ?_))
           all_goals first | refine tk_ret rfl rfl (.cons (.tmp rfl) .nil) ?_ | refine tk_retM rfl (by repeat constructor) rfl (.cons (.tmp rfl) .nil) ?_
           all_goals (
            first | exact fun w' hw' => ⟨by rw [idxF_hit (k := k) (by omega) (by simpa using hc) hj]; rfl, hw'.fr (by simp)⟩ | exact fun w' hw' => ⟨by rw [idxF_miss (fun j hjj => hj j (by omega))]; rfl, hw'.fr (by simp)⟩)
         · try simp only [qn1, qn2, qn3, qn4, qn5, qn6, qn7, qn8] at hc
           all_goals first | (exfalso; with_reducible exact bft hc) | (exfalso; with_reducible exact btf hc) | (exfalso; omega) | skip
           all_goals refine tc_skip ?_
           all_goals (refine hK6 ?_; try (clear hK6; clear K6))
           all_goals refine tc_region ?_
           all_goals refine tl_q (y_add rfl rfl (by omega)) rfl ?_
           all_goals refine tl_q (y_move rfl) rfl ?_
           all_goals refine tl_nil ?_
           all_goals (
            exact tk_round (k + 1) ⟨by omega, fun j hj' => by rcases Nat.lt_succ_iff_lt_or_eq.1 hj' with h | rfl; exact hj j h; simpa using hc⟩ (by omega) (.cons rfl (.cons rfl (.cons rfl (.cons rfl .nil)))) (fun _ h => h)))
      · try simp only [qn1, qn2, qn3, qn4, qn5, qn6, qn7, qn8] at hc
        all_goals first | (exfalso; with_reducible exact bft hc) | (exfalso; with_reducible exact btf hc) | (exfalso; omega) | skip
        all_goals refine tc_exit ?_
        all_goals (refine hK2 ?_; try (clear hK2; clear K2))
        all_goals refine tc_seq fun K10 hK10 => ?_
        all_goals refine tc_region ?_
        all_goals refine tl_q (y_assign rfl) rfl ?_
        all_goals refine tl_nil ?_
        all_goals (refine hK10 ?_; try (clear hK10; clear K10))
        all_goals refine tc_ret ?_
        all_goals (repeat (first | refine tk_then_ret ?_ | refine tk_block_ret ?_ | refine tk_scope_ret ?_))
        all_goals first | refine tk_ret rfl rfl (.cons (.tmp rfl) .nil) ?_ | refine tk_retM rfl (by repeat constructor) rfl (.cons (.tmp rfl) .nil) ?_
        all_goals (
         first | exact fun w' hw' => ⟨by rw [idxF_hit (k := k) (by omega) (by simpa using hc) hj]; rfl, hw'.fr (by simp)⟩ | exact fun w' hw' => ⟨by rw [idxF_miss (fun j hjj => hj j (by omega))]; rfl, hw'.fr (by simp)⟩)))
theorem contains_c (xs : List Int) (hx : (xs.length : Int) ≤ 9000000000000000000) (v : Int) (sl : Value) (w : World) (hr : RdI w sl xs) : CnV Tryz.prog 65 #[sl, vi v] w (.bool (decide (v ∈ xs))) := by
  refine cnv (vs := [_, _]) Tryz.func65 rfl rfl ?_
  all_goals refine tc_seq fun K1 hK1 => ?_
  all_goals refine tc_region ?_
  all_goals refine tl_q (y_assign rfl) rfl ?_
  all_goals refine tl_nil ?_
  all_goals (refine hK1 ?_; try (clear hK1; clear K1))
  all_goals refine tc_seq fun K2 hK2 => ?_
  all_goals refine tc_region ?_
  all_goals refine tl_q (y_move rfl) rfl ?_
  all_goals refine tl_q (y_move rfl) rfl ?_
  all_goals refine tl_e (e_callV rfl (.cons rfl (.cons rfl .nil)) (fun w' hw' => index_c xs hx v _ w' (hr.fr (hw'.fr (by simp))))) rfl (fun _ _ => ?_)
  all_goals refine tl_q (y_geq rfl rfl) rfl ?_
  all_goals refine tl_q (y_assign rfl) rfl ?_
  all_goals refine tl_nil ?_
  all_goals (refine hK2 ?_; try (clear hK2; clear K2))
  all_goals refine tc_ret ?_
  all_goals (repeat (first | refine tk_then_ret ?_ | refine tk_block_ret ?_ | refine tk_scope_ret ?_))
  all_goals first | refine tk_ret rfl rfl (.cons (.tmp rfl) .nil) ?_ | refine tk_retM rfl (by repeat constructor) rfl (.cons (.tmp rfl) .nil) ?_
  all_goals (
   exact fun w' hw' => ⟨by simp only [outV, idxF_any]; congr 2; rw [Bool.eq_iff_iff]; simp, hw'.fr (by simp)⟩)
def sepS (v : Value) (S : List Nat) : Prop := ∀ p m c, v = .slice (some p) m c → p.block ∉ S
/-- A slice of the call's own: nil, or at the head of a block that is known whole. -/
theorem clone_nil (w : World) : CnV Tryz.prog 80 #[.slice none 0 0] w (.slice none 0 0) := by
  refine cnv (vs := [_]) Tryz.func80 rfl rfl ?_
  all_goals refine tc_seq fun K1 hK1 => ?_
  all_goals refine tc_region ?_
  all_goals refine tl_q (y_assign rfl) rfl ?_
  all_goals refine tl_nil ?_
  all_goals (refine hK1 ?_; try (clear hK1; clear K1))
  all_goals refine tc_seq fun K2 hK2 => ?_
  all_goals refine tc_seq fun K3 hK3 => ?_
  all_goals refine tc_region ?_
  all_goals refine tl_q (y_move rfl) rfl ?_
  all_goals refine tl_q (y_eql_nil rfl rfl) rfl ?_
  all_goals refine tl_nil ?_
  all_goals (refine hK3 ?_; try (clear hK3; clear K3))
  all_goals (
   refine tc_cond rfl (fun hc => ?_) (fun hc => ?_)
   · try simp only [qn1, qn2, qn3, qn4, qn5, qn6, qn7, qn8] at hc
     all_goals first | (exfalso; with_reducible exact bft hc) | (exfalso; with_reducible exact btf hc) | (exfalso; omega) | skip
     all_goals refine tc_seq fun K4 hK4 => ?_
     all_goals refine tc_region ?_
     all_goals refine tl_q (y_assign rfl) rfl ?_
     all_goals refine tl_nil ?_
     all_goals (refine hK4 ?_; try (clear hK4; clear K4))
     all_goals refine tc_ret ?_
     all_goals (repeat (first | refine tk_then_ret ?_ | refine tk_block_ret ?_ | refine tk_scope_ret ?_))
     all_goals first | refine tk_ret rfl rfl (.cons (.tmp rfl) .nil) ?_ | refine tk_retM rfl (by repeat constructor) rfl (.cons (.tmp rfl) .nil) ?_
     all_goals (
      exact fun w' hw' => ⟨rfl, hw'.fr (by simp)⟩)
   · try simp only [qn1, qn2, qn3, qn4, qn5, qn6, qn7, qn8] at hc
     all_goals first | (exfalso; with_reducible exact bft hc) | (exfalso; with_reducible exact btf hc) | (exfalso; omega) | skip
     all_goals refine tc_skip ?_
     all_goals (refine hK2 ?_; try (clear hK2; clear K2))
     all_goals refine tc_seq fun K5 hK5 => ?_
     all_goals refine tc_region ?_
     all_goals refine tl_e (e_bslice rfl (by (repeat (first | exact .nil | apply PV.one rfl rfl | apply PV.two rfl)); done) rfl rfl) rfl (fun _ _ => ?_)
     all_goals refine tl_q (y_move rfl) rfl ?_
     all_goals (exfalso; simp at hc)
     skip
     all_goals refine tl_nil ?_
     all_goals skip
     all_goals (refine hK5 ?_; try (clear hK5; clear K5))
     all_goals refine tc_ret ?_
     all_goals (repeat (first | refine tk_then_ret ?_ | refine tk_block_ret ?_ | refine tk_scope_ret ?_))
     all_goals first | refine tk_ret rfl rfl (.cons (.tmp rfl) .nil) ?_ | refine tk_retM rfl (by repeat constructor) rfl (.cons (.tmp rfl) .nil) ?_
     all_goals (
      exact fun w' hw' => ⟨rfl, hw'.fr (by simp)⟩))
theorem clone_own (b cap : Nat) (xs : List Int) (hx : xs.length ≤ 1000) (w : World) (hr : RdI w (.slice (some ⟨b, 0, none⟩) xs.length cap) xs) :
    CnX Tryz.prog 80 #[.slice (some ⟨b, 0, none⟩) xs.length cap] w [] (fun r : Nat × Nat × List Value => .slice (some ⟨r.1, 0, none⟩) xs.length r.2.1)
      (fun r w' => (xs.length ≤ r.2.1 ∧ r.2.2.length = r.2.1 - xs.length) ∧ w.heap.size ≤ r.1 ∧ w'.heap[r.1]? = some (.cells (xs.map vi ++ r.2.2).toArray 3 (0, 0))) := by
  refine cnx0 (vs := [_]) Tryz.func80 rfl rfl ?_
  all_goals refine tc_seq fun K1 hK1 => ?_
  all_goals refine tc_region ?_
  all_goals refine tl_q (y_assign rfl) rfl ?_
  all_goals refine tl_nil ?_
  all_goals (refine hK1 ?_; try (clear hK1; clear K1))
  all_goals refine tc_seq fun K2 hK2 => ?_
  all_goals refine tc_seq fun K3 hK3 => ?_
  all_goals refine tc_region ?_
  all_goals refine tl_q (y_move rfl) rfl ?_
  all_goals refine tl_q (y_eql_nil rfl rfl) rfl ?_
  all_goals refine tl_nil ?_
  all_goals (refine hK3 ?_; try (clear hK3; clear K3))
  all_goals (
   refine tc_cond rfl (fun hc => ?_) (fun hc => ?_)
   · try simp only [qn1, qn2, qn3, qn4, qn5, qn6, qn7, qn8] at hc
     all_goals first | (exfalso; with_reducible exact bft hc) | (exfalso; with_reducible exact btf hc) | (exfalso; omega) | (exfalso; exact Bool.noConfusion hc; done) | skip
     all_goals refine tc_seq fun K4 hK4 => ?_
     all_goals refine tc_region ?_
     all_goals refine tl_q (y_assign rfl) rfl ?_
     all_goals refine tl_nil ?_
     all_goals (refine hK4 ?_; try (clear hK4; clear K4))
     all_goals refine tc_ret ?_
     all_goals (repeat (first | refine tk_then_ret ?_ | refine tk_block_ret ?_ | refine tk_scope_ret ?_))
     all_goals first | refine tk_ret rfl rfl (.cons (.tmp rfl) .nil) ?_ | refine tk_retM rfl (by repeat constructor) rfl (.cons (.tmp rfl) .nil) ?_
     all_goals (
      refine fun w' hw' => ⟨r, by simp [outV], hw'.fr (by simp), ?_, ?_, ?_⟩
      · simpa using hq
      · exact (hw'.own _ (HM.mem (b := r.1) (by repeat constructor)) (w, []) (by simp)).resolve_left (by simp)
      · have := hw'.heap _ (HM.mem (b := r.1) (by repeat constructor))
        simpa using this)
   · try simp only [qn1, qn2, qn3, qn4, qn5, qn6, qn7, qn8] at hc
     all_goals first | (exfalso; with_reducible exact bft hc) | (exfalso; with_reducible exact btf hc) | (exfalso; omega) | (exfalso; exact Bool.noConfusion hc; done) | skip
     all_goals refine tc_skip ?_
     all_goals (refine hK2 ?_; try (clear hK2; clear K2))
     all_goals refine tc_seq fun K5 hK5 => ?_
     all_goals refine tc_region ?_
     all_goals refine tl_e (e_bslice rfl (by (repeat (first | exact .nil | apply PV.one rfl rfl | apply PV.two rfl)); done) rfl rfl) rfl (fun _ _ => ?_)
     all_goals refine tl_q (y_move rfl) rfl ?_
     all_goals refine tl_e (e_append_own (old := []) (junk := []) rfl rfl rfl (by repeat constructor) rfl rfl (Nat.le_refl 0) (fun w' hw' => hr.fr (hw'.fr (by simp))) (fun u hu => by obtain ⟨_, _, rfl⟩ := List.mem_map.1 hu; rfl) (by omega) rfl) rfl (fun r hq => ?_)
     all_goals refine tl_q (y_assign rfl) rfl ?_
     all_goals refine tl_nil ?_
     all_goals (refine hK5 ?_; try (clear hK5; clear K5))
     all_goals refine tc_ret ?_
     all_goals (repeat (first | refine tk_then_ret ?_ | refine tk_block_ret ?_ | refine tk_scope_ret ?_))
     all_goals first | refine tk_ret rfl rfl (.cons (.tmp rfl) .nil) ?_ | refine tk_retM rfl (by repeat constructor) rfl (.cons (.tmp rfl) .nil) ?_
     all_goals (
      refine fun w' hw' => ⟨r, by simp [outV], hw'.fr (by simp), ?_, ?_, ?_⟩
      · simpa using hq
      · exact (hw'.own _ (HM.mem (b := r.1) (by repeat constructor)) (w, []) (by simp)).resolve_left (by simp)
      · have := hw'.heap _ (HM.mem (b := r.1) (by repeat constructor))
        simpa using this))
theorem Fr.keepS {S : List Nat} {w w' : World} (h : Fr S w w') {b : Nat} {o : Obj} (hS : b ∉ S) (hb : w.heap[b]? = some o) : w'.heap[b]? = some o := by
  rw [h.block b (by rcases Nat.lt_or_ge b w.heap.size with h | h; exact h; rw [Array.getElem?_eq_none h] at hb; cases hb) hS]; exact hb
theorem Fr.keep {w w' : World} (h : Fr [] w w') {b : Nat} {o : Obj} (hb : w.heap[b]? = some o) : w'.heap[b]? = some o := h.keepS (by simp) hb
theorem RdI.frS {w w' : World} {sl : Value} {xs : List Int} {S : List Nat} (h : RdI w sl xs) (f : Fr S w w') (hS : sepS sl S) : RdI w' sl xs := Reads.frS h f hS
theorem fs_hit {α : Type} {f : Nat → Option α} {n j : Nat} {r : α} (hj : j < n) (hr : f j = some r) (hno : ∀ k, k < j → f k = none) : (List.range n).findSome? f = some r := by
  rw [List.findSome?_eq_some_iff]
  refine ⟨List.range j, j, (List.range n).drop (j + 1), ?_, hr, fun x hx => hno x (List.mem_range.1 hx)⟩
  apply List.ext_getElem?
  intro i
  by_cases h : i < j
  · rw [List.getElem?_append_left (by simpa using h)]; simp [h, Nat.lt_trans h hj]
  · rw [List.getElem?_append_right (by simp; omega)]
    simp only [List.length_range]
    by_cases h2 : i = j
    · subst h2; simp [hj]
    · obtain ⟨d, rfl⟩ : ∃ d, i = j + 1 + d := ⟨i - j - 1, by omega⟩
      rw [show j + 1 + d - j = d + 1 from by omega]
      simp
theorem fs_miss {α : Type} {f : Nat → Option α} {n : Nat} (hno : ∀ k, k < n → f k = none) : (List.range n).findSome? f = none := by
  rw [List.findSome?_eq_none_iff]
  exact fun x hx => hno x (List.mem_range.1 hx)
/-- A slice that holds l: nil, or at the head of a block beyond S. -/
def SlSt (w : World) (sl : Value) (l : List Int) (S : List Nat) : Prop :=
  (l = [] ∧ sl = .slice none 0 0) ∨ ∃ b n cap, ∃ junk : List Value, n = l.length ∧ sl = .slice (some ⟨b, 0, none⟩) n cap ∧ w.heap[b]? = some (.cells (l.map vi ++ junk).toArray 3 (0, 0)) ∧ b ∉ S
theorem SlSt.sep {w : World} {sl : Value} {l : List Int} {S : List Nat} (h : SlSt w sl l S) : sepS sl S := by
  rcases h with ⟨_, rfl⟩ | ⟨b, n, cap, junk, _, rfl, _, hb⟩
  · intro p m c h; cases h
  · intro p m c h; cases h; exact hb
theorem SlSt.rd {w : World} {sl : Value} {l : List Int} {S : List Nat} (h : SlSt w sl l S) : RdI w sl l := by
  rcases h with ⟨rfl, rfl⟩ | ⟨b, n, cap, junk, rfl, rfl, h, hb⟩
  · exact ⟨rfl, none, 0, rfl, fun h => absurd rfl h⟩
  · refine ⟨by simp, _, _, rfl, fun _ => ⟨b, 0, rfl, ?_⟩⟩
    have := CA_pre (l.map vi) junk 3 (0, 0)
    rw [List.length_map] at this
    rw [Nat.mul_one]
    exact this.cells h
theorem cell0 {w : World} {b o : Nat} {cs : Array Value} {e : TypeId} {f : Nat × Nat} {v : Value} (h : w.heap[b]? = some (.cells cs e f)) (hv : cs[o]? = some v) : w.cell? ⟨b, o, none⟩ = some v := by simp [World.cell?, h, hv]
theorem RdI.at {w : World} {b o cp : Nat} {xs : List Int} (h : RdI w (.slice (some ⟨b, o, none⟩) xs.length cp) xs) {i : Nat} (hi : i < xs.length) : w.cell? ⟨b, o + i, none⟩ = some (vi (xs.getD i 0)) := by
  obtain ⟨_, _, _, _, e, had, hcell⟩ := h.open
  cases e
  cases had (by omega)
  exact hcell w (Fr.refl _ _) i hi
theorem RdI.nil (w : World) : RdI w (.slice none 0 0) [] := ⟨rfl, none, 0, rfl, fun h => absurd rfl h⟩
theorem Reads.frM {w w' : World} {v : Value} {sz n : Nat} {vs : List Value} {S : List Nat} (h : Reads w v sz n vs) (f : Fr S w w') (hS : ∀ x ∈ S, ∃ es ck, w.heap[x]? = some (.map es ck)) : Reads w' v sz n vs := by
  obtain ⟨h1, ad, cap, h2, h3⟩ := h
  refine ⟨h1, ad, cap, h2, fun hn => ?_⟩
  obtain ⟨b, o, h4, h5⟩ := h3 hn
  refine ⟨b, o, h4, ?_⟩
  clear h1 h2 h3 h4 hn
  generalize n * sz = q at h5
  induction h5 with
  | nil => exact .nil
  | @cons o n v vs hv _ ih =>
    refine .cons (f.cell (p := ⟨b, o, none⟩) (fun hb => ?_) hv) ih
    obtain ⟨es, ck, he⟩ := hS b hb
    simp [World.cell?, he] at hv
theorem KnS.mem {H : List (Nat × Obj)} {S : List Nat} {w1 : World} (h : KnS H S w1 w1) : ∀ p ∈ H, p.1 ∈ S := fun p hp =>
  (h.own p.1 (List.mem_map.2 ⟨p, hp, rfl⟩)).resolve_right (fun hh => by
    have := h.kn p hp
    rw [Array.getElem?_eq_none hh] at this; cases this)
theorem HG.sw {bs : List (World × List Nat)} {p q : Nat × Obj} {H : List (Nat × Obj)} {w : World} (h : HG bs (p :: q :: H) w) : HG bs (q :: p :: H) w := h.perm (List.Perm.swap _ _ _)
abbrev slV (n : Nat) (x : Option Addr × Nat) : Value := .slice x.1 n x.2
/-- The slice's array is newer than w. -/
def NewS (w : World) (v : Value) : Prop := ∀ p m c, v = .slice (some p) m c → w.heap.size ≤ p.block
theorem NewS.nil (w : World) (n c : Nat) : NewS w (.slice none n c) := fun p m c h => by cases h
theorem NewS.own {bs : List (World × List Nat)} {H : List (Nat × Obj)} {w w' : World} {b o n c : Nat} {ob : Obj} (hw : HG bs H w') (hm : HM b ob H) (hb : (w, []) ∈ bs) : NewS w (.slice (some ⟨b, o, none⟩) n c) := fun p m c h => by
  cases h
  exact (hw.own _ hm.mem (w, []) hb).resolve_left (by simp)
end Go.Sp
/-
  Samples: what is spoken of; slices of structs, in general.
-/
namespace Go.Sp
open Go Go.Proofs
/-- A slice of structs of k cells that reads as xs. -/
def RdS {α : Type} (k : Nat) (enc : α → List Value) (w : World) (v : Value) (xs : List α) : Prop := Reads w v k xs.length (xs.flatMap enc)
theorem RdS.frS {α : Type} {k : Nat} {enc : α → List Value} {w w' : World} {v : Value} {xs : List α} {S : List Nat} (h : RdS k enc w v xs) (f : Fr S w w') (hS : sepS v S) : RdS k enc w' v xs := Reads.frS h f hS
theorem RdS.fr {α : Type} {k : Nat} {enc : α → List Value} {w w' : World} {v : Value} {xs : List α} (h : RdS k enc w v xs) (f : Fr [] w w') : RdS k enc w' v xs := Reads.frS h f (by simp)
theorem RdS.frM {α : Type} {k : Nat} {enc : α → List Value} {w w' : World} {v : Value} {xs : List α} {S : List Nat} (h : RdS k enc w v xs) (f : Fr S w w') (hS : ∀ x ∈ S, ∃ es ck, w.heap[x]? = some (.map es ck)) : RdS k enc w' v xs := Reads.frM h f hS
theorem RdS.one {α : Type} {k : Nat} {enc : α → List Value} {w : World} {v : Value} {xs : List α} (h : RdS k enc w v xs) : v.oneCell' = true := by obtain ⟨_, ad, cap, rfl, _⟩ := h; rfl
theorem RdS.nil {α : Type} (k : Nat) (enc : α → List Value) (w : World) (c : Nat) : RdS k enc w (.slice none 0 c) [] := ⟨by simp, none, c, rfl, fun h => absurd rfl h⟩
theorem flatS_get {α : Type} {k : Nat} {enc : α → List Value} (hk : ∀ x, (enc x).length = k) (d : α) (xs : List α) : ∀ (i j : Nat), i < xs.length → j < k → (xs.flatMap enc)[i * k + j]? = (enc (xs.getD i d))[j]? := by
  induction xs with
  | nil => intro i j hi; simp at hi
  | cons r l ih =>
    intro i j hi hj
    rw [List.flatMap_cons]
    cases i with
    | zero => rw [Nat.zero_mul, Nat.zero_add, List.getElem?_append_left (by rw [hk]; exact hj)]; rfl
    | succ i =>
      rw [List.getElem?_append_right (by rw [hk, Nat.succ_mul]; omega), hk, show (i + 1) * k + j - k = i * k + j from by rw [Nat.succ_mul]; omega, ih i j (by simpa using hi) hj]; rfl
theorem CA.ofGet {f : Nat → Option Value} : ∀ (vs : List Value) (o n : Nat), vs.length = n → (∀ j, j < n → f (o + j) = vs[j]?) → CA f o n vs
  | [], o, n, hn, _ => by subst hn; exact .nil
  | v :: vs, o, n, hn, h => by
    subst hn
    exact .cons (by simpa using h 0 (by simp)) (CA.ofGet vs (o + 1) vs.length rfl (fun j hj => by have := h (j + 1) (by simpa using hj); rw [show o + 1 + j = o + (j + 1) from by omega, this]; rfl))
/-- Laid open. -/
theorem RdS.open {α : Type} {k : Nat} {enc : α → List Value} {w : World} {v : Value} {xs : List α} (h : RdS k enc w v xs) (hk : ∀ x, (enc x).length = k) (d : α) :
    ∃ ad cap b o, v = .slice ad xs.length cap ∧ (0 < xs.length → ad = some ⟨b, o, none⟩) ∧ ∀ w' S, Fr S w w' → b ∉ S → ∀ i, i < xs.length → CA (fun n => w'.cell? ⟨b, n, none⟩) (o + i * k) k (enc (xs.getD i d)) := by
  by_cases hn : xs.length = 0
  · obtain ⟨_, ad, cap, h2, _⟩ := h
    exact ⟨ad, cap, 0, 0, h2, fun h => by omega, fun _ _ _ _ i hi => by omega⟩
  · obtain ⟨_, ad, cap, h2, h3⟩ := h
    obtain ⟨b, o, h4, h5⟩ := h3 hn
    refine ⟨ad, cap, b, o, h2, fun _ => h4, fun w' S f hb i hi => CA.ofGet _ _ _ (hk _) fun j hj => ?_⟩
    have hlt : j < (enc (xs.getD i d)).length := by rw [hk]; exact hj
    have g := flatS_get hk d xs i j hi hj
    rw [List.getElem?_eq_getElem hlt] at g ⊢
    have c := h5.get _ _ g
    exact f.cell (p := ⟨b, o + i * k + j, none⟩) hb (by rw [Nat.add_assoc]; exact c)
/-- The slice's own block, since it reads in w; when it has none, any. -/
theorem RdS.opens {α : Type} {k : Nat} {enc : α → List Value} {w : World} {v : Value} {xs : List α} (h : RdS k enc w v xs) (hk : ∀ x, (enc x).length = k) (d : α) {S : List Nat} (hS : sepS v S) :
    ∃ ad cap b o, v = .slice ad xs.length cap ∧ (0 < xs.length → ad = some ⟨b, o, none⟩) ∧ ∀ w', Fr S w w' → ∀ i, i < xs.length → CA (fun n => w'.cell? ⟨b, n, none⟩) (o + i * k) k (enc (xs.getD i d)) := by
  obtain ⟨ad, cap, b, o, rfl, h2, h3⟩ := h.open hk d
  exact ⟨ad, cap, b, o, rfl, h2, fun w' f i hi => h3 w' S f (hS ⟨b, o, none⟩ _ _ (by rw [h2 (by omega)])) i hi⟩
/-- A slice of the own block. -/
theorem RdS.own {α : Type} {k : Nat} {enc : α → List Value} (hk : ∀ x, (enc x).length = k) {bs : List (World × List Nat)} {H : List (Nat × Obj)} {w : World} {b : Nat} {xs : List α} {e : TypeId} {f : Nat × Nat} {cap : Nat} {junk : List Value} (hw : HG bs H w) (hm : HM b (.cells (xs.flatMap enc ++ junk).toArray e f) H) : RdS k enc w (.slice (some ⟨b, 0, none⟩) xs.length cap) xs := by
  have hl : ∀ xs : List α, (xs.flatMap enc).length = xs.length * k := fun xs => by
    induction xs with
    | nil => simp
    | cons r l ih => rw [List.flatMap_cons, List.length_append, hk, ih, List.length_cons, Nat.succ_mul]; omega
  refine ⟨hl xs, some ⟨b, 0, none⟩, cap, rfl, fun _ => ⟨b, 0, rfl, ?_⟩⟩
  have := CA_pre (xs.flatMap enc) junk e f
  rw [hl] at this
  exact this.cells (hw.heap _ hm.mem)
theorem flatS_len {α : Type} {k : Nat} {enc : α → List Value} (hk : ∀ x, (enc x).length = k) (xs : List α) : (xs.flatMap enc).length = xs.length * k := by
  induction xs with
  | nil => simp
  | cons r l ih => rw [List.flatMap_cons, List.length_append, hk, ih, List.length_cons, Nat.succ_mul]; omega
theorem RdS.int {w : World} {v : Value} {xs : List Int} : RdS 1 (fun n : Int => [vi n]) w v xs ↔ RdI w v xs := by
  unfold RdS RdI
  rw [show xs.flatMap (fun n : Int => [vi n]) = xs.map vi from by induction xs with | nil => rfl | cons a l ih => rw [List.flatMap_cons, ih]; rfl]
/-- A pass; a sight; a sample. -/
structure Pas where
  b : Int
  fr : Int
  to : Int
  lo : Int
  hi : Int
deriving DecidableEq, Inhabited
structure Sgt where
  b : Int
  h : Int
  wh : Bool
deriving DecidableEq, Inhabited
structure Smp where
  B : Int
  P : Int
  L : Int
  F : Int
  st : List Bool
  ps : List Pas
  sg : List Sgt
abbrev pas0 : Pas := ⟨0, 0, 0, 0, 0⟩
abbrev sgt0 : Sgt := ⟨0, 0, false⟩
def psE (p : Pas) : List Value := [vi p.b, vi p.fr, vi p.to, vi p.lo, vi p.hi]
abbrev psV (p : Pas) : Value := .agg #[vi p.b, vi p.fr, vi p.to, vi p.lo, vi p.hi]
def sgE (g : Sgt) : List Value := [vi g.b, vi g.h, .bool g.wh]
abbrev sgV (g : Sgt) : Value := .agg #[vi g.b, vi g.h, .bool g.wh]
def boE (b : Bool) : List Value := [.bool b]
theorem psE_len (p : Pas) : (psE p).length = 5 := rfl
theorem sgE_len (g : Sgt) : (sgE g).length = 3 := rfl
theorem boE_len (b : Bool) : (boE b).length = 1 := rfl
abbrev smV (s : Smp) (tv pv gv : Value) : Value := .agg #[vi s.B, vi s.P, vi s.L, vi s.F, tv, pv, gv]
structure RdSm (w : World) (s : Smp) (tv pv gv : Value) : Prop where
  st : RdS 1 boE w tv s.st
  ps : RdS 5 psE w pv s.ps
  sg : RdS 3 sgE w gv s.sg
theorem RdSm.fr {w w' : World} {s : Smp} {tv pv gv : Value} (h : RdSm w s tv pv gv) (f : Fr [] w w') : RdSm w' s tv pv gv := ⟨h.st.fr f, h.ps.fr f, h.sg.fr f⟩
theorem RdSm.frM {w w' : World} {s : Smp} {tv pv gv : Value} {S : List Nat} (h : RdSm w s tv pv gv) (f : Fr S w w') (hS : ∀ x ∈ S, ∃ es ck, w.heap[x]? = some (.map es ck)) : RdSm w' s tv pv gv := ⟨h.st.frM f hS, h.ps.frM f hS, h.sg.frM f hS⟩
def sepSm (tv pv gv : Value) (S : List Nat) : Prop := sepS tv S ∧ sepS pv S ∧ sepS gv S
theorem RdSm.frS {w w' : World} {s : Smp} {tv pv gv : Value} {S : List Nat} (h : RdSm w s tv pv gv) (f : Fr S w w') (hS : sepSm tv pv gv S) : RdSm w' s tv pv gv := ⟨h.st.frS f hS.1, h.ps.frS f hS.2.1, h.sg.frS f hS.2.2⟩
/-- Not too large for a machine: all that a law hands on has few entries. -/
structure Few (s : Smp) : Prop where
  st : s.st.length ≤ 9
  ps : s.ps.length ≤ 9
  sg : s.sg.length ≤ 9
def pasOk (s : Smp) (p : Pas) : Bool := decide ((0 ≤ p.b ∧ p.b ≤ s.B - 1) ∧ (0 ≤ p.fr ∧ p.fr ≤ s.P - 1) ∧ (0 ≤ p.to ∧ p.to ≤ s.P - 1) ∧ ¬ p.fr = p.to ∧ (0 ≤ p.lo ∧ p.lo ≤ s.L) ∧ (0 ≤ p.hi ∧ p.hi ≤ s.L) ∧ p.lo ≤ p.hi)
def sgtOk (s : Smp) (g : Sgt) : Bool := decide ((0 ≤ g.b ∧ g.b ≤ s.B - 1) ∧ (0 ≤ g.h ∧ g.h ≤ s.L))
/-- How many lists of hours there are. -/
def manyS : List Pas → Int
  | [] => 1
  | p :: l => (p.hi - p.lo + 1) * manyS l
/-- The error of a sample. -/
def chkS (s : Smp) : Int :=
  if 3 < s.B ∨ 4 < s.P ∨ 6 < s.ps.length ∨ 6 < s.sg.length then 3
  else if s.B < 1 ∨ s.P < 1 ∨ ¬ (0 ≤ s.L ∧ s.L ≤ 9) ∨ ¬ (s.st.length : Int) = s.P ∨ ¬ (0 ≤ s.F ∧ s.F ≤ s.P - 1) ∨ s.ps.all (pasOk s) = false ∨ s.sg.all (sgtOk s) = false then 1
  else if 1000 < manyS s.ps then 3 else 0
/-- Valid samples. -/
structure VSm (s : Smp) : Prop where
  b1 : 1 ≤ s.B
  b3 : s.B ≤ 3
  p1 : 1 ≤ s.P
  p4 : s.P ≤ 4
  l0 : 0 ≤ s.L
  l9 : s.L ≤ 9
  f0 : 0 ≤ s.F
  f1 : s.F < s.P
  st : (s.st.length : Int) = s.P
  n6 : s.ps.length ≤ 6
  g6 : s.sg.length ≤ 6
  ps : ∀ p ∈ s.ps, (0 ≤ p.b ∧ p.b < s.B) ∧ (0 ≤ p.fr ∧ p.fr < s.P) ∧ (0 ≤ p.to ∧ p.to < s.P) ∧ ¬ p.fr = p.to ∧ 0 ≤ p.lo ∧ p.lo ≤ p.hi ∧ p.hi ≤ s.L
  sg : ∀ g ∈ s.sg, (0 ≤ g.b ∧ g.b < s.B) ∧ 0 ≤ g.h ∧ g.h ≤ s.L
  many : manyS s.ps ≤ 1000
theorem chkS_0 {s : Smp} : chkS s = 0 ↔ VSm s := by
  unfold chkS
  constructor
  · intro h
    split at h
    · cases h
    · rename_i h1
      split at h
      · cases h
      · rename_i h2
        split at h
        · cases h
        · rename_i h3
          simp only [not_or, Decidable.not_not, Bool.not_eq_false] at h1 h2
          obtain ⟨a1, a2, a3, a4⟩ := h1
          obtain ⟨c1, c2, c3, c4, c5, c6, c7⟩ := h2
          refine ⟨by omega, by omega, by omega, by omega, c3.1, c3.2, c5.1, by omega, c4, by omega, by omega, fun p hp => ?_, fun g hg => ?_, by omega⟩
          · have := List.all_eq_true.1 c6 p hp
            unfold pasOk at this
            rw [decide_eq_true_eq] at this
            omega
          · have := List.all_eq_true.1 c7 g hg
            unfold sgtOk at this
            rw [decide_eq_true_eq] at this
            omega
  · intro h
    obtain ⟨b1, b3, p1, p4, l0, l9, f0, f1, hst, n6, g6, hps, hsg, hm⟩ := h
    rw [if_neg (by omega), if_neg, if_neg (by omega)]
    have e1 : s.ps.all (pasOk s) = true := List.all_eq_true.2 fun p hp => by
      have := hps p hp
      unfold pasOk
      rw [decide_eq_true_eq]
      omega
    have e2 : s.sg.all (sgtOk s) = true := List.all_eq_true.2 fun g hg => by
      have := hsg g hg
      unfold sgtOk
      rw [decide_eq_true_eq]
      omega
    rw [e1, e2]
    simp only [Bool.true_eq_false, or_false]
    omega
end Go.Sp
/-
  Package sample: small functions; CheckSample.
-/
namespace Go.Sp
open Go Go.Proofs
theorem mwithin_c (n lo hi : Int) (w : World) : CnV Tryz.prog 84 #[vi n, vi lo, vi hi] w (.bool (decide (lo ≤ n ∧ n ≤ hi))) := by
  refine cnv (vs := [_, _, _]) Tryz.func84 rfl rfl ?_
  all_goals refine tc_seq fun K1 hK1 => ?_; refine tc_region ?_; refine tl_q (y_assign rfl) rfl ?_; refine tl_nil ?_; ((refine hK1 ?_; try (clear hK1; clear K1)))
  all_goals refine tc_seq fun K2 hK2 => ?_; refine tc_region ?_; refine tl_q (y_move rfl) rfl ?_; refine tl_q (y_move rfl) rfl ?_; refine tl_q (y_leq rfl rfl) rfl ?_; refine tl_q (y_move rfl) rfl ?_; ((refine tl_gs rfl rfl (fun hc => ?_) (fun hc => ?_) <;> (skip) <;> (first | refine tl_sk rfl rfl rfl rfl ?_ | refine tl_qg rfl rfl (y_move rfl) rfl ?_)))
  all_goals (first | refine tl_sk rfl rfl rfl rfl ?_ | refine tl_qg rfl rfl (y_move rfl) rfl ?_); (first | refine tl_sk rfl rfl rfl rfl ?_ | refine tl_qg rfl rfl (y_leq rfl rfl) rfl ?_); (first | refine tl_q (y_pick_t rfl rfl) rfl ?_ | refine tl_q (y_pick_f rfl rfl) rfl ?_); refine tl_q (y_assign rfl) rfl ?_; refine tl_nil ?_; ((refine hK2 ?_; try (clear hK2; clear K2)))
  all_goals refine tc_ret ?_; (repeat (first | refine tk_then_ret ?_))
  all_goals (refine tk_ret rfl rfl (.cons (.tmp rfl) .nil) ?_)
  all_goals (
   refine fun w' hw' => ⟨?_, hw'.fr (by simp)⟩; simp only [outV, decide_eq_true_eq, decide_eq_false_iff_not] at *; simp [hc])
def idxG {α : Type} (xs : List α) (p : α → Bool) : Int := if xs.any p then (xs.findIdx p : Int) else -1
theorem idxG_hit {α : Type} {d : α} {xs : List α} {p : α → Bool} {k : Nat} (hk : k < xs.length) (hp : p (xs.getD k d) = true) (hn : ∀ j, j < k → p (xs.getD j d) = false) : idxG xs p = k := by
  rw [List.getD_eq_getElem?_getD, List.getElem?_eq_getElem hk] at hp
  simp only [Option.getD_some] at hp
  have h1 : xs.any p = true := List.any_eq_true.2 ⟨_, List.getElem_mem hk, hp⟩
  unfold idxG
  rw [if_pos h1]
  have : xs.findIdx p = k := by
    apply (List.findIdx_eq hk).2
    refine ⟨hp, fun j hj => ?_⟩
    have := hn j hj
    rw [List.getD_eq_getElem?_getD, List.getElem?_eq_getElem (Nat.lt_trans hj hk)] at this
    simpa using this
  rw [this]
theorem idxG_miss {α : Type} {d : α} {xs : List α} {p : α → Bool} (hn : ∀ j, j < xs.length → p (xs.getD j d) = false) : idxG xs p = -1 := by
  unfold idxG
  rw [if_neg]
  intro h
  obtain ⟨x, hx, hp⟩ := List.any_eq_true.1 h
  obtain ⟨j, hj, rfl⟩ := List.getElem_of_mem hx
  have := hn j hj
  rw [List.getD_eq_getElem?_getD, List.getElem?_eq_getElem hj] at this
  simp only [Option.getD_some] at this
  rw [this] at hp; cases hp
theorem idxG_any {α : Type} (xs : List α) (p : α → Bool) : decide (0 ≤ idxG xs p) = xs.any p := by
  unfold idxG
  cases h : xs.any p
  · simp
  · simp
def TestsG {α : Type} (P : Program) (V : α → Value) (g : FuncId) (first cap : Array Value) (p : α → Bool) (w : World) : Prop := ∀ (x : α) (w' : World), Fr [] w w' → CnV P g (first ++ #[V x] ++ cap) w' (.bool (p x))
theorem TestsG.fr {α : Type} {P : Program} {V : α → Value} {g : FuncId} {first cap : Array Value} {p : α → Bool} {w w1 : World} (h : TestsG P V g first cap p w) (f : Fr [] w w1) : TestsG P V g first cap p w1 := fun x w' f' => h x w' (f.trans f' (by simp))
theorem indexPs_c (g : FuncId) [GoFn Tryz.prog g] (first cap : Array Value) (p : Pas → Bool) (xs : List Pas) (hx : (xs.length : Int) ≤ 9000000000000000000) (sl : Value) (w : World) (hr : RdS 5 psE w sl xs) (ht : TestsG Tryz.prog psV g first cap p w) :
    CnV Tryz.prog 131 #[sl, .func (.func g) first cap] w (vi (idxG xs p)) := by
  obtain ⟨ad, cp, b0, o, rfl, had, hcell⟩ := hr.open psE_len pas0
  refine cnv (vs := [_, _]) Tryz.func131 rfl rfl ?_
  all_goals refine tc_seq fun K1 hK1 => ?_; refine tc_region ?_; refine tl_q (y_assign rfl) rfl ?_; refine tl_nil ?_; ((refine hK1 ?_; try (clear hK1; clear K1)))
  all_goals refine tc_seq fun K2 hK2 => ?_; refine tc_seq fun K3 hK3 => ?_; refine tc_region ?_; refine tl_q (y_move rfl) rfl ?_; refine tl_q (y_len rfl) rfl ?_; refine tl_q (y_move rfl) rfl ?_; refine tl_nil ?_; ((refine hK3 ?_; try (clear hK3; clear K3)))
  all_goals refine tc_block ?_
  all_goals (
   refine tc_loop (fun k : Nat => k ≤ xs.length ∧ ∀ j, j < k → p (xs.getD j pas0) = false) (fun k => [(0, .slice ad xs.length cp), (1, .func (.func g) first cap), (7, vi xs.length), (8, vi k)]) (fun _ => [(w, [])]) (fun _ => []) (fun k => xs.length - k) ?_ ?_
   · exact tk_start 0 ⟨Nat.zero_le _, fun j hj => absurd hj (Nat.not_lt_zero j)⟩ (.cons rfl (.cons rfl (.cons rfl (.cons rfl .nil)))) (fun _ h => h)
   · rintro k ⟨hk, hj⟩
     all_goals refine tc_seq fun K4 hK4 => ?_; refine tc_region ?_; refine tl_q (y_lss rfl rfl) rfl ?_; refine tl_nil ?_; ((refine hK4 ?_; try (clear hK4; clear K4)))
     all_goals refine tc_seq fun K5 hK5 => ?_
     all_goals (
      refine tc_cond rfl (fun hc => ?_) (fun hc => ?_)
      · try simp only [qn1, qn2, qn3, qn4, qn5, qn6, qn7, qn8] at hc
        all_goals refine tc_skip ?_; ((refine hK5 ?_; try (clear hK5; clear K5)))
        all_goals refine tc_seq fun K6 hK6 => ?_; refine tc_block ?_; refine tc_seq fun K7 hK7 => ?_; refine tc_region ?_; refine tl_q (y_move rfl) rfl ?_; refine tl_q (y_assign rfl) rfl ?_; refine tl_nil ?_; ((refine hK7 ?_; try (clear hK7; clear K7)))
        all_goals refine tc_seq fun K8 hK8 => ?_
        have had' := had (by omega)
        all_goals refine tc_region ?_; refine tl_q (y_move rfl) rfl ?_; refine tl_q (y_move rfl) rfl ?_; refine tl_q (y_move rfl) rfl ?_; refine tl_q (y_index rfl rfl (by omega) had') rfl ?_; refine tl_q (y_loadNo (vs := psE (xs.getD (Int.toNat k) pas0)) rfl (fun w' hw' => hcell w' [] (hw'.fr (by simp)) (by simp) (Int.toNat k) (by omega))) rfl ?_; refine tl_e (e_callVf rfl rfl (.cons rfl .nil) (fun w' hw' => ht (xs.getD (Int.toNat k) pas0) w' (hw'.fr (by simp)))) rfl (fun _ _ => ?_); refine tl_nil ?_; ((refine hK8 ?_; try (clear hK8; clear K8)))
        all_goals (
         refine tc_cond rfl (fun hc => ?_) (fun hc => ?_)
         · all_goals (skip)
           all_goals refine tc_seq fun K9 hK9 => ?_; refine tc_region ?_; refine tl_q (y_move rfl) rfl ?_; refine tl_q (y_assign rfl) rfl ?_; refine tl_nil ?_; ((refine hK9 ?_; try (clear hK9; clear K9)))
           all_goals refine tc_ret ?_; (repeat (first | refine tk_then_ret ?_ | refine tk_block_ret ?_))
           all_goals (refine tk_ret rfl rfl (.cons (.tmp rfl) .nil) ?_)
           all_goals (
            first | exact fun w' hw' => ⟨by rw [idxG_hit (k := k) (by omega) (by simpa using hc) hj]; rfl, hw'.fr (by simp)⟩ | exact fun w' hw' => ⟨by rw [idxG_miss (d := pas0) (fun j hjj => hj j (by omega))]; rfl, hw'.fr (by simp)⟩)
         · all_goals (skip)
           all_goals refine tc_skip ?_; ((refine hK6 ?_; try (clear hK6; clear K6)))
           all_goals refine tc_region ?_; refine tl_q (y_add rfl rfl (by omega)) rfl ?_; refine tl_q (y_move rfl) rfl ?_; refine tl_nil ?_
           all_goals (
            exact tk_round (k + 1) ⟨by omega, fun j hj' => by rcases Nat.lt_succ_iff_lt_or_eq.1 hj' with h | rfl; exact hj j h; simpa using hc⟩ (by omega) (.cons rfl (.cons rfl (.cons rfl (.cons rfl .nil)))) (fun _ h => h)))
      · try simp only [qn1, qn2, qn3, qn4, qn5, qn6, qn7, qn8] at hc
        all_goals refine tc_exit ?_; ((refine hK2 ?_; try (clear hK2; clear K2)))
        all_goals refine tc_seq fun K10 hK10 => ?_; refine tc_region ?_; refine tl_q (y_assign rfl) rfl ?_; refine tl_nil ?_; ((refine hK10 ?_; try (clear hK10; clear K10)))
        all_goals refine tc_ret ?_; (repeat (first | refine tk_then_ret ?_))
        all_goals (refine tk_ret rfl rfl (.cons (.tmp rfl) .nil) ?_)
        all_goals (
         first | exact fun w' hw' => ⟨by rw [idxG_hit (k := k) (by omega) (by simpa using hc) hj]; rfl, hw'.fr (by simp)⟩ | exact fun w' hw' => ⟨by rw [idxG_miss (d := pas0) (fun j hjj => hj j (by omega))]; rfl, hw'.fr (by simp)⟩)))
theorem containsFuncPs_c (g : FuncId) [GoFn Tryz.prog g] (first cap : Array Value) (p : Pas → Bool) (xs : List Pas) (hx : (xs.length : Int) ≤ 9000000000000000000) (sl : Value) (w : World) (hr : RdS 5 psE w sl xs) (ht : TestsG Tryz.prog psV g first cap p w) :
    CnV Tryz.prog 102 #[sl, .func (.func g) first cap] w (.bool (xs.any p)) := by
  refine cnv (vs := [_, _]) Tryz.func102 rfl rfl ?_
  all_goals refine tc_seq fun K1 hK1 => ?_; refine tc_region ?_; refine tl_q (y_assign rfl) rfl ?_; refine tl_nil ?_; ((refine hK1 ?_; try (clear hK1; clear K1)))
  all_goals refine tc_seq fun K2 hK2 => ?_; refine tc_region ?_; refine tl_q (y_move rfl) rfl ?_; refine tl_q (y_move rfl) rfl ?_; refine tl_e (e_callV rfl (.cons rfl (.cons rfl .nil)) (fun w' hw' => indexPs_c g first cap p xs hx _ w' (hr.fr (hw'.fr (by simp))) (ht.fr (hw'.fr (by simp))))) rfl (fun _ _ => ?_); refine tl_q (y_geq rfl rfl) rfl ?_; refine tl_q (y_assign rfl) rfl ?_; refine tl_nil ?_; ((refine hK2 ?_; try (clear hK2; clear K2)))
  all_goals refine tc_ret ?_; (repeat (first | refine tk_then_ret ?_))
  all_goals (refine tk_ret rfl rfl (.cons (.tmp rfl) .nil) ?_)
  all_goals (
   exact fun w' hw' => ⟨by rw [← idxG_any]; rfl, hw'.fr (by simp)⟩)
theorem allPs1_c (g : FuncId) [GoFn Tryz.prog g] (first cap : Array Value) (p : Pas → Bool) (x : Pas) (b : Nat) (w : World) (hb : w.cell? ⟨b, 0, none⟩ = some (.func (.func g) first cap)) (ht : TestsG Tryz.prog psV g first cap p w) :
    CnV Tryz.prog 103 #[psV x, .pointer (some ⟨b, 0, none⟩)] w (.bool (!(p x))) := by
  refine cnv (vs := [_, _]) Tryz.func103 rfl rfl ?_
  all_goals refine tc_seq fun K1 hK1 => ?_; refine tc_region ?_; refine tl_e (e_box rfl rfl rfl) rfl (fun _ _ => ?_); refine tl_q (y_assign rfl) rfl ?_; refine tl_nil ?_; ((refine hK1 ?_; try (clear hK1; clear K1)))
  all_goals refine tc_seq fun K2 hK2 => ?_; refine tc_region ?_; refine tl_q (y_load1o rfl (fun w' hw' => (hw'.fr (S := []) (w0 := w) (by simp)).cell (by simp) hb)) rfl ?_; refine tl_q (y_loadW rfl (by repeat constructor) (by rfl)) rfl ?_; refine tl_e (e_callVf rfl rfl (.cons rfl .nil) (fun w' hw' => ht x w' (hw'.fr (by simp)))) rfl (fun _ _ => ?_); refine tl_q (y_not rfl) rfl ?_; refine tl_q (y_assign rfl) rfl ?_; refine tl_nil ?_; ((refine hK2 ?_; try (clear hK2; clear K2)))
  all_goals refine tc_ret ?_; (repeat (first | refine tk_then_ret ?_))
  all_goals (refine tk_ret rfl rfl (.cons (.tmp rfl) .nil) ?_)
  all_goals (
   exact fun w' hw' => ⟨rfl, hw'.fr (by simp)⟩)
theorem allPs_c (g : FuncId) [GoFn Tryz.prog g] (first cap : Array Value) (p : Pas → Bool) (xs : List Pas) (hx : (xs.length : Int) ≤ 9000000000000000000) (sl : Value) (w : World) (hr : RdS 5 psE w sl xs) (ht : TestsG Tryz.prog psV g first cap p w) :
    CnV Tryz.prog 86 #[sl, .func (.func g) first cap] w (.bool (xs.all p)) := by
  refine cnv (vs := [_, _]) Tryz.func86 rfl rfl ?_
  all_goals refine tc_seq fun K1 hK1 => ?_; refine tc_region ?_; refine tl_e (e_box rfl rfl rfl) rfl (fun b _ => ?_); refine tl_q (y_assign rfl) rfl ?_; refine tl_nil ?_; ((refine hK1 ?_; try (clear hK1; clear K1)))
  all_goals refine tc_seq fun K2 hK2 => ?_; refine tc_region ?_; refine tl_q (y_move rfl) rfl ?_; refine tl_q (y_fn .nil (.cons rfl .nil)) rfl ?_; refine tl_e (e_callV rfl (.cons rfl (.cons rfl .nil)) (fun w' hw' => containsFuncPs_c 103 #[] #[.pointer (some ⟨b, 0, none⟩)] (fun x => !(p x)) xs hx _ w' (hr.fr (hw'.fr (by simp))) (fun x w2 f => by simpa using allPs1_c g first cap p x b w2 (f.cell (by simp) (cellAt_cell? (hw'.heap _ (HM.mem (by repeat constructor))) rfl)) ((ht.fr (hw'.fr (by simp))).fr f)))) rfl (fun _ _ => ?_); refine tl_q (y_not rfl) rfl ?_; refine tl_q (y_assign rfl) rfl ?_; refine tl_nil ?_; ((refine hK2 ?_; try (clear hK2; clear K2)))
  all_goals refine tc_ret ?_; (repeat (first | refine tk_then_ret ?_))
  all_goals (refine tk_ret rfl rfl (.cons (.tmp rfl) .nil) ?_)
  all_goals (
   exact fun w' hw' => ⟨by simp [outV, List.all_eq_not_any_not], hw'.fr (by simp)⟩)
theorem indexSg_c (g : FuncId) [GoFn Tryz.prog g] (first cap : Array Value) (p : Sgt → Bool) (xs : List Sgt) (hx : (xs.length : Int) ≤ 9000000000000000000) (sl : Value) (w : World) (hr : RdS 3 sgE w sl xs) (ht : TestsG Tryz.prog sgV g first cap p w) :
    CnV Tryz.prog 132 #[sl, .func (.func g) first cap] w (vi (idxG xs p)) := by
  obtain ⟨ad, cp, b0, o, rfl, had, hcell⟩ := hr.open sgE_len sgt0
  refine cnv (vs := [_, _]) Tryz.func132 rfl rfl ?_
  all_goals refine tc_seq fun K1 hK1 => ?_; refine tc_region ?_; refine tl_q (y_assign rfl) rfl ?_; refine tl_nil ?_; ((refine hK1 ?_; try (clear hK1; clear K1)))
  all_goals refine tc_seq fun K2 hK2 => ?_; refine tc_seq fun K3 hK3 => ?_; refine tc_region ?_; refine tl_q (y_move rfl) rfl ?_; refine tl_q (y_len rfl) rfl ?_; refine tl_q (y_move rfl) rfl ?_; refine tl_nil ?_; ((refine hK3 ?_; try (clear hK3; clear K3)))
  all_goals refine tc_block ?_
  all_goals (
   refine tc_loop (fun k : Nat => k ≤ xs.length ∧ ∀ j, j < k → p (xs.getD j sgt0) = false) (fun k => [(0, .slice ad xs.length cp), (1, .func (.func g) first cap), (7, vi xs.length), (8, vi k)]) (fun _ => [(w, [])]) (fun _ => []) (fun k => xs.length - k) ?_ ?_
   · exact tk_start 0 ⟨Nat.zero_le _, fun j hj => absurd hj (Nat.not_lt_zero j)⟩ (.cons rfl (.cons rfl (.cons rfl (.cons rfl .nil)))) (fun _ h => h)
   · rintro k ⟨hk, hj⟩
     all_goals refine tc_seq fun K4 hK4 => ?_; refine tc_region ?_; refine tl_q (y_lss rfl rfl) rfl ?_; refine tl_nil ?_; ((refine hK4 ?_; try (clear hK4; clear K4)))
     all_goals refine tc_seq fun K5 hK5 => ?_
     all_goals (
      refine tc_cond rfl (fun hc => ?_) (fun hc => ?_)
      · try simp only [qn1, qn2, qn3, qn4, qn5, qn6, qn7, qn8] at hc
        all_goals refine tc_skip ?_; ((refine hK5 ?_; try (clear hK5; clear K5)))
        all_goals refine tc_seq fun K6 hK6 => ?_; refine tc_block ?_; refine tc_seq fun K7 hK7 => ?_; refine tc_region ?_; refine tl_q (y_move rfl) rfl ?_; refine tl_q (y_assign rfl) rfl ?_; refine tl_nil ?_; ((refine hK7 ?_; try (clear hK7; clear K7)))
        all_goals refine tc_seq fun K8 hK8 => ?_
        have had' := had (by omega)
        all_goals refine tc_region ?_; refine tl_q (y_move rfl) rfl ?_; refine tl_q (y_move rfl) rfl ?_; refine tl_q (y_move rfl) rfl ?_; refine tl_q (y_index rfl rfl (by omega) had') rfl ?_; refine tl_q (y_loadNo (vs := sgE (xs.getD (Int.toNat k) sgt0)) rfl (fun w' hw' => hcell w' [] (hw'.fr (by simp)) (by simp) (Int.toNat k) (by omega))) rfl ?_; refine tl_e (e_callVf rfl rfl (.cons rfl .nil) (fun w' hw' => ht (xs.getD (Int.toNat k) sgt0) w' (hw'.fr (by simp)))) rfl (fun _ _ => ?_); refine tl_nil ?_; ((refine hK8 ?_; try (clear hK8; clear K8)))
        all_goals (
         refine tc_cond rfl (fun hc => ?_) (fun hc => ?_)
         · all_goals (skip)
           all_goals refine tc_seq fun K9 hK9 => ?_; refine tc_region ?_; refine tl_q (y_move rfl) rfl ?_; refine tl_q (y_assign rfl) rfl ?_; refine tl_nil ?_; ((refine hK9 ?_; try (clear hK9; clear K9)))
           all_goals refine tc_ret ?_; (repeat (first | refine tk_then_ret ?_ | refine tk_block_ret ?_))
           all_goals (refine tk_ret rfl rfl (.cons (.tmp rfl) .nil) ?_)
           all_goals (
            first | exact fun w' hw' => ⟨by rw [idxG_hit (k := k) (by omega) (by simpa using hc) hj]; rfl, hw'.fr (by simp)⟩ | exact fun w' hw' => ⟨by rw [idxG_miss (d := sgt0) (fun j hjj => hj j (by omega))]; rfl, hw'.fr (by simp)⟩)
         · all_goals (skip)
           all_goals refine tc_skip ?_; ((refine hK6 ?_; try (clear hK6; clear K6)))
           all_goals refine tc_region ?_; refine tl_q (y_add rfl rfl (by omega)) rfl ?_; refine tl_q (y_move rfl) rfl ?_; refine tl_nil ?_
           all_goals (
            exact tk_round (k + 1) ⟨by omega, fun j hj' => by rcases Nat.lt_succ_iff_lt_or_eq.1 hj' with h | rfl; exact hj j h; simpa using hc⟩ (by omega) (.cons rfl (.cons rfl (.cons rfl (.cons rfl .nil)))) (fun _ h => h)))
      · try simp only [qn1, qn2, qn3, qn4, qn5, qn6, qn7, qn8] at hc
        all_goals refine tc_exit ?_; ((refine hK2 ?_; try (clear hK2; clear K2)))
        all_goals refine tc_seq fun K10 hK10 => ?_; refine tc_region ?_; refine tl_q (y_assign rfl) rfl ?_; refine tl_nil ?_; ((refine hK10 ?_; try (clear hK10; clear K10)))
        all_goals refine tc_ret ?_; (repeat (first | refine tk_then_ret ?_))
        all_goals (refine tk_ret rfl rfl (.cons (.tmp rfl) .nil) ?_)
        all_goals (
         first | exact fun w' hw' => ⟨by rw [idxG_hit (k := k) (by omega) (by simpa using hc) hj]; rfl, hw'.fr (by simp)⟩ | exact fun w' hw' => ⟨by rw [idxG_miss (d := sgt0) (fun j hjj => hj j (by omega))]; rfl, hw'.fr (by simp)⟩)))
theorem containsFuncSg_c (g : FuncId) [GoFn Tryz.prog g] (first cap : Array Value) (p : Sgt → Bool) (xs : List Sgt) (hx : (xs.length : Int) ≤ 9000000000000000000) (sl : Value) (w : World) (hr : RdS 3 sgE w sl xs) (ht : TestsG Tryz.prog sgV g first cap p w) :
    CnV Tryz.prog 104 #[sl, .func (.func g) first cap] w (.bool (xs.any p)) := by
  refine cnv (vs := [_, _]) Tryz.func104 rfl rfl ?_
  all_goals refine tc_seq fun K1 hK1 => ?_; refine tc_region ?_; refine tl_q (y_assign rfl) rfl ?_; refine tl_nil ?_; ((refine hK1 ?_; try (clear hK1; clear K1)))
  all_goals refine tc_seq fun K2 hK2 => ?_; refine tc_region ?_; refine tl_q (y_move rfl) rfl ?_; refine tl_q (y_move rfl) rfl ?_; refine tl_e (e_callV rfl (.cons rfl (.cons rfl .nil)) (fun w' hw' => indexSg_c g first cap p xs hx _ w' (hr.fr (hw'.fr (by simp))) (ht.fr (hw'.fr (by simp))))) rfl (fun _ _ => ?_); refine tl_q (y_geq rfl rfl) rfl ?_; refine tl_q (y_assign rfl) rfl ?_; refine tl_nil ?_; ((refine hK2 ?_; try (clear hK2; clear K2)))
  all_goals refine tc_ret ?_; (repeat (first | refine tk_then_ret ?_))
  all_goals (refine tk_ret rfl rfl (.cons (.tmp rfl) .nil) ?_)
  all_goals (
   exact fun w' hw' => ⟨by rw [← idxG_any]; rfl, hw'.fr (by simp)⟩)
theorem allSg1_c (g : FuncId) [GoFn Tryz.prog g] (first cap : Array Value) (p : Sgt → Bool) (x : Sgt) (b : Nat) (w : World) (hb : w.cell? ⟨b, 0, none⟩ = some (.func (.func g) first cap)) (ht : TestsG Tryz.prog sgV g first cap p w) :
    CnV Tryz.prog 105 #[sgV x, .pointer (some ⟨b, 0, none⟩)] w (.bool (!(p x))) := by
  refine cnv (vs := [_, _]) Tryz.func105 rfl rfl ?_
  all_goals refine tc_seq fun K1 hK1 => ?_; refine tc_region ?_; refine tl_e (e_box rfl rfl rfl) rfl (fun _ _ => ?_); refine tl_q (y_assign rfl) rfl ?_; refine tl_nil ?_; ((refine hK1 ?_; try (clear hK1; clear K1)))
  all_goals refine tc_seq fun K2 hK2 => ?_; refine tc_region ?_; refine tl_q (y_load1o rfl (fun w' hw' => (hw'.fr (S := []) (w0 := w) (by simp)).cell (by simp) hb)) rfl ?_; refine tl_q (y_loadW rfl (by repeat constructor) (by rfl)) rfl ?_; refine tl_e (e_callVf rfl rfl (.cons rfl .nil) (fun w' hw' => ht x w' (hw'.fr (by simp)))) rfl (fun _ _ => ?_); refine tl_q (y_not rfl) rfl ?_; refine tl_q (y_assign rfl) rfl ?_; refine tl_nil ?_; ((refine hK2 ?_; try (clear hK2; clear K2)))
  all_goals refine tc_ret ?_; (repeat (first | refine tk_then_ret ?_))
  all_goals (refine tk_ret rfl rfl (.cons (.tmp rfl) .nil) ?_)
  all_goals (
   exact fun w' hw' => ⟨rfl, hw'.fr (by simp)⟩)
theorem allSg_c (g : FuncId) [GoFn Tryz.prog g] (first cap : Array Value) (p : Sgt → Bool) (xs : List Sgt) (hx : (xs.length : Int) ≤ 9000000000000000000) (sl : Value) (w : World) (hr : RdS 3 sgE w sl xs) (ht : TestsG Tryz.prog sgV g first cap p w) :
    CnV Tryz.prog 87 #[sl, .func (.func g) first cap] w (.bool (xs.all p)) := by
  refine cnv (vs := [_, _]) Tryz.func87 rfl rfl ?_
  all_goals refine tc_seq fun K1 hK1 => ?_; refine tc_region ?_; refine tl_e (e_box rfl rfl rfl) rfl (fun b _ => ?_); refine tl_q (y_assign rfl) rfl ?_; refine tl_nil ?_; ((refine hK1 ?_; try (clear hK1; clear K1)))
  all_goals refine tc_seq fun K2 hK2 => ?_; refine tc_region ?_; refine tl_q (y_move rfl) rfl ?_; refine tl_q (y_fn .nil (.cons rfl .nil)) rfl ?_; refine tl_e (e_callV rfl (.cons rfl (.cons rfl .nil)) (fun w' hw' => containsFuncSg_c 105 #[] #[.pointer (some ⟨b, 0, none⟩)] (fun x => !(p x)) xs hx _ w' (hr.fr (hw'.fr (by simp))) (fun x w2 f => by simpa using allSg1_c g first cap p x b w2 (f.cell (by simp) (cellAt_cell? (hw'.heap _ (HM.mem (by repeat constructor))) rfl)) ((ht.fr (hw'.fr (by simp))).fr f)))) rfl (fun _ _ => ?_); refine tl_q (y_not rfl) rfl ?_; refine tl_q (y_assign rfl) rfl ?_; refine tl_nil ?_; ((refine hK2 ?_; try (clear hK2; clear K2)))
  all_goals refine tc_ret ?_; (repeat (first | refine tk_then_ret ?_))
  all_goals (refine tk_ret rfl rfl (.cons (.tmp rfl) .nil) ?_)
  all_goals (
   exact fun w' hw' => ⟨by simp [outV, List.all_eq_not_any_not], hw'.fr (by simp)⟩)
theorem mperson_c (s : Smp) (hp : 1 ≤ s.P ∧ s.P ≤ 4) (n : Int) (tv pv gv : Value) (w : World) : CnV Tryz.prog 85 #[smV s tv pv gv, vi n] w (.bool (decide (0 ≤ n ∧ n ≤ s.P - 1))) := by
  refine cnv (vs := [_, _]) Tryz.func85 rfl rfl ?_
  all_goals refine tc_seq fun K1 hK1 => ?_; refine tc_region ?_; refine tl_e (e_box rfl rfl rfl) rfl (fun b2 _ => ?_); refine tl_q (y_assign rfl) rfl ?_; refine tl_nil ?_; ((refine hK1 ?_; try (clear hK1; clear K1)))
  all_goals refine tc_seq fun K2 hK2 => ?_; refine tc_region ?_; refine tl_q (y_move rfl) rfl ?_; refine tl_q (y_field rfl) rfl ?_; refine tl_q (y_load1 rfl (by repeat constructor) (by rfl)) rfl ?_; refine tl_q (y_sub rfl rfl (by omega)) rfl ?_; refine tl_e (e_callV rfl (.cons rfl (.cons rfl (.cons rfl .nil))) (fun w' _ => mwithin_c _ _ _ w')) rfl (fun _ _ => ?_); refine tl_q (y_assign rfl) rfl ?_; refine tl_nil ?_; ((refine hK2 ?_; try (clear hK2; clear K2)))
  all_goals refine tc_ret ?_; (repeat (first | refine tk_then_ret ?_))
  all_goals (refine tk_ret rfl rfl (.cons (.tmp rfl) .nil) ?_)
  all_goals (
   exact fun w' hw' => ⟨rfl, hw'.fr (by simp)⟩)
theorem mbottle_c (s : Smp) (hp : 1 ≤ s.B ∧ s.B ≤ 3) (n : Int) (tv pv gv : Value) (w : World) : CnV Tryz.prog 55 #[smV s tv pv gv, vi n] w (.bool (decide (0 ≤ n ∧ n ≤ s.B - 1))) := by
  refine cnv (vs := [_, _]) Tryz.func55 rfl rfl ?_
  all_goals refine tc_seq fun K1 hK1 => ?_; refine tc_region ?_; refine tl_e (e_box rfl rfl rfl) rfl (fun b2 _ => ?_); refine tl_q (y_assign rfl) rfl ?_; refine tl_nil ?_; ((refine hK1 ?_; try (clear hK1; clear K1)))
  all_goals refine tc_seq fun K2 hK2 => ?_; refine tc_region ?_; refine tl_q (y_move rfl) rfl ?_; refine tl_q (y_field rfl) rfl ?_; refine tl_q (y_load1 rfl (by repeat constructor) (by rfl)) rfl ?_; refine tl_q (y_sub rfl rfl (by omega)) rfl ?_; refine tl_e (e_callV rfl (.cons rfl (.cons rfl (.cons rfl .nil))) (fun w' _ => mwithin_c _ _ _ w')) rfl (fun _ _ => ?_); refine tl_q (y_assign rfl) rfl ?_; refine tl_nil ?_; ((refine hK2 ?_; try (clear hK2; clear K2)))
  all_goals refine tc_ret ?_; (repeat (first | refine tk_then_ret ?_))
  all_goals (refine tk_ret rfl rfl (.cons (.tmp rfl) .nil) ?_)
  all_goals (
   exact fun w' hw' => ⟨rfl, hw'.fr (by simp)⟩)
theorem mhour_c (s : Smp) (n : Int) (tv pv gv : Value) (w : World) : CnV Tryz.prog 56 #[smV s tv pv gv, vi n] w (.bool (decide (0 ≤ n ∧ n ≤ s.L))) := by
  refine cnv (vs := [_, _]) Tryz.func56 rfl rfl ?_
  all_goals refine tc_seq fun K1 hK1 => ?_; refine tc_region ?_; refine tl_e (e_box rfl rfl rfl) rfl (fun b2 _ => ?_); refine tl_q (y_assign rfl) rfl ?_; refine tl_nil ?_; ((refine hK1 ?_; try (clear hK1; clear K1)))
  all_goals refine tc_seq fun K2 hK2 => ?_; refine tc_region ?_; refine tl_q (y_move rfl) rfl ?_; refine tl_q (y_field rfl) rfl ?_; refine tl_q (y_load1 rfl (by repeat constructor) (by rfl)) rfl ?_; refine tl_e (e_callV rfl (.cons rfl (.cons rfl (.cons rfl .nil))) (fun w' _ => mwithin_c _ _ _ w')) rfl (fun _ _ => ?_); refine tl_q (y_assign rfl) rfl ?_; refine tl_nil ?_; ((refine hK2 ?_; try (clear hK2; clear K2)))
  all_goals refine tc_ret ?_; (repeat (first | refine tk_then_ret ?_))
  all_goals (refine tk_ret rfl rfl (.cons (.tmp rfl) .nil) ?_)
  all_goals (
   exact fun w' hw' => ⟨rfl, hw'.fr (by simp)⟩)
theorem mpass_c (s : Smp) (hb : 1 ≤ s.B ∧ s.B ≤ 3) (hp : 1 ≤ s.P ∧ s.P ≤ 4) (p : Pas) (tv pv gv : Value) (w : World) : CnV Tryz.prog 82 #[smV s tv pv gv, psV p] w (.bool (pasOk s p)) := by
  refine cnv (vs := [_, _]) Tryz.func82 rfl rfl ?_
  all_goals refine tc_seq fun K1 hK1 => ?_; refine tc_region ?_; refine tl_e (e_box rfl rfl rfl) rfl (fun b2 _ => ?_); refine tl_e (e_box rfl rfl rfl) rfl (fun b3 _ => ?_); refine tl_q (y_assign rfl) rfl ?_; refine tl_nil ?_; ((refine hK1 ?_; try (clear hK1; clear K1)))
  all_goals refine tc_seq fun K2 hK2 => ?_; refine tc_region ?_; refine tl_q (y_loadW rfl (by repeat constructor) (by rfl)) rfl ?_; refine tl_q (y_field rfl) rfl ?_; refine tl_q (y_load1 rfl (by repeat constructor) (by rfl)) rfl ?_; refine tl_e (e_callV rfl (.cons rfl (.cons rfl .nil)) (fun w' _ => mbottle_c s hb _ _ _ _ w')) rfl (fun _ _ => ?_); refine tl_q (y_move rfl) rfl ?_; ((refine tl_gs rfl rfl (fun hc => ?_) (fun hc => ?_) <;> (try simp only [qn1, qn2, qn3, qn4, qn5, qn6, qn7, qn8] at hc) <;> (first | refine tl_sk rfl rfl rfl rfl ?_ | refine tl_qg rfl rfl (y_loadW rfl (by repeat constructor) (by rfl)) rfl ?_)))
  all_goals (first | refine tl_sk rfl rfl rfl rfl ?_ | refine tl_qg rfl rfl (y_field rfl) rfl ?_); (first | refine tl_sk rfl rfl rfl rfl ?_ | refine tl_qg rfl rfl (y_load1 rfl (by repeat constructor) (by rfl)) rfl ?_); (first | refine tl_sk rfl rfl rfl rfl ?_ | refine tl_eg rfl rfl rfl (e_callV rfl (.cons rfl (.cons rfl .nil)) (fun w' _ => mperson_c s hp _ _ _ _ w')) (fun _ _ => ?_)); (first | refine tl_q (y_pick_t rfl rfl) rfl ?_ | refine tl_q (y_pick_f rfl rfl) rfl ?_); refine tl_q (y_move rfl) rfl ?_; ((first | refine tl_sk rfl rfl rfl rfl ?_ | (refine tl_gs rfl rfl (fun hc => ?_) (fun hc => ?_) <;> (try simp only [qn1, qn2, qn3, qn4, qn5, qn6, qn7, qn8] at hc) <;> (first | refine tl_sk rfl rfl rfl rfl ?_ | refine tl_qg rfl rfl (y_loadW rfl (by repeat constructor) (by rfl)) rfl ?_))))
  all_goals (first | refine tl_sk rfl rfl rfl rfl ?_ | refine tl_qg rfl rfl (y_field rfl) rfl ?_); (first | refine tl_sk rfl rfl rfl rfl ?_ | refine tl_qg rfl rfl (y_load1 rfl (by repeat constructor) (by rfl)) rfl ?_); (first | refine tl_sk rfl rfl rfl rfl ?_ | refine tl_eg rfl rfl rfl (e_callV rfl (.cons rfl (.cons rfl .nil)) (fun w' _ => mperson_c s hp _ _ _ _ w')) (fun _ _ => ?_)); (first | refine tl_q (y_pick_t rfl rfl) rfl ?_ | refine tl_q (y_pick_f rfl rfl) rfl ?_); refine tl_q (y_move rfl) rfl ?_; ((first | refine tl_sk rfl rfl rfl rfl ?_ | (refine tl_gs rfl rfl (fun hc => ?_) (fun hc => ?_) <;> (try simp only [qn1, qn2, qn3, qn4, qn5, qn6, qn7, qn8] at hc) <;> (first | refine tl_sk rfl rfl rfl rfl ?_ | refine tl_qg rfl rfl (y_field rfl) rfl ?_))))
  all_goals (first | refine tl_sk rfl rfl rfl rfl ?_ | refine tl_qg rfl rfl (y_load1 rfl (by repeat constructor) (by rfl)) rfl ?_); (first | refine tl_sk rfl rfl rfl rfl ?_ | refine tl_qg rfl rfl (y_field rfl) rfl ?_); (first | refine tl_sk rfl rfl rfl rfl ?_ | refine tl_qg rfl rfl (y_load1 rfl (by repeat constructor) (by rfl)) rfl ?_); (first | refine tl_sk rfl rfl rfl rfl ?_ | refine tl_qg rfl rfl (y_neq rfl rfl) rfl ?_); (first | refine tl_q (y_pick_t rfl rfl) rfl ?_ | refine tl_q (y_pick_f rfl rfl) rfl ?_); refine tl_q (y_move rfl) rfl ?_; ((first | refine tl_sk rfl rfl rfl rfl ?_ | (refine tl_gs rfl rfl (fun hc => ?_) (fun hc => ?_) <;> (try simp only [qn1, qn2, qn3, qn4, qn5, qn6, qn7, qn8] at hc) <;> (first | refine tl_sk rfl rfl rfl rfl ?_ | refine tl_qg rfl rfl (y_loadW rfl (by repeat constructor) (by rfl)) rfl ?_))))
  all_goals (first | refine tl_sk rfl rfl rfl rfl ?_ | refine tl_qg rfl rfl (y_field rfl) rfl ?_); (first | refine tl_sk rfl rfl rfl rfl ?_ | refine tl_qg rfl rfl (y_field rfl) rfl ?_); (first | refine tl_sk rfl rfl rfl rfl ?_ | refine tl_qg rfl rfl (y_load1 rfl (by repeat constructor) (by rfl)) rfl ?_); (first | refine tl_sk rfl rfl rfl rfl ?_ | refine tl_eg rfl rfl rfl (e_callV rfl (.cons rfl (.cons rfl .nil)) (fun w' _ => mhour_c s _ _ _ _ w')) (fun _ _ => ?_)); (first | refine tl_q (y_pick_t rfl rfl) rfl ?_ | refine tl_q (y_pick_f rfl rfl) rfl ?_); refine tl_q (y_move rfl) rfl ?_; ((first | refine tl_sk rfl rfl rfl rfl ?_ | (refine tl_gs rfl rfl (fun hc => ?_) (fun hc => ?_) <;> (try simp only [qn1, qn2, qn3, qn4, qn5, qn6, qn7, qn8] at hc) <;> (first | refine tl_sk rfl rfl rfl rfl ?_ | refine tl_qg rfl rfl (y_loadW rfl (by repeat constructor) (by rfl)) rfl ?_))))
  all_goals (first | refine tl_sk rfl rfl rfl rfl ?_ | refine tl_qg rfl rfl (y_field rfl) rfl ?_); (first | refine tl_sk rfl rfl rfl rfl ?_ | refine tl_qg rfl rfl (y_field rfl) rfl ?_); (first | refine tl_sk rfl rfl rfl rfl ?_ | refine tl_qg rfl rfl (y_load1 rfl (by repeat constructor) (by rfl)) rfl ?_); (first | refine tl_sk rfl rfl rfl rfl ?_ | refine tl_eg rfl rfl rfl (e_callV rfl (.cons rfl (.cons rfl .nil)) (fun w' _ => mhour_c s _ _ _ _ w')) (fun _ _ => ?_)); (first | refine tl_q (y_pick_t rfl rfl) rfl ?_ | refine tl_q (y_pick_f rfl rfl) rfl ?_); refine tl_q (y_move rfl) rfl ?_; ((first | refine tl_sk rfl rfl rfl rfl ?_ | (refine tl_gs rfl rfl (fun hc => ?_) (fun hc => ?_) <;> (try simp only [qn1, qn2, qn3, qn4, qn5, qn6, qn7, qn8] at hc) <;> (first | refine tl_sk rfl rfl rfl rfl ?_ | refine tl_qg rfl rfl (y_field rfl) rfl ?_))))
  all_goals (first | refine tl_sk rfl rfl rfl rfl ?_ | refine tl_qg rfl rfl (y_field rfl) rfl ?_); (first | refine tl_sk rfl rfl rfl rfl ?_ | refine tl_qg rfl rfl (y_load1 rfl (by repeat constructor) (by rfl)) rfl ?_); (first | refine tl_sk rfl rfl rfl rfl ?_ | refine tl_qg rfl rfl (y_field rfl) rfl ?_); (first | refine tl_sk rfl rfl rfl rfl ?_ | refine tl_qg rfl rfl (y_field rfl) rfl ?_); (first | refine tl_sk rfl rfl rfl rfl ?_ | refine tl_qg rfl rfl (y_load1 rfl (by repeat constructor) (by rfl)) rfl ?_); (first | refine tl_sk rfl rfl rfl rfl ?_ | refine tl_qg rfl rfl (y_leq rfl rfl) rfl ?_); (first | refine tl_q (y_pick_t rfl rfl) rfl ?_ | refine tl_q (y_pick_f rfl rfl) rfl ?_); refine tl_q (y_assign rfl) rfl ?_; refine tl_nil ?_; ((refine hK2 ?_; try (clear hK2; clear K2)))
  all_goals refine tc_ret ?_; (repeat (first | refine tk_then_ret ?_))
  all_goals (refine tk_ret rfl rfl (.cons (.tmp rfl) .nil) ?_)
  all_goals (
   refine fun w' hw' => ⟨congrArg (fun b => Ending.returned (Value.bool b)) ?_, hw'.fr (by simp)⟩
   unfold pasOk
   first
   | exact (decide_eq_true (by omega)).symm
   | exact (decide_eq_false (by omega)).symm
   | exact decide_eq_decide.2 (by omega))
theorem msight_c (s : Smp) (hb : 1 ≤ s.B ∧ s.B ≤ 3) (g : Sgt) (tv pv gv : Value) (w : World) : CnV Tryz.prog 83 #[smV s tv pv gv, sgV g] w (.bool (sgtOk s g)) := by
  refine cnv (vs := [_, _]) Tryz.func83 rfl rfl ?_
  all_goals refine tc_seq fun K1 hK1 => ?_; refine tc_region ?_; refine tl_e (e_box rfl rfl rfl) rfl (fun b2 _ => ?_); refine tl_e (e_box rfl rfl rfl) rfl (fun b3 _ => ?_); refine tl_q (y_assign rfl) rfl ?_; refine tl_nil ?_; ((refine hK1 ?_; try (clear hK1; clear K1)))
  all_goals refine tc_seq fun K2 hK2 => ?_; refine tc_region ?_; refine tl_q (y_loadW rfl (by repeat constructor) (by rfl)) rfl ?_; refine tl_q (y_field rfl) rfl ?_; refine tl_q (y_load1 rfl (by repeat constructor) (by rfl)) rfl ?_; refine tl_e (e_callV rfl (.cons rfl (.cons rfl .nil)) (fun w' _ => mbottle_c s hb _ _ _ _ w')) rfl (fun _ _ => ?_); refine tl_q (y_move rfl) rfl ?_; ((refine tl_gs rfl rfl (fun hc => ?_) (fun hc => ?_) <;> (try simp only [qn1, qn2, qn3, qn4, qn5, qn6, qn7, qn8] at hc) <;> (first | refine tl_sk rfl rfl rfl rfl ?_ | refine tl_qg rfl rfl (y_loadW rfl (by repeat constructor) (by rfl)) rfl ?_)))
  all_goals (first | refine tl_sk rfl rfl rfl rfl ?_ | refine tl_qg rfl rfl (y_field rfl) rfl ?_); (first | refine tl_sk rfl rfl rfl rfl ?_ | refine tl_qg rfl rfl (y_load1 rfl (by repeat constructor) (by rfl)) rfl ?_); (first | refine tl_sk rfl rfl rfl rfl ?_ | refine tl_eg rfl rfl rfl (e_callV rfl (.cons rfl (.cons rfl .nil)) (fun w' _ => mhour_c s _ _ _ _ w')) (fun _ _ => ?_)); (first | refine tl_q (y_pick_t rfl rfl) rfl ?_ | refine tl_q (y_pick_f rfl rfl) rfl ?_); refine tl_q (y_assign rfl) rfl ?_; refine tl_nil ?_; ((refine hK2 ?_; try (clear hK2; clear K2)))
  all_goals refine tc_ret ?_; (repeat (first | refine tk_then_ret ?_))
  all_goals (refine tk_ret rfl rfl (.cons (.tmp rfl) .nil) ?_)
  all_goals (
   refine fun w' hw' => ⟨congrArg (fun b => Ending.returned (Value.bool b)) ?_, hw'.fr (by simp)⟩
   unfold sgtOk
   first
   | exact (decide_eq_true (by omega)).symm
   | exact (decide_eq_false (by omega)).symm
   | exact decide_eq_decide.2 (by omega))
theorem manyS_snoc (l : List Pas) (p : Pas) : manyS (l ++ [p]) = manyS l * (p.hi - p.lo + 1) := by
  induction l with
  | nil => simp [manyS]
  | cons q l ih => rw [List.cons_append, manyS, ih, manyS, Int.mul_assoc]
theorem takeG_succ {α : Type} {l : List α} {d : α} {n : Nat} (h : n < l.length) : l.take (n + 1) = l.take n ++ [l.getD n d] := by
  rw [List.take_succ, List.getElem?_eq_getElem h, List.getD_eq_getElem?_getD, List.getElem?_eq_getElem h]; rfl
theorem manyS_bd {l : List Pas} (h : ∀ p ∈ l, 1 ≤ p.hi - p.lo + 1 ∧ p.hi - p.lo + 1 ≤ 10) : 1 ≤ manyS l ∧ manyS l ≤ 10 ^ l.length := by
  induction l with
  | nil => simp [manyS]
  | cons q l ih =>
    obtain ⟨a1, a2⟩ := ih (fun p hp => h p (List.mem_cons_of_mem _ hp))
    obtain ⟨c1, c2⟩ := h q List.mem_cons_self
    rw [manyS, List.length_cons, Int.pow_succ]
    refine ⟨?_, ?_⟩
    · have := Int.mul_le_mul c1 a1 (by omega) (by omega); omega
    · rw [Int.mul_comm]; exact Int.mul_le_mul a2 c2 (by omega) (by exact Int.pow_nonneg (by omega))
theorem pow_bd6 : ∀ n : Fin 7, (10 : Int) ^ n.1 ≤ 1000000 := by decide
theorem manyS_take {s : Smp} (hL : s.L ≤ 9) (hp : s.ps.all (pasOk s) = true) (h6 : s.ps.length ≤ 6) (n : Nat) (hn : n ≤ s.ps.length) : 1 ≤ manyS (s.ps.take n) ∧ manyS (s.ps.take n) ≤ 1000000 := by
  have := manyS_bd (l := s.ps.take n) (fun p hp' => by
    have := List.all_eq_true.1 hp p (List.mem_of_mem_take hp')
    unfold pasOk at this
    rw [decide_eq_true_eq] at this
    omega)
  refine ⟨this.1, Int.le_trans this.2 ?_⟩
  rw [List.length_take, Nat.min_eq_left hn]
  exact pow_bd6 ⟨n, by omega⟩
theorem pas_at {s : Smp} (hp : s.ps.all (pasOk s) = true) {n : Nat} (h : n < s.ps.length) : 0 ≤ (s.ps.getD n pas0).lo ∧ (s.ps.getD n pas0).lo ≤ (s.ps.getD n pas0).hi ∧ (s.ps.getD n pas0).hi ≤ s.L := by
  have := List.all_eq_true.1 hp (s.ps.getD n pas0) (by rw [List.getD_eq_getElem?_getD, List.getElem?_eq_getElem h]; exact List.getElem_mem h)
  unfold pasOk at this
  rw [decide_eq_true_eq] at this
  omega
set_option maxHeartbeats 1000000 in
theorem checkSample_c (s : Smp) (hf : Few s) (tv pv gv : Value) (w : World) (hr : RdSm w s tv pv gv) : CnV Tryz.prog 46 #[smV s tv pv gv] w (vi (chkS s)) := by
  have hr0 := hr
  have hf1 := hf.st
  have hf2 := hf.ps
  have hf3 := hf.sg
  obtain ⟨ad1, cp1, _, _, rfl, _, _⟩ := hr.st.open boE_len false
  obtain ⟨ad2, cp2, b2, o2, rfl, had2, hcell2⟩ := hr.ps.open psE_len pas0
  obtain ⟨ad3, cp3, _, _, rfl, _, _⟩ := hr.sg.open sgE_len sgt0
  refine cnv (vs := [_]) Tryz.func46 rfl rfl ?_
  all_goals refine tc_seq fun K1 hK1 => ?_; refine tc_region ?_; refine tl_e (e_box rfl rfl rfl) rfl (fun b1 _ => ?_); refine tl_q (y_assign rfl) rfl ?_; refine tl_nil ?_; ((refine hK1 ?_; try (clear hK1; clear K1)))
  all_goals refine tc_seq fun K2 hK2 => ?_; refine tc_draw (by kernel_rfl) ?_; refine tx_q 0 rfl (by kernel_rfl) (y_loadW rfl (by repeat constructor) (by rfl)) rfl (fun _ _ _ h => h) (fun _ h => h) ?_; refine tx_p 1 rfl (by kernel_rfl) (y_fn (.cons rfl .nil) .nil) rfl (fun _ _ _ h => h) (fun _ h => h) ?_; refine tx_q 2 rfl (by kernel_rfl) (y_loadW rfl (by repeat constructor) (by rfl)) rfl (fun _ _ _ h => h) (fun _ h => h) ?_; refine tx_p 3 rfl (by kernel_rfl) (y_fn (.cons rfl .nil) .nil) rfl (fun _ _ _ h => h) (fun _ h => h) ?_; refine tx_p 4 rfl (by kernel_rfl) (y_assign rfl) rfl (fun _ _ _ h => h) (fun _ h => h) ?_; refine tx_p 5 rfl (by kernel_rfl) (y_assign rfl) rfl (fun _ _ _ h => h) (fun _ h => h) ?_; refine tx_done (by kernel_rfl) ?_; ((refine hK2 ?_; try (clear hK2; clear K2)))
  all_goals refine tc_seq fun K3 hK3 => ?_; refine tc_block ?_; refine tc_seq fun K4 hK4 => ?_; refine tc_region ?_; refine tl_q (y_field rfl) rfl ?_; refine tl_q (y_load1 rfl (by repeat constructor) (by rfl)) rfl ?_; refine tl_q (y_gtr rfl rfl) rfl ?_; refine tl_q (y_move rfl) rfl ?_; ((refine tl_gs rfl rfl (fun hc => ?_) (fun hc => ?_) <;> (try simp only [qn1, qn2, qn3, qn4, qn5, qn6, qn7, qn8] at hc) <;> (first | refine tl_sk rfl rfl rfl rfl ?_ | refine tl_qg rfl rfl (y_field rfl) rfl ?_)))
  all_goals (first | refine tl_sk rfl rfl rfl rfl ?_ | refine tl_qg rfl rfl (y_load1 rfl (by repeat constructor) (by rfl)) rfl ?_); (first | refine tl_sk rfl rfl rfl rfl ?_ | refine tl_qg rfl rfl (y_gtr rfl rfl) rfl ?_); (first | refine tl_q (y_pick_t rfl rfl) rfl ?_ | refine tl_q (y_pick_f rfl rfl) rfl ?_); refine tl_q (y_move rfl) rfl ?_; ((first | refine tl_sk rfl rfl rfl rfl ?_ | (refine tl_gs rfl rfl (fun hc => ?_) (fun hc => ?_) <;> (try simp only [qn1, qn2, qn3, qn4, qn5, qn6, qn7, qn8] at hc) <;> (first | refine tl_sk rfl rfl rfl rfl ?_ | refine tl_qg rfl rfl (y_field rfl) rfl ?_))))
  all_goals (first | refine tl_sk rfl rfl rfl rfl ?_ | refine tl_qg rfl rfl (y_load1 rfl (by repeat constructor) (by rfl)) rfl ?_); (first | refine tl_sk rfl rfl rfl rfl ?_ | refine tl_qg rfl rfl (y_len rfl) rfl ?_); (first | refine tl_sk rfl rfl rfl rfl ?_ | refine tl_qg rfl rfl (y_gtr rfl rfl) rfl ?_); (first | refine tl_q (y_pick_t rfl rfl) rfl ?_ | refine tl_q (y_pick_f rfl rfl) rfl ?_); refine tl_q (y_move rfl) rfl ?_; ((first | refine tl_sk rfl rfl rfl rfl ?_ | (refine tl_gs rfl rfl (fun hc => ?_) (fun hc => ?_) <;> (try simp only [qn1, qn2, qn3, qn4, qn5, qn6, qn7, qn8] at hc) <;> (first | refine tl_sk rfl rfl rfl rfl ?_ | refine tl_qg rfl rfl (y_field rfl) rfl ?_))))
  all_goals (first | refine tl_sk rfl rfl rfl rfl ?_ | refine tl_qg rfl rfl (y_load1 rfl (by repeat constructor) (by rfl)) rfl ?_); (first | refine tl_sk rfl rfl rfl rfl ?_ | refine tl_qg rfl rfl (y_len rfl) rfl ?_); (first | refine tl_sk rfl rfl rfl rfl ?_ | refine tl_qg rfl rfl (y_gtr rfl rfl) rfl ?_); (first | refine tl_q (y_pick_t rfl rfl) rfl ?_ | refine tl_q (y_pick_f rfl rfl) rfl ?_); refine tl_q (y_assign rfl) rfl ?_; refine tl_nil ?_; ((refine hK4 ?_; try (clear hK4; clear K4)))
  all_goals (
   refine tc_cond rfl (fun hc => ?_) (fun hc => ?_)
   · try simp only [qn1, qn2, qn3, qn4, qn5, qn6, qn7, qn8] at hc
     all_goals refine tc_seq fun K5 hK5 => ?_; refine tc_region ?_; refine tl_q (y_assign rfl) rfl ?_; refine tl_nil ?_; ((refine hK5 ?_; try (clear hK5; clear K5)))
     all_goals refine tc_ret ?_; (repeat (first | refine tk_then_ret ?_ | refine tk_block_ret ?_))
     all_goals (refine tk_ret rfl rfl (.cons (.tmp rfl) .nil) ?_)
     all_goals (
      refine fun w' hw' => ⟨congrArg (fun n => Ending.returned (Value.int .i64 n)) ?_, hw'.fr (by simp)⟩
      unfold chkS
      first
      | (rw [if_pos (by omega)])
      | (rw [if_neg (by omega)]
         refine (if_pos ?_).symm
         first
         | exact .inl (by omega)
         | exact .inr (.inl (by omega))
         | exact .inr (.inr (.inl (by omega)))
         | exact .inr (.inr (.inr (.inl (by omega))))
         | exact .inr (.inr (.inr (.inr (.inl (by omega)))))
         | exact .inr (.inr (.inr (.inr (.inr (.inl (by assumption))))))
         | exact .inr (.inr (.inr (.inr (.inr (.inr (by assumption)))))))
      | (rw [if_neg (by omega), if_neg (by rintro (h | h | h | h | h | h | h) <;> first | omega | (rw [h] at *; contradiction) | simp_all), if_pos (by omega)])
      | (rw [if_neg (by omega), if_neg (by rintro (h | h | h | h | h | h | h) <;> first | omega | (rw [h] at *; contradiction) | simp_all), if_neg (by omega)]))
   · try simp only [qn1, qn2, qn3, qn4, qn5, qn6, qn7, qn8] at hc
     all_goals ((first | (exfalso; with_reducible exact btf hc) | skip))
     all_goals refine tc_seq fun K6 hK6 => ?_; refine tc_region ?_; refine tl_q (y_field rfl) rfl ?_; refine tl_q (y_load1 rfl (by repeat constructor) (by rfl)) rfl ?_; refine tl_q (y_lss rfl rfl) rfl ?_; refine tl_q (y_move rfl) rfl ?_; ((refine tl_gs rfl rfl (fun hc => ?_) (fun hc => ?_) <;> (try simp only [qn1, qn2, qn3, qn4, qn5, qn6, qn7, qn8] at hc) <;> (first | refine tl_sk rfl rfl rfl rfl ?_ | refine tl_qg rfl rfl (y_field rfl) rfl ?_)))
     all_goals (first | refine tl_sk rfl rfl rfl rfl ?_ | refine tl_qg rfl rfl (y_load1 rfl (by repeat constructor) (by rfl)) rfl ?_); (first | refine tl_sk rfl rfl rfl rfl ?_ | refine tl_qg rfl rfl (y_lss rfl rfl) rfl ?_); (first | refine tl_q (y_pick_t rfl rfl) rfl ?_ | refine tl_q (y_pick_f rfl rfl) rfl ?_); refine tl_q (y_move rfl) rfl ?_; ((first | refine tl_sk rfl rfl rfl rfl ?_ | (refine tl_gs rfl rfl (fun hc => ?_) (fun hc => ?_) <;> (try simp only [qn1, qn2, qn3, qn4, qn5, qn6, qn7, qn8] at hc) <;> (first | refine tl_sk rfl rfl rfl rfl ?_ | refine tl_qg rfl rfl (y_field rfl) rfl ?_))))
     all_goals (first | refine tl_sk rfl rfl rfl rfl ?_ | refine tl_qg rfl rfl (y_load1 rfl (by repeat constructor) (by rfl)) rfl ?_); (first | refine tl_sk rfl rfl rfl rfl ?_ | refine tl_eg rfl rfl rfl (e_callV rfl (.cons rfl (.cons rfl (.cons rfl .nil))) (fun w' _ => mwithin_c _ _ _ w')) (fun _ _ => ?_)); (first | refine tl_sk rfl rfl rfl rfl ?_ | refine tl_qg rfl rfl (y_not_dec rfl) rfl ?_); (first | refine tl_q (y_pick_t rfl rfl) rfl ?_ | refine tl_q (y_pick_f rfl rfl) rfl ?_); refine tl_q (y_move rfl) rfl ?_; ((first | refine tl_sk rfl rfl rfl rfl ?_ | (refine tl_gs rfl rfl (fun hc => ?_) (fun hc => ?_) <;> (try simp only [qn1, qn2, qn3, qn4, qn5, qn6, qn7, qn8] at hc) <;> (first | refine tl_sk rfl rfl rfl rfl ?_ | refine tl_qg rfl rfl (y_field rfl) rfl ?_))))
     all_goals (first | refine tl_sk rfl rfl rfl rfl ?_ | refine tl_qg rfl rfl (y_load1 rfl (by repeat constructor) (by rfl)) rfl ?_); (first | refine tl_sk rfl rfl rfl rfl ?_ | refine tl_qg rfl rfl (y_len rfl) rfl ?_); (first | refine tl_sk rfl rfl rfl rfl ?_ | refine tl_qg rfl rfl (y_field rfl) rfl ?_); (first | refine tl_sk rfl rfl rfl rfl ?_ | refine tl_qg rfl rfl (y_load1 rfl (by repeat constructor) (by rfl)) rfl ?_); (first | refine tl_sk rfl rfl rfl rfl ?_ | refine tl_qg rfl rfl (y_neq rfl rfl) rfl ?_); (first | refine tl_q (y_pick_t rfl rfl) rfl ?_ | refine tl_q (y_pick_f rfl rfl) rfl ?_); refine tl_q (y_move rfl) rfl ?_; ((first | refine tl_sk rfl rfl rfl rfl ?_ | (refine tl_gs rfl rfl (fun hc => ?_) (fun hc => ?_) <;> (try simp only [qn1, qn2, qn3, qn4, qn5, qn6, qn7, qn8] at hc) <;> (first | refine tl_sk rfl rfl rfl rfl ?_ | refine tl_qg rfl rfl (y_loadW rfl (by repeat constructor) (by rfl)) rfl ?_))))
     all_goals (first | refine tl_sk rfl rfl rfl rfl ?_ | refine tl_qg rfl rfl (y_field rfl) rfl ?_); (first | refine tl_sk rfl rfl rfl rfl ?_ | refine tl_qg rfl rfl (y_load1 rfl (by repeat constructor) (by rfl)) rfl ?_); (first | refine tl_sk rfl rfl rfl rfl ?_ | refine tl_eg rfl rfl rfl (e_callV rfl (.cons rfl (.cons rfl .nil)) (fun w' _ => mperson_c s (by omega) _ _ _ _ w')) (fun _ _ => ?_)); (first | refine tl_sk rfl rfl rfl rfl ?_ | refine tl_qg rfl rfl (y_not_dec rfl) rfl ?_); (first | refine tl_q (y_pick_t rfl rfl) rfl ?_ | refine tl_q (y_pick_f rfl rfl) rfl ?_); refine tl_q (y_move rfl) rfl ?_; ((first | refine tl_sk rfl rfl rfl rfl ?_ | (refine tl_gs rfl rfl (fun hc => ?_) (fun hc => ?_) <;> (try simp only [qn1, qn2, qn3, qn4, qn5, qn6, qn7, qn8] at hc) <;> (first | refine tl_sk rfl rfl rfl rfl ?_ | refine tl_qg rfl rfl (y_field rfl) rfl ?_))))
     all_goals (first | refine tl_sk rfl rfl rfl rfl ?_ | refine tl_qg rfl rfl (y_load1 rfl (by repeat constructor) (by rfl)) rfl ?_); (first | refine tl_sk rfl rfl rfl rfl ?_ | refine tl_qg rfl rfl (y_move rfl) rfl ?_); (first | refine tl_sk rfl rfl rfl rfl ?_ | refine tl_eg rfl rfl rfl (e_callV rfl (.cons rfl (.cons rfl .nil)) (fun w' hw' => allPs_c 82 #[smV s _ _ _] #[] (pasOk s) s.ps (by omega) _ w' (hr0.ps.fr (hw'.fr (by simp))) (fun x w2 f => by simpa using mpass_c s (by omega) (by omega) x _ _ _ w2))) (fun _ _ => ?_)); (first | refine tl_sk rfl rfl rfl rfl ?_ | refine tl_qg rfl rfl (y_not rfl) rfl ?_); (first | refine tl_q (y_pick_t rfl rfl) rfl ?_ | refine tl_q (y_pick_f rfl rfl) rfl ?_); refine tl_q (y_move rfl) rfl ?_; ((first | refine tl_sk rfl rfl rfl rfl ?_ | (refine tl_gs rfl rfl (fun hc => ?_) (fun hc => ?_) <;> (try simp only [qn1, qn2, qn3, qn4, qn5, qn6, qn7, qn8] at hc) <;> (first | refine tl_sk rfl rfl rfl rfl ?_ | refine tl_qg rfl rfl (y_field rfl) rfl ?_))))
     all_goals (first | refine tl_sk rfl rfl rfl rfl ?_ | refine tl_qg rfl rfl (y_load1 rfl (by repeat constructor) (by rfl)) rfl ?_); (first | refine tl_sk rfl rfl rfl rfl ?_ | refine tl_qg rfl rfl (y_move rfl) rfl ?_); (first | refine tl_sk rfl rfl rfl rfl ?_ | refine tl_eg rfl rfl rfl (e_callV rfl (.cons rfl (.cons rfl .nil)) (fun w' hw' => allSg_c 83 #[smV s _ _ _] #[] (sgtOk s) s.sg (by omega) _ w' (hr0.sg.fr (hw'.fr (by simp))) (fun x w2 f => by simpa using msight_c s (by omega) x _ _ _ w2))) (fun _ _ => ?_)); (first | refine tl_sk rfl rfl rfl rfl ?_ | refine tl_qg rfl rfl (y_not rfl) rfl ?_); (first | refine tl_q (y_pick_t rfl rfl) rfl ?_ | refine tl_q (y_pick_f rfl rfl) rfl ?_); refine tl_q (y_assign rfl) rfl ?_; refine tl_nil ?_; ((refine hK6 ?_; try (clear hK6; clear K6)))
     all_goals (
      refine tc_cond rfl (fun hc => ?_) (fun hc => ?_)
      · try simp only [qn1, qn2, qn3, qn4, qn5, qn6, qn7, qn8] at hc
        all_goals refine tc_seq fun K7 hK7 => ?_; refine tc_region ?_; refine tl_q (y_assign rfl) rfl ?_; refine tl_nil ?_; ((refine hK7 ?_; try (clear hK7; clear K7)))
        all_goals refine tc_ret ?_; (repeat (first | refine tk_then_ret ?_ | refine tk_block_ret ?_))
        all_goals (refine tk_ret rfl rfl (.cons (.tmp rfl) .nil) ?_)
        all_goals (
         refine fun w' hw' => ⟨congrArg (fun n => Ending.returned (Value.int .i64 n)) ?_, hw'.fr (by simp)⟩
         unfold chkS
         first
         | (rw [if_pos (by omega)])
         | (rw [if_neg (by omega)]
            refine (if_pos ?_).symm
            first
            | exact .inl (by omega)
            | exact .inr (.inl (by omega))
            | exact .inr (.inr (.inl (by omega)))
            | exact .inr (.inr (.inr (.inl (by omega))))
            | exact .inr (.inr (.inr (.inr (.inl (by omega)))))
            | exact .inr (.inr (.inr (.inr (.inr (.inl (by assumption))))))
            | exact .inr (.inr (.inr (.inr (.inr (.inr (by assumption)))))))
         | (rw [if_neg (by omega), if_neg (by rintro (h | h | h | h | h | h | h) <;> first | omega | (rw [h] at *; contradiction) | simp_all), if_pos (by omega)])
         | (rw [if_neg (by omega), if_neg (by rintro (h | h | h | h | h | h | h) <;> first | omega | (rw [h] at *; contradiction) | simp_all), if_neg (by omega)]))
      · try simp only [qn1, qn2, qn3, qn4, qn5, qn6, qn7, qn8] at hc
        all_goals ((first | (exfalso; with_reducible exact btf hc) | skip))
        all_goals refine tc_skip ?_; ((refine hK3 ?_; try (clear hK3; clear K3)))
        all_goals refine tc_seq fun K8 hK8 => ?_; refine tc_region ?_; refine tl_q (y_assign rfl) rfl ?_; refine tl_nil ?_; ((refine hK8 ?_; try (clear hK8; clear K8)))
        all_goals refine tc_seq fun K9 hK9 => ?_; refine tc_seq fun K10 hK10 => ?_; refine tc_region ?_; refine tl_q (y_field rfl) rfl ?_; refine tl_q (y_load1 rfl (by repeat constructor) (by rfl)) rfl ?_; refine tl_q (y_len rfl) rfl ?_; refine tl_q (y_move rfl) rfl ?_; refine tl_nil ?_; ((refine hK10 ?_; try (clear hK10; clear K10)))
        all_goals refine tc_block ?_
        all_goals (
         refine tc_loop (fun n : Nat => n ≤ s.ps.length) (fun n => [(5, vi (manyS (s.ps.take n))), (78, .slice ad2 s.ps.length cp2), (79, vi s.ps.length), (80, vi n)]) (fun _ => [(w, [])]) (fun _ => []) (fun n => s.ps.length - n) ?_ ?_
         · exact tk_start 0 (Nat.zero_le _) (.cons rfl (.cons rfl (.cons rfl (.cons rfl .nil)))) (fun _ h => h.subl SB.s SB.s)
         · rintro n hn
           all_goals refine tc_seq fun K11 hK11 => ?_; refine tc_region ?_; refine tl_q (y_lss rfl rfl) rfl ?_; refine tl_nil ?_; ((refine hK11 ?_; try (clear hK11; clear K11)))
           all_goals refine tc_seq fun K12 hK12 => ?_
           all_goals (
            refine tc_cond rfl (fun hc => ?_) (fun hc => ?_)
            · try simp only [qn1, qn2, qn3, qn4, qn5, qn6, qn7, qn8] at hc
              all_goals refine tc_skip ?_; ((refine hK12 ?_; try (clear hK12; clear K12)))
              all_goals refine tc_seq fun K13 hK13 => ?_; refine tc_block ?_; refine tc_seq fun K14 hK14 => ?_; refine tc_region ?_; refine tl_q (y_index rfl rfl (by omega) (had2 (by omega))) rfl ?_; ((refine tl_q (y_loadNo (n := 5) (vs := [vi (s.ps.getD n pas0).b, vi (s.ps.getD n pas0).fr, vi (s.ps.getD n pas0).to, vi (s.ps.getD n pas0).lo, vi (s.ps.getD n pas0).hi]) rfl (fun w' hw' => by rw [show Int.toNat (n : Int) * 5 = n * 5 from by omega]; exact hcell2 w' [] (hw'.fr (by simp)) (by simp) n (by omega))) rfl ?_))
              all_goals refine tl_e (e_allocN rfl) rfl (fun _ _ => ?_); refine tl_e (e_storeW rfl rfl (by repeat constructor) (by rfl) (by rfl) (by simp [Value.oneCell'])) rfl (fun _ _ => ?_); refine tl_nil ?_; ((refine hK14 ?_; try (clear hK14; clear K14)))
              all_goals (have hpo : s.ps.all (pasOk s) = true := by assumption)
              all_goals ((have hp1 := pas_at hpo (n := n) (by omega); have hb1 := manyS_take (by omega) hpo (by omega) n (by omega); have hb2 := manyS_take (by omega) hpo (by omega) (n + 1) (by omega); have hsu := manyS_snoc (s.ps.take n) (s.ps.getD n pas0); rw [← takeG_succ (by omega)] at hsu; rw [hsu] at hb2))
              all_goals refine tc_region ?_; refine tl_q (y_move rfl) rfl ?_; refine tl_q (y_field rfl) rfl ?_; refine tl_q (y_field rfl) rfl ?_; refine tl_q (y_load1 rfl (by repeat constructor) (by rfl)) rfl ?_; refine tl_q (y_field rfl) rfl ?_; refine tl_q (y_field rfl) rfl ?_; refine tl_q (y_load1 rfl (by repeat constructor) (by rfl)) rfl ?_; refine tl_q (y_sub rfl rfl (by omega)) rfl ?_; refine tl_q (y_add rfl rfl (by omega)) rfl ?_; refine tl_q (y_mul rfl rfl (by omega)) rfl ?_; refine tl_q (y_assign rfl) rfl ?_; refine tl_nil ?_; ((refine hK13 ?_; try (clear hK13; clear K13)))
              all_goals refine tc_region ?_; refine tl_q (y_add rfl rfl (by omega)) rfl ?_; refine tl_q (y_move rfl) rfl ?_; refine tl_nil ?_
              all_goals (
               exact tk_round (n + 1) (by omega) (by omega) (.cons (by rw [hsu]; rfl) (.cons rfl (.cons rfl (.cons rfl .nil)))) (fun _ h => h.subl SB.s SB.s))
            · try simp only [qn1, qn2, qn3, qn4, qn5, qn6, qn7, qn8] at hc
              all_goals refine tc_exit ?_; ((refine hK9 ?_; try (clear hK9; clear K9)))
              all_goals refine tc_seq fun K15 hK15 => ?_; refine tc_seq fun K16 hK16 => ?_; (have htk : s.ps.take n = s.ps := List.take_of_length_le (by omega))
              all_goals (rw [htk])
              all_goals refine tc_region ?_; refine tl_q (y_move rfl) rfl ?_; refine tl_q (y_gtr rfl rfl) rfl ?_; refine tl_nil ?_; ((refine hK16 ?_; try (clear hK16; clear K16)))
              all_goals (
               refine tc_cond rfl (fun hc => ?_) (fun hc => ?_)
               · try simp only [qn1, qn2, qn3, qn4, qn5, qn6, qn7, qn8] at hc
                 all_goals refine tc_seq fun K17 hK17 => ?_; refine tc_region ?_; refine tl_q (y_assign rfl) rfl ?_; refine tl_nil ?_; ((refine hK17 ?_; try (clear hK17; clear K17)))
                 all_goals refine tc_ret ?_; (repeat (refine tk_then_ret ?_))
                 all_goals (refine tk_ret rfl rfl (.cons (.tmp rfl) .nil) ?_)
                 all_goals (
                  refine fun w' hw' => ⟨congrArg (fun n => Ending.returned (Value.int .i64 n)) ?_, hw'.fr (by simp)⟩
                  unfold chkS
                  first
                  | (rw [if_pos (by omega)])
                  | (rw [if_neg (by omega)]
                     refine (if_pos ?_).symm
                     first
                     | exact .inl (by omega)
                     | exact .inr (.inl (by omega))
                     | exact .inr (.inr (.inl (by omega)))
                     | exact .inr (.inr (.inr (.inl (by omega))))
                     | exact .inr (.inr (.inr (.inr (.inl (by omega)))))
                     | exact .inr (.inr (.inr (.inr (.inr (.inl (by assumption))))))
                     | exact .inr (.inr (.inr (.inr (.inr (.inr (by assumption)))))))
                  | (rw [if_neg (by omega), if_neg (by rintro (h | h | h | h | h | h | h) <;> first | omega | (rw [h] at *; contradiction) | simp_all), if_pos (by omega)])
                  | (rw [if_neg (by omega), if_neg (by rintro (h | h | h | h | h | h | h) <;> first | omega | (rw [h] at *; contradiction) | simp_all), if_neg (by omega)]))
               · try simp only [qn1, qn2, qn3, qn4, qn5, qn6, qn7, qn8] at hc
                 all_goals refine tc_skip ?_; ((refine hK15 ?_; try (clear hK15; clear K15)))
                 all_goals refine tc_seq fun K18 hK18 => ?_; refine tc_region ?_; refine tl_q (y_assign rfl) rfl ?_; refine tl_nil ?_; ((refine hK18 ?_; try (clear hK18; clear K18)))
                 all_goals refine tc_ret ?_; (repeat (first | refine tk_then_ret ?_))
                 all_goals (refine tk_ret rfl rfl (.cons (.tmp rfl) .nil) ?_)
                 all_goals (
                  refine fun w' hw' => ⟨congrArg (fun n => Ending.returned (Value.int .i64 n)) ?_, hw'.fr (by simp)⟩
                  unfold chkS
                  first
                  | (rw [if_pos (by omega)])
                  | (rw [if_neg (by omega)]
                     refine (if_pos ?_).symm
                     first
                     | exact .inl (by omega)
                     | exact .inr (.inl (by omega))
                     | exact .inr (.inr (.inl (by omega)))
                     | exact .inr (.inr (.inr (.inl (by omega))))
                     | exact .inr (.inr (.inr (.inr (.inl (by omega)))))
                     | exact .inr (.inr (.inr (.inr (.inr (.inl (by assumption))))))
                     | exact .inr (.inr (.inr (.inr (.inr (.inr (by assumption)))))))
                  | (rw [if_neg (by omega), if_neg (by rintro (h | h | h | h | h | h | h) <;> first | omega | (rw [h] at *; contradiction) | simp_all), if_pos (by omega)])
                  | (rw [if_neg (by omega), if_neg (by rintro (h | h | h | h | h | h | h) <;> first | omega | (rw [h] at *; contradiction) | simp_all), if_neg (by omega)])))))))
end Go.Sp
/-
  Slices that a function makes by appending: nil, or at the head of a block of its own; literals of slices of structs.
-/
namespace Go.Sp
open Go Go.Proofs
inductive PVG (F : List (Nat × Value)) : Nat → Nat → List (Nat × Operand) → List Value → Prop
  | nil {sz k : Nat} : PVG F sz k [] []
  | agg {sz k : Nat} {x : Operand} {cs : List Value} {rest : List (Nat × Operand)} {out : List Value} : evalO F x = some (.agg cs.toArray) → cs.length = sz → PVG F sz (k + 1) rest out → PVG F sz k ((k, x) :: rest) (cs ++ out)
theorem PVG.length {F : List (Nat × Value)} {sz k : Nat} {ps : List (Nat × Operand)} {out : List Value} (h : PVG F sz k ps out) : out.length = ps.length * sz := by
  induction h with
  | nil => simp
  | agg _ hl _ ih => rw [List.length_append, ih, hl, List.length_cons, Nat.add_mul]; omega
theorem foldlSet (o : Nat) : ∀ (cs : List Value) (n : Nat) (pre old junk : List Value), pre.length = o + n → old.length = cs.length →
    (cs.zipIdx n).foldl (fun (a : Array Value) (p : Value × Nat) => a.setIfInBounds (o + p.2) p.1) (pre ++ old ++ junk).toArray = (pre ++ cs ++ junk).toArray := by
  intro cs
  induction cs with
  | nil => intro n pre old junk _ ho; obtain rfl : old = [] := by simpa using ho
           simp
  | cons c cs ih =>
    intro n pre old junk hp ho
    match old, ho with
    | z :: old, ho =>
      rw [List.zipIdx_cons, List.foldl_cons]
      have e : ((pre ++ z :: old ++ junk).toArray : Array Value).setIfInBounds (o + n) c = ((pre ++ [c]) ++ old ++ junk).toArray := by
        rw [List.setIfInBounds_toArray]
        congr 1
        rw [← hp]
        simp
      dsimp only
      rw [e, ih (n + 1) (pre ++ [c]) old junk (by simp [hp]; omega) (by simpa using ho)]
      simp
theorem PVG.fill {F : List (Nat × Value)} {sz k : Nat} {ps : List (Nat × Operand)} {out : List Value} (h : PVG F sz k ps out) {N : NN} {a : Act} (ht : TF N F a) : ∀ (pre junk : List Value), pre.length = k * sz → junk.length = ps.length * sz →
    Instr.fill (fun i => some (i * sz, sz)) (pre ++ junk).toArray (ps.map fun (i, x) => (i, a.eval x)) = some (pre ++ out).toArray := by
  induction h with
  | nil => intro pre junk _ hj; obtain rfl : junk = [] := by simpa using hj
           rfl
  | @agg k x cs rest out hx hl _ ih =>
    intro pre junk hp hj
    simp only [List.length_cons, Nat.add_mul, Nat.one_mul] at hj
    have hsp : junk = junk.take sz ++ junk.drop sz := (List.take_append_drop _ _).symm
    have := ih (pre ++ cs) (junk.drop sz) (by rw [List.length_append, hp, hl, Nat.add_mul]; omega) (by simp; omega)
    simp only [List.map_cons, ht.eval hx]
    refine fill_cons (o := k * sz) (sz := sz) (c := cs.toArray) rfl rfl (by simpa using hl) (by simp; omega) ?_
    have e := foldlSet (k * sz) cs 0 pre (junk.take sz) (junk.drop sz) (by simpa using hp) (by simp; omega)
    rw [List.append_assoc, ← hsp] at e
    rw [Array.zipIdx_toArray, List.foldl_toArray]
    refine Eq.trans (congrArg (fun z => Instr.fill _ z _) ?_) (this.trans (by rw [List.append_assoc]))
    rw [← e]
theorem e_bsliceG {P : Program} {N : NN} {F : List (Nat × Value)} {bs : List (World × List Nat)} {H : List (Nat × Obj)} {ty : TypeId} {pos : String} {after : Array Edge} {g : Option (Nat × Bool)} {dd : Tmp} {t e : TypeId} {sz by_ len : Nat} {ps : List (Nat × Operand)} {out : List Value} [hs : TySlice P t e sz] [hi : TyElem P e sz by_] (hd : Nat.blt dd N.n = true) (hp : PVG F sz 0 ps out) (hl : ps.length = len) (hb : Nat.ble (len * sz) 16777216 = true) :
    OpE P ⟨some dd, .buildSlice t len ps.toArray, ty, pos, after, g⟩ N F bs H (fun _ : Nat => True) (fun b => (dd, .slice (some ⟨b, 0, none⟩) len len) :: F) (fun _ => bs) (fun b => (b, .cells out.toArray e (0, 0)) :: H) := by
  unfold OpE
  intro a w ht hw K Q hK
  obtain ⟨i, z, h1, h2, h3, h4, h5⟩ := hi.info
  have hb' : ¬ len * sz > 2 ^ 24 := by have := Nat.le_of_ble_eq_true hb; omega
  subst hl
  have hmap : (ps.toArray.map fun (i, x) => (i, a.eval x)).toList = ps.map fun (i, x) => (i, a.eval x) := by simp
  have key : ∀ zero : Array Value, Instr.fill (fun i => some (i * sz, sz)) ((Array.range (ps.length * sz)).map (zero[· % zero.size]!)) (ps.map fun (i, x) => (i, a.eval x)) = some out.toArray := fun zero => by
    have := hp.fill ht [] ((Array.range (ps.length * sz)).map (zero[· % zero.size]!)).toList (by simp) (by simp)
    rw [List.nil_append, Array.toArray_toList] at this
    exact this
  have hrun : (Instr.buildSlice t ps.length (ps.toArray.map fun (i, x) => (i, a.eval x))).run P w = .ok (.slice (some ⟨w.heap.size, 0, none⟩) ps.length ps.length) (w.alloc (.cells out.toArray e)) := by
    unfold Instr.buildSlice
    simp only [Sem.run_bind, underlying_run hs.ty, Result.andThen, sizeOf_run hs.info, hb', if_false]
    split
    · simp only [Sem.run_bind, Sem.run_pure, Result.andThen, hmap, key, newRow, run_newObj]; rfl
    · simp only [Sem.run_bind, zeroValue_run h1 h2, Sem.run_pure, Result.andThen, hmap, key, newRow, run_newObj]; rfl
  unfold Oper.wp
  simp only [execOp, Sem.run_bind, hrun, Result.andThen, Sem.run_pure, Oper.upon]
  exact hK w.heap.size _ _ trivial (ht.put hd _) (hw.alloc _)
abbrev OwnB := Option (Nat × Nat × List Value)
def ouA : OwnB → Option Addr × Nat
  | none => (none, 0)
  | some (b, cap, _) => (some ⟨b, 0, none⟩, cap)
abbrev ouV (n : Nat) (oo : OwnB) : Value := .slice (ouA oo).1 n (ouA oo).2
/-- The block of the own slice, if there is one. -/
def slE {α : Type} (e : TypeId) (enc : α → List Value) (xs : List α) : OwnB → List (Nat × Obj)
  | none => []
  | some (b, _, junk) => [(b, .cells (xs.flatMap enc ++ junk).toArray e (0, 0))]
def okE {α : Type} (k : Nat) (xs : List α) : OwnB → Prop
  | none => xs = []
  | some (_, cap, junk) => xs.length ≤ cap ∧ junk.length = (cap - xs.length) * k
/-- Z is a part of H, in whose place H' has Z'. -/
inductive HT (Z Z' : List (Nat × Obj)) : List (Nat × Obj) → List (Nat × Obj) → Prop
  | all : HT Z Z' Z Z'
  | here {T : List (Nat × Obj)} : HT Z Z' (Z ++ T) (Z' ++ T)
  | tail {p : Nat × Obj} {H H' : List (Nat × Obj)} : HT Z Z' H H' → HT Z Z' (p :: H) (p :: H')
  | skip {Y H H' : List (Nat × Obj)} : HT Z Z' H H' → HT Z Z' (Y ++ H) (Y ++ H')
theorem HT.split {Z Z' H H' : List (Nat × Obj)} (h : HT Z Z' H H') : ∃ L T, H = L ++ (Z ++ T) ∧ H' = L ++ (Z' ++ T) := by
  induction h with
  | all => exact ⟨[], [], by simp, by simp⟩
  | here => exact ⟨[], _, rfl, rfl⟩
  | @tail p H H' _ ih => obtain ⟨L, T, rfl, rfl⟩ := ih; exact ⟨p :: L, T, rfl, rfl⟩
  | @skip Y H H' _ ih => obtain ⟨L, T, rfl, rfl⟩ := ih; exact ⟨Y ++ L, T, by simp, by simp⟩
theorem HD.mid {b : Nat} {o : Obj} : ∀ (L : List (Nat × Obj)) {T : List (Nat × Obj)}, HD b o (L ++ ((b, o) :: T)) (L ++ T)
  | [], _ => .head
  | _ :: L, _ => .tail (HD.mid L)
theorem HG.seg {bs : List (World × List Nat)} {Z H H' : List (Nat × Obj)} {w : World} (hw : HG bs H w) (h : HT Z [] H H') : ∀ q ∈ Z, q ∈ H := by
  obtain ⟨L, T, rfl, _⟩ := h.split
  intro q hq
  simp [hq]
theorem one_flat {α : Type} {enc : α → List Value} (h : ∀ x, one' (enc x)) (xs : List α) : one' (xs.flatMap enc) := fun u hu => by
  obtain ⟨x, _, hx⟩ := List.mem_flatMap.1 hu
  exact h x u hx
theorem e_appendE {P : Program} {N : NN} {F : List (Nat × Value)} {bs : List (World × List Nat)} {H : List (Nat × Obj)} {ty : TypeId} {pos : String} {after : Array Edge} {g : Option (Nat × Bool)} {dd : Tmp} {t e : TypeId} {k by_ : Nat} [hs : TySlice P t e k] [hi : TyElem P e k by_] {α : Type} {enc : α → List Value} {xs ys : List α} {oo : OwnB} {x y : Operand} {xv : Value} {H' : OwnB → List (Nat × Obj)}
    (hk : ∀ x, (enc x).length = k) (ho : ∀ x, one' (enc x)) (hd : Nat.blt dd N.n = true) (hx : evalO F x = some (ouV xs.length oo)) (hy : evalO F y = some xv) (hok : okE k xs oo) (hH : ∀ oo', HT (slE e enc xs oo) (slE e enc (xs ++ ys) oo') H (H' oo')) (hr : ∀ w, HG bs H w → RdS k enc w xv ys) (hsm : xs.length + ys.length ≤ 100000) (hby : Nat.ble by_ 1000 = true) :
    OpE P ⟨some dd, .call ⟨.builtin .append, #[x, y], #[t, t]⟩, ty, pos, after, g⟩ N F bs H (fun oo' : OwnB => okE k (xs ++ ys) oo') (fun oo' => (dd, ouV (xs ++ ys).length oo') :: F) (fun _ => bs) H' := by
  have h1 := one_flat ho ys
  rcases oo with _ | ⟨b, cap, junk⟩
  · have hxs : xs = [] := hok
    subst hxs
    by_cases hn : ys.length = 0
    · have hys : ys = [] := List.eq_nil_of_length_eq_zero hn
      subst hys
      unfold OpE
      intro a w ht hw K Q hK
      obtain ⟨_, ad, cap, rfl, _⟩ := hr w hw
      have h0 := e_append_nil0 (P := P) (N := N) (F := F) (bs := bs) (H := H) (ty := ty) (pos := pos) (after := after) (g := g) (dd := dd) (t := t) (x := x) (y := y) hd hx hy
      unfold OpE at h0
      refine h0 a w ht hw K Q fun _ a' w' _ h2 h3 => hK none a' w' rfl h2 ?_
      obtain ⟨L, T, e1, e2⟩ := (hH none).split
      have : H' none = H := by rw [e1, e2]; rfl
      rw [this]; exact h3
    · unfold OpE
      intro a w ht hw K Q hK
      have h0 := e_append_nil (P := P) (N := N) (F := F) (bs := bs) (H := H) (ty := ty) (pos := pos) (after := after) (g := g) (dd := dd) (t := t) (x := x) (y := y) (vs := ys.flatMap enc) hd hx hy hr h1 (by omega) (by simpa using hsm) hby
      unfold OpE at h0
      refine h0 a w ht hw K Q fun r a' w' h1 h2 h3 => hK (some r) a' w' ?_ ?_ ?_
      · show ([] ++ ys).length ≤ _ ∧ _
        rw [List.nil_append]; exact h1
      · show TF N ((dd, .slice (some ⟨r.1, 0, none⟩) ([] ++ ys).length r.2.1) :: F) a'
        rw [List.nil_append]; exact h2
      · obtain ⟨L, T, e1, e2⟩ := (hH (some r)).split
        rw [e2]
        refine h3.perm ?_
        rw [e1]
        show ((r.1, Obj.cells (ys.flatMap enc ++ r.2.2).toArray e (0, 0)) :: (L ++ T)).Perm (L ++ ((r.1, Obj.cells (([] ++ ys).flatMap enc ++ r.2.2).toArray e (0, 0)) :: T))
        rw [List.nil_append]
        exact List.perm_middle.symm
  · obtain ⟨hc1, hc2⟩ := hok
    obtain ⟨L, T, e1, _⟩ := (hH none).split
    unfold OpE
    intro a w ht hw K Q hK
    have h0 := e_append_own (P := P) (N := N) (F := F) (bs := bs) (H := H) (H' := L ++ T) (ty := ty) (pos := pos) (after := after) (g := g) (dd := dd) (t := t) (x := x) (y := y) (old := xs.flatMap enc) (junk := junk) (vs := ys.flatMap enc) hd hx hy (by rw [e1]; exact HD.mid L) (flatS_len hk xs) hc2 hc1 hr h1 hsm hby
    unfold OpE at h0
    refine h0 a w ht hw K Q fun r a' w' h1 h2 h3 => hK (some r) a' w' ?_ ?_ ?_
    · show (xs ++ ys).length ≤ _ ∧ _
      rw [List.length_append]; exact h1
    · show TF N ((dd, .slice (some ⟨r.1, 0, none⟩) (xs ++ ys).length r.2.1) :: F) a'
      rw [List.length_append]; exact h2
    · obtain ⟨L', T', e3, e4⟩ := (hH (some r)).split
      have hLT : (L ++ T).Perm (L' ++ T') := by
        have hee : L ++ (slE e enc xs (some (b, cap, junk)) ++ T) = L' ++ (slE e enc xs (some (b, cap, junk)) ++ T') := e1.symm.trans e3
        have p1 : (L ++ (slE e enc xs (some (b, cap, junk)) ++ T)).Perm (slE e enc xs (some (b, cap, junk)) ++ (L ++ T)) := by
          rw [← List.append_assoc, ← List.append_assoc]; exact List.Perm.append_right _ List.perm_append_comm
        have p2 : (L' ++ (slE e enc xs (some (b, cap, junk)) ++ T')).Perm (slE e enc xs (some (b, cap, junk)) ++ (L' ++ T')) := by
          rw [← List.append_assoc, ← List.append_assoc]; exact List.Perm.append_right _ List.perm_append_comm
        rw [hee] at p1
        exact (List.perm_append_left_iff _).1 (p1.symm.trans p2)
      rw [e4]
      refine h3.perm ?_
      show ((r.1, Obj.cells (xs.flatMap enc ++ ys.flatMap enc ++ r.2.2).toArray e (0, 0)) :: (L ++ T)).Perm (L' ++ ((r.1, Obj.cells ((xs ++ ys).flatMap enc ++ r.2.2).toArray e (0, 0)) :: T'))
      rw [List.flatMap_append]
      exact (hLT.cons _).trans List.perm_middle.symm
/-- It reads as what was appended. -/
theorem RdS.ofO {α : Type} {k : Nat} {enc : α → List Value} (hk : ∀ x, (enc x).length = k) {bs : List (World × List Nat)} {H H' : List (Nat × Obj)} {w : World} {xs : List α} {e : TypeId} {oo : OwnB} (hok : okE k xs oo) (hw : HG bs H w) (hm : HT (slE e enc xs oo) [] H H') : RdS k enc w (ouV xs.length oo) xs := by
  rcases oo with _ | ⟨b, cap, junk⟩
  · obtain rfl : xs = [] := hok
    exact RdS.nil k enc w 0
  · have hq := hw.heap _ (hw.seg hm (b, .cells (xs.flatMap enc ++ junk).toArray e (0, 0)) List.mem_cons_self)
    refine ⟨flatS_len hk xs, some ⟨b, 0, none⟩, cap, rfl, fun _ => ⟨b, 0, rfl, ?_⟩⟩
    have := CA_pre (xs.flatMap enc) junk e (0, 0)
    rw [flatS_len hk] at this
    exact this.cells hq
theorem NewS.ofO {α : Type} {enc : α → List Value} {bs : List (World × List Nat)} {H H' : List (Nat × Obj)} {w w0 : World} {xs : List α} {e : TypeId} {oo : OwnB} {n : Nat} (hw : HG bs H w) (hm : HT (slE e enc xs oo) [] H H') (hb : (w0, []) ∈ bs) : NewS w0 (ouV n oo) := by
  rcases oo with _ | ⟨b, cap, junk⟩
  · exact NewS.nil _ _ _
  · intro p m c h
    cases h
    exact (hw.own _ (hw.seg hm (b, .cells (xs.flatMap enc ++ junk).toArray e (0, 0)) List.mem_cons_self) (w0, []) hb).resolve_left (by simp)
theorem RdS.own0 {α : Type} {k : Nat} {enc : α → List Value} (hk : ∀ x, (enc x).length = k) {bs : List (World × List Nat)} {H : List (Nat × Obj)} {w : World} {b : Nat} {xs : List α} {e : TypeId} {f : Nat × Nat} {cap : Nat} (hw : HG bs H w) (hm : HM b (.cells (xs.flatMap enc).toArray e f) H) : RdS k enc w (.slice (some ⟨b, 0, none⟩) xs.length cap) xs :=
  RdS.own (junk := []) hk hw (by rw [List.append_nil]; exact hm)
def inE (n : Int) : List Value := [vi n]
theorem inE_len (n : Int) : (inE n).length = 1 := rfl
theorem inE_one (n : Int) : one' (inE n) := fun u hu => by obtain rfl := List.mem_singleton.1 hu; rfl
theorem boE_one (b : Bool) : one' (boE b) := fun u hu => by obtain rfl := List.mem_singleton.1 hu; rfl
theorem psE_one (p : Pas) : one' (psE p) := fun u hu => by simp only [psE, List.mem_cons, List.not_mem_nil, or_false] at hu; rcases hu with rfl | rfl | rfl | rfl | rfl <;> rfl
theorem sgE_one (p : Sgt) : one' (sgE p) := fun u hu => by simp only [sgE, List.mem_cons, List.not_mem_nil, or_false] at hu; rcases hu with rfl | rfl | rfl <;> rfl
theorem RdS.toI {w : World} {v : Value} {xs : List Int} (h : RdS 1 inE w v xs) : RdI w v xs := RdS.int.1 h
theorem RdI.toS {w : World} {v : Value} {xs : List Int} (h : RdI w v xs) : RdS 1 inE w v xs := RdS.int.2 h
theorem slE_none {α : Type} {e : TypeId} {enc : α → List Value} {xs : List α} : slE e enc xs none = [] := rfl
theorem slE_some {α : Type} {e : TypeId} {enc : α → List Value} {xs : List α} {b c : Nat} {j : List Value} : slE e enc xs (some (b, c, j)) = [(b, .cells (xs.flatMap enc ++ j).toArray e (0, 0))] := rfl
attribute [irreducible] slE
end Go.Sp
/-
  Package sample: what can be done at a spot.
-/
namespace Go.Sp
open Go Go.Proofs
abbrev gpV (x st : Bool) : Value := .agg #[.bool x, .bool st]
theorem keep_c (x st : Bool) (w : World) : CnV Tryz.prog 126 #[gpV x st] w (.tuple #[.bool x, .bool true]) := by
  refine cnv (vs := [_]) Tryz.func126 rfl rfl ?_
  all_goals refine tc_seq fun K1 hK1 => ?_
  all_goals refine tc_region ?_
  all_goals refine tl_e (e_box rfl rfl rfl) rfl (fun b1 _ => ?_)
  all_goals refine tl_q (y_assign rfl) rfl ?_
  all_goals refine tl_q (y_assign rfl) rfl ?_
  all_goals refine tl_nil ?_
  all_goals (refine hK1 ?_; try (clear hK1; clear K1))
  all_goals refine tc_seq fun K2 hK2 => ?_
  all_goals refine tc_region ?_
  all_goals refine tl_q (y_field rfl) rfl ?_
  all_goals refine tl_q (y_load1 rfl (by repeat constructor) (by rfl)) rfl ?_
  all_goals refine tl_q (y_assign rfl) rfl ?_
  all_goals refine tl_q (y_assign rfl) rfl ?_
  all_goals refine tl_nil ?_
  all_goals (refine hK2 ?_; try (clear hK2; clear K2))
  all_goals refine tc_ret ?_
  all_goals (repeat (first | refine tk_then_ret ?_ | refine tk_block_ret ?_ | refine tk_scope_ret ?_))
  all_goals first | refine tk_ret rfl rfl (.cons (.tmp rfl) (.cons (.tmp rfl) .nil)) ?_ | refine tk_retM rfl (by repeat constructor) rfl (.cons (.tmp rfl) (.cons (.tmp rfl) .nil)) ?_
  all_goals (
   exact fun w' hw' => ⟨rfl, hw'.fr (by simp)⟩)
theorem breaks_c (x st : Bool) (w : World) : CnV Tryz.prog 127 #[gpV x st] w (.tuple #[.bool true, .bool (!x)]) := by
  refine cnv (vs := [_]) Tryz.func127 rfl rfl ?_
  all_goals refine tc_seq fun K1 hK1 => ?_
  all_goals refine tc_region ?_
  all_goals refine tl_e (e_box rfl rfl rfl) rfl (fun b1 _ => ?_)
  all_goals refine tl_q (y_assign rfl) rfl ?_
  all_goals refine tl_q (y_assign rfl) rfl ?_
  all_goals refine tl_nil ?_
  all_goals (refine hK1 ?_; try (clear hK1; clear K1))
  all_goals refine tc_seq fun K2 hK2 => ?_
  all_goals refine tc_draw (by kernel_rfl) ?_
  all_goals refine tx_p 0 rfl (by kernel_rfl) (y_field rfl) rfl (fun _ _ _ h => h) (fun _ h => h) ?_
  all_goals refine tx_q 1 rfl (by kernel_rfl) (y_load1 rfl (by repeat constructor) (by rfl)) rfl (fun _ _ _ h => h) (fun _ h => h) ?_
  all_goals (first | refine tx_p 2 rfl (by kernel_rfl) (y_not_dec rfl) rfl (fun _ _ _ h => h) (fun _ h => h) ?_ | refine tx_p 2 rfl (by kernel_rfl) (y_not rfl) rfl (fun _ _ _ h => h) (fun _ h => h) ?_)
  all_goals refine tx_p 3 rfl (by kernel_rfl) (y_assign rfl) rfl (fun _ _ _ h => h) (fun _ h => h) ?_
  all_goals refine tx_p 4 rfl (by kernel_rfl) (y_assign rfl) rfl (fun _ _ _ h => h) (fun _ h => h) ?_
  all_goals refine tx_done (by kernel_rfl) ?_
  all_goals (refine hK2 ?_; try (clear hK2; clear K2))
  all_goals refine tc_ret ?_
  all_goals (repeat (first | refine tk_then_ret ?_ | refine tk_block_ret ?_ | refine tk_scope_ret ?_))
  all_goals first | refine tk_ret rfl rfl (.cons (.tmp rfl) (.cons (.tmp rfl) .nil)) ?_ | refine tk_retM rfl (by repeat constructor) rfl (.cons (.tmp rfl) (.cons (.tmp rfl) .nil)) ?_
  all_goals (
   exact fun w' hw' => ⟨rfl, hw'.fr (by simp)⟩)
theorem seals_c (x st : Bool) (w : World) : CnV Tryz.prog 128 #[gpV x st] w (.tuple #[.bool false, .bool (x && st)]) := by
  cases x <;> cases st
  all_goals refine cnv (vs := [_]) Tryz.func128 rfl rfl ?_
  all_goals refine tc_seq fun K1 hK1 => ?_
  all_goals refine tc_region ?_
  all_goals refine tl_e (e_box rfl rfl rfl) rfl (fun b1 _ => ?_)
  all_goals refine tl_q (y_assign rfl) rfl ?_
  all_goals refine tl_q (y_assign rfl) rfl ?_
  all_goals refine tl_nil ?_
  all_goals (refine hK1 ?_; try (clear hK1; clear K1))
  all_goals refine tc_seq fun K2 hK2 => ?_
  all_goals refine tc_draw (by kernel_rfl) ?_
  all_goals refine tx_p 0 rfl (by kernel_rfl) (y_field rfl) rfl (fun _ _ _ h => h) (fun _ h => h) ?_
  all_goals refine tx_q 1 rfl (by kernel_rfl) (y_load1 rfl (by repeat constructor) (by rfl)) rfl (fun _ _ _ h => h) (fun _ h => h) ?_
  all_goals refine tx_p 2 rfl (by kernel_rfl) (y_move rfl) rfl (fun _ _ _ h => h) (fun _ h => h) ?_
  all_goals (first | refine tx_sk 3 rfl (by kernel_rfl) rfl rfl rfl rfl (fun _ _ _ h => h) (fun _ h => h) ?_ | refine tx_pg 3 rfl (by kernel_rfl) rfl rfl (y_field rfl) rfl (fun _ _ _ h => h) (fun _ h => h) ?_ | refine tx_su 3 rfl (by kernel_rfl) rfl rfl rfl (fun _ _ _ h => h) (fun _ h => h) ?_ | (refine tx_gs 6 rfl (fun hc => ?_) (fun hc => ?_) <;> (try simp only [qn1, qn2, qn3, qn4, qn5, qn6, qn7, qn8] at hc) <;> (first | (exfalso; omega) | refine tx_sk 3 rfl (by kernel_rfl) rfl rfl rfl rfl (fun _ _ _ h => h) (fun _ h => h) ?_ | refine tx_pg 3 rfl (by kernel_rfl) rfl rfl (y_field rfl) rfl (fun _ _ _ h => h) (fun _ h => h) ?_ | refine tx_su 3 rfl (by kernel_rfl) rfl rfl rfl (fun _ _ _ h => h) (fun _ h => h) ?_)))
  all_goals (first | refine tx_sk 4 rfl (by kernel_rfl) rfl rfl rfl rfl (fun _ _ _ h => h) (fun _ h => h) ?_ | refine tx_qg 4 rfl (by kernel_rfl) rfl rfl (y_load1 rfl (by repeat constructor) (by rfl)) rfl (fun _ _ _ h => h) (fun _ h => h) ?_ | refine tx_su 4 rfl (by kernel_rfl) rfl rfl rfl (fun _ _ _ h => h) (fun _ h => h) ?_ | (refine tx_gs 6 rfl (fun hc => ?_) (fun hc => ?_) <;> (try simp only [qn1, qn2, qn3, qn4, qn5, qn6, qn7, qn8] at hc) <;> (first | (exfalso; omega) | refine tx_sk 4 rfl (by kernel_rfl) rfl rfl rfl rfl (fun _ _ _ h => h) (fun _ h => h) ?_ | refine tx_qg 4 rfl (by kernel_rfl) rfl rfl (y_load1 rfl (by repeat constructor) (by rfl)) rfl (fun _ _ _ h => h) (fun _ h => h) ?_ | refine tx_su 4 rfl (by kernel_rfl) rfl rfl rfl (fun _ _ _ h => h) (fun _ h => h) ?_)))
  all_goals (first | refine tx_p 5 rfl (by kernel_rfl) (y_pick_t rfl rfl) rfl (fun _ _ _ h => h) (fun _ h => h) ?_ | refine tx_p 5 rfl (by kernel_rfl) (y_pick_f rfl rfl) rfl (fun _ _ _ h => h) (fun _ h => h) ?_)
  all_goals refine tx_p 6 rfl (by kernel_rfl) (y_assign rfl) rfl (fun _ _ _ h => h) (fun _ h => h) ?_
  all_goals refine tx_p 7 rfl (by kernel_rfl) (y_assign rfl) rfl (fun _ _ _ h => h) (fun _ h => h) ?_
  all_goals refine tx_done (by kernel_rfl) ?_
  all_goals (refine hK2 ?_; try (clear hK2; clear K2))
  all_goals refine tc_ret ?_
  all_goals (repeat (first | refine tk_then_ret ?_ | refine tk_block_ret ?_ | refine tk_scope_ret ?_))
  all_goals first | refine tk_ret rfl rfl (.cons (.tmp rfl) (.cons (.tmp rfl) .nil)) ?_ | refine tk_retM rfl (by repeat constructor) rfl (.cons (.tmp rfl) (.cons (.tmp rfl) .nil)) ?_
  all_goals (
   exact fun w' hw' => ⟨rfl, hw'.fr (by simp)⟩)
theorem again_c (x st : Bool) (w : World) : CnV Tryz.prog 129 #[gpV x st] w (.tuple #[.bool false, .bool (!x && st)]) := by
  cases x <;> cases st
  all_goals refine cnv (vs := [_]) Tryz.func129 rfl rfl ?_
  all_goals refine tc_seq fun K1 hK1 => ?_
  all_goals refine tc_region ?_
  all_goals refine tl_e (e_box rfl rfl rfl) rfl (fun b1 _ => ?_)
  all_goals refine tl_q (y_assign rfl) rfl ?_
  all_goals refine tl_q (y_assign rfl) rfl ?_
  all_goals refine tl_nil ?_
  all_goals (refine hK1 ?_; try (clear hK1; clear K1))
  all_goals refine tc_seq fun K2 hK2 => ?_
  all_goals refine tc_draw (by kernel_rfl) ?_
  all_goals refine tx_p 0 rfl (by kernel_rfl) (y_field rfl) rfl (fun _ _ _ h => h) (fun _ h => h) ?_
  all_goals refine tx_q 1 rfl (by kernel_rfl) (y_load1 rfl (by repeat constructor) (by rfl)) rfl (fun _ _ _ h => h) (fun _ h => h) ?_
  all_goals (first | refine tx_p 2 rfl (by kernel_rfl) (y_not_dec rfl) rfl (fun _ _ _ h => h) (fun _ h => h) ?_ | refine tx_p 2 rfl (by kernel_rfl) (y_not rfl) rfl (fun _ _ _ h => h) (fun _ h => h) ?_)
  all_goals refine tx_p 3 rfl (by kernel_rfl) (y_move rfl) rfl (fun _ _ _ h => h) (fun _ h => h) ?_
  all_goals (first | refine tx_sk 4 rfl (by kernel_rfl) rfl rfl rfl rfl (fun _ _ _ h => h) (fun _ h => h) ?_ | refine tx_pg 4 rfl (by kernel_rfl) rfl rfl (y_field rfl) rfl (fun _ _ _ h => h) (fun _ h => h) ?_ | refine tx_su 4 rfl (by kernel_rfl) rfl rfl rfl (fun _ _ _ h => h) (fun _ h => h) ?_ | (refine tx_gs 7 rfl (fun hc => ?_) (fun hc => ?_) <;> (try simp only [Bool.not_true, Bool.not_false] at hc) <;> (first | (exfalso; omega) | refine tx_sk 4 rfl (by kernel_rfl) rfl rfl rfl rfl (fun _ _ _ h => h) (fun _ h => h) ?_ | refine tx_pg 4 rfl (by kernel_rfl) rfl rfl (y_field rfl) rfl (fun _ _ _ h => h) (fun _ h => h) ?_ | refine tx_su 4 rfl (by kernel_rfl) rfl rfl rfl (fun _ _ _ h => h) (fun _ h => h) ?_)))
  all_goals (first | refine tx_sk 5 rfl (by kernel_rfl) rfl rfl rfl rfl (fun _ _ _ h => h) (fun _ h => h) ?_ | refine tx_qg 5 rfl (by kernel_rfl) rfl rfl (y_load1 rfl (by repeat constructor) (by rfl)) rfl (fun _ _ _ h => h) (fun _ h => h) ?_ | refine tx_su 5 rfl (by kernel_rfl) rfl rfl rfl (fun _ _ _ h => h) (fun _ h => h) ?_ | (refine tx_gs 7 rfl (fun hc => ?_) (fun hc => ?_) <;> (try simp only [Bool.not_true, Bool.not_false] at hc) <;> (first | (exfalso; omega) | refine tx_sk 5 rfl (by kernel_rfl) rfl rfl rfl rfl (fun _ _ _ h => h) (fun _ h => h) ?_ | refine tx_qg 5 rfl (by kernel_rfl) rfl rfl (y_load1 rfl (by repeat constructor) (by rfl)) rfl (fun _ _ _ h => h) (fun _ h => h) ?_ | refine tx_su 5 rfl (by kernel_rfl) rfl rfl rfl (fun _ _ _ h => h) (fun _ h => h) ?_)))
  all_goals (first | refine tx_p 6 rfl (by kernel_rfl) (y_pick_t rfl rfl) rfl (fun _ _ _ h => h) (fun _ h => h) ?_ | refine tx_p 6 rfl (by kernel_rfl) (y_pick_f rfl rfl) rfl (fun _ _ _ h => h) (fun _ h => h) ?_)
  all_goals refine tx_p 7 rfl (by kernel_rfl) (y_assign rfl) rfl (fun _ _ _ h => h) (fun _ h => h) ?_
  all_goals refine tx_p 8 rfl (by kernel_rfl) (y_assign rfl) rfl (fun _ _ _ h => h) (fun _ h => h) ?_
  all_goals refine tx_done (by kernel_rfl) ?_
  all_goals (refine hK2 ?_; try (clear hK2; clear K2))
  all_goals refine tc_ret ?_
  all_goals (repeat (first | refine tk_then_ret ?_ | refine tk_block_ret ?_ | refine tk_scope_ret ?_))
  all_goals first | refine tk_ret rfl rfl (.cons (.tmp rfl) (.cons (.tmp rfl) .nil)) ?_ | refine tk_retM rfl (by repeat constructor) rfl (.cons (.tmp rfl) (.cons (.tmp rfl) .nil)) ?_
  all_goals (
   exact fun w' hw' => ⟨rfl, hw'.fr (by simp)⟩)
abbrev actsV : List Value := [.func (.func 126) #[] #[], .bool false, .func (.func 127) #[] #[], .bool true, .func (.func 128) #[] #[], .bool false, .func (.func 129) #[] #[], .bool true]
theorem acts_c (w : World) : CnV Tryz.prog 100 #[] w (.agg actsV.toArray) := by
  refine cnv (vs := []) Tryz.func100 rfl rfl ?_
  all_goals refine tc_seq fun K1 hK1 => ?_
  all_goals refine tc_region ?_
  all_goals refine tl_e (e_allocN rfl) rfl (fun b0 _ => ?_)
  all_goals refine tl_nil ?_
  all_goals (refine hK1 ?_; try (clear hK1; clear K1))
  all_goals refine tc_seq fun K2 hK2 => ?_
  all_goals refine tc_region ?_
  all_goals (first | refine tl_q (y_build_g (by repeat constructor)) rfl ?_ | refine tl_q (y_build_ga [(0, 2), (2, 2), (4, 2), (6, 2)] (by repeat constructor) rfl) rfl ?_ | refine tl_q (y_build_2 rfl rfl rfl rfl) rfl ?_)
  all_goals (first | refine tl_q (y_build_g (by repeat constructor)) rfl ?_ | refine tl_q (y_build_ga [(0, 2), (2, 2), (4, 2), (6, 2)] (by repeat constructor) rfl) rfl ?_ | refine tl_q (y_build_2 rfl rfl rfl rfl) rfl ?_)
  all_goals (first | refine tl_q (y_build_g (by repeat constructor)) rfl ?_ | refine tl_q (y_build_ga [(0, 2), (2, 2), (4, 2), (6, 2)] (by repeat constructor) rfl) rfl ?_ | refine tl_q (y_build_2 rfl rfl rfl rfl) rfl ?_)
  all_goals (first | refine tl_q (y_build_g (by repeat constructor)) rfl ?_ | refine tl_q (y_build_ga [(0, 2), (2, 2), (4, 2), (6, 2)] (by repeat constructor) rfl) rfl ?_ | refine tl_q (y_build_2 rfl rfl rfl rfl) rfl ?_)
  all_goals (first | refine tl_q (y_build_g (by repeat constructor)) rfl ?_ | refine tl_q (y_build_ga [(0, 2), (2, 2), (4, 2), (6, 2)] (by repeat constructor) rfl) rfl ?_)
  all_goals refine tl_e (e_storeW rfl rfl (by repeat constructor) (by rfl) (by rfl) (by simp [Value.oneCell'])) rfl (fun _ _ => ?_)
  all_goals refine tl_nil ?_
  all_goals (refine hK2 ?_; try (clear hK2; clear K2))
  all_goals refine tc_ret ?_
  all_goals (repeat (first | refine tk_then_ret ?_ | refine tk_block_ret ?_ | refine tk_scope_ret ?_))
  all_goals first | refine tk_ret rfl rfl (.cons (.agg inferInstance rfl (by repeat constructor) (by rfl)) .nil) ?_ | refine tk_retM rfl (by repeat constructor) rfl (.cons (.agg inferInstance rfl (by repeat constructor) (by rfl)) .nil) ?_
  all_goals (
   exact fun w' hw' => ⟨rfl, hw'.fr (by simp)⟩)
def sgB (b h : Int) (x : Bool) (g : Sgt) : Bool := decide (¬ g.b = b) || (decide (¬ g.h = h) || (g.wh != x))
def seenB (s : Smp) (b h : Int) (x : Bool) : Bool := s.sg.all (sgB b h x)
theorem seen1_c (b h : Int) (x : Bool) (g : Sgt) (b1 b2 b3 : Nat) (w : World) (h1 : w.cell? ⟨b1, 0, none⟩ = some (vi b)) (h2 : w.cell? ⟨b2, 0, none⟩ = some (vi h)) (h3 : w.cell? ⟨b3, 0, none⟩ = some (.bool x)) :
    CnV Tryz.prog 130 #[sgV g, .pointer (some ⟨b1, 0, none⟩), .pointer (some ⟨b2, 0, none⟩), .pointer (some ⟨b3, 0, none⟩)] w (.bool (sgB b h x g)) := by
  refine cnv (vs := [_, _, _, _]) Tryz.func130 rfl rfl ?_
  all_goals refine tc_seq fun K1 hK1 => ?_
  all_goals refine tc_region ?_
  all_goals refine tl_e (e_box rfl rfl rfl) rfl (fun b4 _ => ?_)
  all_goals refine tl_q (y_assign rfl) rfl ?_
  all_goals refine tl_nil ?_
  all_goals (refine hK1 ?_; try (clear hK1; clear K1))
  all_goals refine tc_seq fun K2 hK2 => ?_
  all_goals refine tc_region ?_
  all_goals refine tl_q (y_field rfl) rfl ?_
  all_goals (first | refine tl_q (y_load1 rfl (by repeat constructor) (by rfl)) rfl ?_ | refine tl_q (y_load1o (v := vi b) rfl (fun w' hw' => (hw'.fr (S := []) (w0 := w) (by simp)).cell (by simp) h1)) rfl ?_ | refine tl_q (y_load1o (v := vi h) rfl (fun w' hw' => (hw'.fr (S := []) (w0 := w) (by simp)).cell (by simp) h2)) rfl ?_ | refine tl_q (y_load1o (v := .bool x) rfl (fun w' hw' => (hw'.fr (S := []) (w0 := w) (by simp)).cell (by simp) h3)) rfl ?_)
  all_goals (first | refine tl_q (y_load1 rfl (by repeat constructor) (by rfl)) rfl ?_ | refine tl_q (y_load1o (v := vi b) rfl (fun w' hw' => (hw'.fr (S := []) (w0 := w) (by simp)).cell (by simp) h1)) rfl ?_ | refine tl_q (y_load1o (v := vi h) rfl (fun w' hw' => (hw'.fr (S := []) (w0 := w) (by simp)).cell (by simp) h2)) rfl ?_ | refine tl_q (y_load1o (v := .bool x) rfl (fun w' hw' => (hw'.fr (S := []) (w0 := w) (by simp)).cell (by simp) h3)) rfl ?_)
  all_goals refine tl_q (y_neq rfl rfl) rfl ?_
  all_goals refine tl_q (y_move rfl) rfl ?_
  all_goals (first | refine tl_sk rfl rfl rfl rfl ?_ | refine tl_qg rfl rfl (y_field rfl) rfl ?_ | refine tl_su rfl rfl rfl ?_ | (refine tl_gs rfl rfl (fun hc => ?_) (fun hc => ?_) <;> (try simp only [qn1, qn2, qn3, qn4, qn5, qn6, qn7, qn8] at hc) <;> (first | (exfalso; omega) | refine tl_sk rfl rfl rfl rfl ?_ | refine tl_qg rfl rfl (y_field rfl) rfl ?_ | refine tl_su rfl rfl rfl ?_)))
  all_goals (first | refine tl_sk rfl rfl rfl rfl ?_ | refine tl_qg rfl rfl (y_load1 rfl (by repeat constructor) (by rfl)) rfl ?_ | refine tl_qg rfl rfl (y_load1o (v := vi b) rfl (fun w' hw' => (hw'.fr (S := []) (w0 := w) (by simp)).cell (by simp) h1)) rfl ?_ | refine tl_qg rfl rfl (y_load1o (v := vi h) rfl (fun w' hw' => (hw'.fr (S := []) (w0 := w) (by simp)).cell (by simp) h2)) rfl ?_ | refine tl_qg rfl rfl (y_load1o (v := .bool x) rfl (fun w' hw' => (hw'.fr (S := []) (w0 := w) (by simp)).cell (by simp) h3)) rfl ?_ | refine tl_su rfl rfl rfl ?_ | (refine tl_gs rfl rfl (fun hc => ?_) (fun hc => ?_) <;> (try simp only [qn1, qn2, qn3, qn4, qn5, qn6, qn7, qn8] at hc) <;> (first | (exfalso; omega) | refine tl_sk rfl rfl rfl rfl ?_ | refine tl_qg rfl rfl (y_load1 rfl (by repeat constructor) (by rfl)) rfl ?_ | refine tl_qg rfl rfl (y_load1o (v := vi b) rfl (fun w' hw' => (hw'.fr (S := []) (w0 := w) (by simp)).cell (by simp) h1)) rfl ?_ | refine tl_qg rfl rfl (y_load1o (v := vi h) rfl (fun w' hw' => (hw'.fr (S := []) (w0 := w) (by simp)).cell (by simp) h2)) rfl ?_ | refine tl_qg rfl rfl (y_load1o (v := .bool x) rfl (fun w' hw' => (hw'.fr (S := []) (w0 := w) (by simp)).cell (by simp) h3)) rfl ?_ | refine tl_su rfl rfl rfl ?_)))
  all_goals (first | refine tl_sk rfl rfl rfl rfl ?_ | refine tl_qg rfl rfl (y_load1 rfl (by repeat constructor) (by rfl)) rfl ?_ | refine tl_qg rfl rfl (y_load1o (v := vi b) rfl (fun w' hw' => (hw'.fr (S := []) (w0 := w) (by simp)).cell (by simp) h1)) rfl ?_ | refine tl_qg rfl rfl (y_load1o (v := vi h) rfl (fun w' hw' => (hw'.fr (S := []) (w0 := w) (by simp)).cell (by simp) h2)) rfl ?_ | refine tl_qg rfl rfl (y_load1o (v := .bool x) rfl (fun w' hw' => (hw'.fr (S := []) (w0 := w) (by simp)).cell (by simp) h3)) rfl ?_ | refine tl_su rfl rfl rfl ?_ | (refine tl_gs rfl rfl (fun hc => ?_) (fun hc => ?_) <;> (try simp only [qn1, qn2, qn3, qn4, qn5, qn6, qn7, qn8] at hc) <;> (first | (exfalso; omega) | refine tl_sk rfl rfl rfl rfl ?_ | refine tl_qg rfl rfl (y_load1 rfl (by repeat constructor) (by rfl)) rfl ?_ | refine tl_qg rfl rfl (y_load1o (v := vi b) rfl (fun w' hw' => (hw'.fr (S := []) (w0 := w) (by simp)).cell (by simp) h1)) rfl ?_ | refine tl_qg rfl rfl (y_load1o (v := vi h) rfl (fun w' hw' => (hw'.fr (S := []) (w0 := w) (by simp)).cell (by simp) h2)) rfl ?_ | refine tl_qg rfl rfl (y_load1o (v := .bool x) rfl (fun w' hw' => (hw'.fr (S := []) (w0 := w) (by simp)).cell (by simp) h3)) rfl ?_ | refine tl_su rfl rfl rfl ?_)))
  all_goals (first | refine tl_sk rfl rfl rfl rfl ?_ | refine tl_qg rfl rfl (y_neq rfl rfl) rfl ?_ | refine tl_su rfl rfl rfl ?_ | (refine tl_gs rfl rfl (fun hc => ?_) (fun hc => ?_) <;> (try simp only [qn1, qn2, qn3, qn4, qn5, qn6, qn7, qn8] at hc) <;> (first | (exfalso; omega) | refine tl_sk rfl rfl rfl rfl ?_ | refine tl_qg rfl rfl (y_neq rfl rfl) rfl ?_ | refine tl_su rfl rfl rfl ?_)))
  all_goals (first | refine tl_q (y_pick_t rfl rfl) rfl ?_ | refine tl_q (y_pick_f rfl rfl) rfl ?_)
  all_goals refine tl_q (y_move rfl) rfl ?_
  all_goals (first | refine tl_sk rfl rfl rfl rfl ?_ | refine tl_qg rfl rfl (y_field rfl) rfl ?_ | refine tl_su rfl rfl rfl ?_ | (refine tl_gs rfl rfl (fun hc => ?_) (fun hc => ?_) <;> (try simp only [qn1, qn2, qn3, qn4, qn5, qn6, qn7, qn8] at hc) <;> (first | (exfalso; omega) | refine tl_sk rfl rfl rfl rfl ?_ | refine tl_qg rfl rfl (y_field rfl) rfl ?_ | refine tl_su rfl rfl rfl ?_)))
  all_goals (first | refine tl_sk rfl rfl rfl rfl ?_ | refine tl_qg rfl rfl (y_load1 rfl (by repeat constructor) (by rfl)) rfl ?_ | refine tl_qg rfl rfl (y_load1o (v := vi b) rfl (fun w' hw' => (hw'.fr (S := []) (w0 := w) (by simp)).cell (by simp) h1)) rfl ?_ | refine tl_qg rfl rfl (y_load1o (v := vi h) rfl (fun w' hw' => (hw'.fr (S := []) (w0 := w) (by simp)).cell (by simp) h2)) rfl ?_ | refine tl_qg rfl rfl (y_load1o (v := .bool x) rfl (fun w' hw' => (hw'.fr (S := []) (w0 := w) (by simp)).cell (by simp) h3)) rfl ?_ | refine tl_su rfl rfl rfl ?_ | (refine tl_gs rfl rfl (fun hc => ?_) (fun hc => ?_) <;> (try simp only [qn1, qn2, qn3, qn4, qn5, qn6, qn7, qn8] at hc) <;> (first | (exfalso; omega) | refine tl_sk rfl rfl rfl rfl ?_ | refine tl_qg rfl rfl (y_load1 rfl (by repeat constructor) (by rfl)) rfl ?_ | refine tl_qg rfl rfl (y_load1o (v := vi b) rfl (fun w' hw' => (hw'.fr (S := []) (w0 := w) (by simp)).cell (by simp) h1)) rfl ?_ | refine tl_qg rfl rfl (y_load1o (v := vi h) rfl (fun w' hw' => (hw'.fr (S := []) (w0 := w) (by simp)).cell (by simp) h2)) rfl ?_ | refine tl_qg rfl rfl (y_load1o (v := .bool x) rfl (fun w' hw' => (hw'.fr (S := []) (w0 := w) (by simp)).cell (by simp) h3)) rfl ?_ | refine tl_su rfl rfl rfl ?_)))
  all_goals (first | refine tl_sk rfl rfl rfl rfl ?_ | refine tl_qg rfl rfl (y_load1 rfl (by repeat constructor) (by rfl)) rfl ?_ | refine tl_qg rfl rfl (y_load1o (v := vi b) rfl (fun w' hw' => (hw'.fr (S := []) (w0 := w) (by simp)).cell (by simp) h1)) rfl ?_ | refine tl_qg rfl rfl (y_load1o (v := vi h) rfl (fun w' hw' => (hw'.fr (S := []) (w0 := w) (by simp)).cell (by simp) h2)) rfl ?_ | refine tl_qg rfl rfl (y_load1o (v := .bool x) rfl (fun w' hw' => (hw'.fr (S := []) (w0 := w) (by simp)).cell (by simp) h3)) rfl ?_ | refine tl_su rfl rfl rfl ?_ | (refine tl_gs rfl rfl (fun hc => ?_) (fun hc => ?_) <;> (try simp only [qn1, qn2, qn3, qn4, qn5, qn6, qn7, qn8] at hc) <;> (first | (exfalso; omega) | refine tl_sk rfl rfl rfl rfl ?_ | refine tl_qg rfl rfl (y_load1 rfl (by repeat constructor) (by rfl)) rfl ?_ | refine tl_qg rfl rfl (y_load1o (v := vi b) rfl (fun w' hw' => (hw'.fr (S := []) (w0 := w) (by simp)).cell (by simp) h1)) rfl ?_ | refine tl_qg rfl rfl (y_load1o (v := vi h) rfl (fun w' hw' => (hw'.fr (S := []) (w0 := w) (by simp)).cell (by simp) h2)) rfl ?_ | refine tl_qg rfl rfl (y_load1o (v := .bool x) rfl (fun w' hw' => (hw'.fr (S := []) (w0 := w) (by simp)).cell (by simp) h3)) rfl ?_ | refine tl_su rfl rfl rfl ?_)))
  all_goals (first | refine tl_sk rfl rfl rfl rfl ?_ | refine tl_qg rfl rfl (y_neqb rfl rfl) rfl ?_ | refine tl_su rfl rfl rfl ?_ | (refine tl_gs rfl rfl (fun hc => ?_) (fun hc => ?_) <;> (try simp only [qn1, qn2, qn3, qn4, qn5, qn6, qn7, qn8] at hc) <;> (first | (exfalso; omega) | refine tl_sk rfl rfl rfl rfl ?_ | refine tl_qg rfl rfl (y_neqb rfl rfl) rfl ?_ | refine tl_su rfl rfl rfl ?_)))
  all_goals (first | refine tl_q (y_pick_t rfl rfl) rfl ?_ | refine tl_q (y_pick_f rfl rfl) rfl ?_)
  all_goals refine tl_q (y_assign rfl) rfl ?_
  all_goals refine tl_nil ?_
  all_goals (refine hK2 ?_; try (clear hK2; clear K2))
  all_goals refine tc_ret ?_
  all_goals (repeat (first | refine tk_then_ret ?_ | refine tk_block_ret ?_ | refine tk_scope_ret ?_))
  all_goals first | refine tk_ret rfl rfl (.cons (.tmp rfl) .nil) ?_ | refine tk_retM rfl (by repeat constructor) rfl (.cons (.tmp rfl) .nil) ?_
  all_goals (
   refine fun w' hw' => ⟨congrArg (fun b => Ending.returned (Value.bool b)) ?_, hw'.fr (by simp)⟩
   unfold sgB
   first
   | (rw [decide_eq_true (by omega), Bool.true_or])
   | (rw [decide_eq_false (by omega), Bool.false_or, decide_eq_true (by omega), Bool.true_or])
   | (rw [decide_eq_false (by omega), Bool.false_or, decide_eq_false (by omega), Bool.false_or]))
theorem seen_c (s : Smp) (hf : s.sg.length ≤ 9) (b h : Int) (x : Bool) (tv pv gv : Value) (hone : (tv.oneCell' = true ∧ pv.oneCell' = true) ∧ gv.oneCell' = true) (w : World) (hr : RdS 3 sgE w gv s.sg) : CnV Tryz.prog 101 #[smV s tv pv gv, vi b, vi h, .bool x] w (.bool (seenB s b h x)) := by
  refine cnv (vs := [_, _, _, _]) Tryz.func101 rfl rfl ?_
  all_goals refine tc_seq fun K1 hK1 => ?_
  all_goals refine tc_region ?_
  all_goals refine tl_e (e_box rfl rfl rfl) rfl (fun b4 _ => ?_)
  all_goals refine tl_e (e_box rfl rfl rfl) rfl (fun b5 _ => ?_)
  all_goals refine tl_e (e_box rfl rfl rfl) rfl (fun b6 _ => ?_)
  all_goals refine tl_e (e_box rfl rfl rfl) rfl (fun b7 _ => ?_)
  all_goals refine tl_q (y_assign rfl) rfl ?_
  all_goals refine tl_nil ?_
  all_goals (refine hK1 ?_; try (clear hK1; clear K1))
  all_goals refine tc_seq fun K2 hK2 => ?_
  all_goals refine tc_region ?_
  all_goals refine tl_q (y_field rfl) rfl ?_
  all_goals refine tl_q (y_load1 rfl (by repeat constructor) (by rfl)) rfl ?_
  all_goals refine tl_q (y_fn .nil (.cons rfl (.cons rfl (.cons rfl .nil)))) rfl ?_
  all_goals refine tl_e (e_callV rfl (.cons rfl (.cons rfl .nil)) (fun w' hw' => allSg_c 130 #[] #[.pointer (some ⟨b5, 0, none⟩), .pointer (some ⟨b6, 0, none⟩), .pointer (some ⟨b7, 0, none⟩)] (sgB b h x) s.sg (by omega) _ w' (hr.fr (hw'.fr (by simp))) (fun g w2 f => by simpa using seen1_c b h x g b5 b6 b7 w2 (f.cell (by simp) (cellAt_cell? (hw'.heap _ (HM.mem (b := b5) (by repeat constructor))) rfl)) (f.cell (by simp) (cellAt_cell? (hw'.heap _ (HM.mem (b := b6) (by repeat constructor))) rfl)) (f.cell (by simp) (cellAt_cell? (hw'.heap _ (HM.mem (b := b7) (by repeat constructor))) rfl))))) rfl (fun _ _ => ?_)
  all_goals refine tl_q (y_assign rfl) rfl ?_
  all_goals refine tl_nil ?_
  all_goals (refine hK2 ?_; try (clear hK2; clear K2))
  all_goals refine tc_ret ?_
  all_goals (repeat (first | refine tk_then_ret ?_ | refine tk_block_ret ?_ | refine tk_scope_ret ?_))
  all_goals first | refine tk_ret rfl rfl (.cons (.tmp rfl) .nil) ?_ | refine tk_retM rfl (by repeat constructor) rfl (.cons (.tmp rfl) .nil) ?_
  all_goals (
   exact fun w' hw' => ⟨rfl, hw'.fr (by simp)⟩)
end Go.Sp
/-
  Package sample: the steps.
-/
namespace Go.Sp
open Go Go.Proofs
def actId : Nat → FuncId
  | 0 => 126
  | 1 => 127
  | 2 => 128
  | _ => 129
theorem actId_fn (n : Nat) : GoFn Tryz.prog (actId n) := by
  unfold actId
  split <;> infer_instance
def actY (x : Bool) : Nat → Bool
  | 0 => x
  | 1 => true
  | _ => false
def actIs (x st : Bool) : Nat → Bool
  | 0 => true
  | 1 => !x
  | 2 => x && st
  | _ => !x && st
def opF : Nat → Bool
  | 1 => true
  | 3 => true
  | _ => false
theorem act_c (n : Nat) (x st : Bool) (w : World) : CnV Tryz.prog (actId n) #[gpV x st] w (.tuple #[.bool (actY x n), .bool (actIs x st n)]) := by
  unfold actId
  split
  · exact keep_c x st w
  · exact breaks_c x st w
  · exact seals_c x st w
  · rename_i h0 h1 h2
    have e1 : actY x n = false := by unfold actY; split <;> first | rfl | contradiction
    have e2 : actIs x st n = (!x && st) := by unfold actIs; split <;> first | rfl | contradiction
    rw [e1, e2]; exact again_c x st w
theorem acts_at {n : Nat} (hn : n < 4) {i : Int} (hi : i = n) : actsV.toArray.extract (i.toNat * 2) (i.toNat * 2 + 2) = #[.func (.func (actId n)) #[] #[], .bool (opF n)] := by
  subst hi
  rcases (by omega : n = 0 ∨ n = 1 ∨ n = 2 ∨ n = 3) with rfl | rfl | rfl | rfl <;> rfl
def wkL (s : Smp) (tv pv gv : Value) (b : Int) (c : List Int) (r : Nat) : List Value := [vi s.B, vi s.P, vi s.L, vi s.F, tv, pv, gv, vi b] ++ (c.map vi ++ [.map (some r)])
abbrev wkO (s : Smp) (tv pv gv : Value) (b : Int) (c : List Int) (r : Nat) : Obj := .cells (wkL s tv pv gv b c r).toArray 160 (0, 0)
structure Wk (w : World) (s : Smp) (tv pv gv : Value) (b : Int) (c : List Int) (bw r : Nat) : Prop where
  hw : w.heap[bw]? = some (wkO s tv pv gv b c r)
  rd : RdSm w s tv pv gv
/-- Holders that can be. -/
structure ChOk (s : Smp) (c : List Int) : Prop where
  len : c.length = 10
  pp : ∀ n : Nat, (n : Int) ≤ s.L → 0 ≤ c.getD n 0 ∧ c.getD n 0 < s.P
theorem Wk.fr {w w' : World} {s : Smp} {tv pv gv : Value} {b : Int} {c : List Int} {bw r : Nat} (h : Wk w s tv pv gv b c bw r) (f : Fr [] w w') : Wk w' s tv pv gv b c bw r := ⟨f.keep h.hw, h.rd.fr f⟩
theorem Wk.frM {w w' : World} {s : Smp} {tv pv gv : Value} {b : Int} {c : List Int} {bw r : Nat} {S : List Nat} (h : Wk w s tv pv gv b c bw r) (f : Fr S w w') (hS : ∀ x ∈ S, ∃ es ck, w.heap[x]? = some (.map es ck)) : Wk w' s tv pv gv b c bw r :=
  ⟨f.keepS (fun hm => by obtain ⟨es, ck, e⟩ := hS _ hm; rw [h.hw] at e; cases e) h.hw, h.rd.frM f hS⟩
theorem wk_at {w : World} {s : Smp} {tv pv gv : Value} {b : Int} {c : List Int} {bw r : Nat} (h : w.heap[bw]? = some (wkO s tv pv gv b c r)) {n : Nat} {v : Value} (hv : (wkL s tv pv gv b c r)[n]? = some v) : w.cell? ⟨bw, n, none⟩ = some v :=
  cell0 h (by simpa using hv)
theorem wk_held {w : World} {s : Smp} {tv pv gv : Value} {b : Int} {c : List Int} {bw r : Nat} (h : w.heap[bw]? = some (wkO s tv pv gv b c r)) (hc : c.length = 10) {n : Nat} (hn : n < 10) : w.cell? ⟨bw, 8 + n * 1, none⟩ = some (vi (c.getD n 0)) := by
  refine wk_at h ?_
  unfold wkL
  rw [List.getElem?_append_right (by simp), List.getElem?_append_left (by simp; omega), List.getElem?_map, List.getD_eq_getElem?_getD]
  simp only [List.length_cons, List.length_nil]
  rw [show 8 + n * 1 - (0 + 1 + 1 + 1 + 1 + 1 + 1 + 1 + 1) = n from by omega, List.getElem?_eq_getElem (by omega)]; rfl
theorem wk_map {w : World} {s : Smp} {tv pv gv : Value} {b : Int} {c : List Int} {bw r : Nat} (h : w.heap[bw]? = some (wkO s tv pv gv b c r)) (hc : c.length = 10) : w.cell? ⟨bw, 18, none⟩ = some (.map (some r)) := by
  refine wk_at h ?_
  unfold wkL
  rw [List.getElem?_append_right (by simp), List.getElem?_append_right (by simp [hc])]
  simp [hc]
def stB (s : Smp) (c : List Int) (h : Int) : Bool := s.st.getD (c.getD h.toNat 0).toNat false
def stE (h : Int) (y : Bool × Int) : List Value := [vi (h + 1), .bool y.1, vi y.2]
theorem stE_len (h : Int) (y : Bool × Int) : (stE h y).length = 3 := rfl
theorem stE_one (h : Int) (y : Bool × Int) : one' (stE h y) := fun u hu => by simp only [stE, List.mem_cons, List.not_mem_nil, or_false] at hu; rcases hu with rfl | rfl | rfl <;> rfl
def stp1 (s : Smp) (b h : Int) (st x : Bool) (a : Nat) : List (Bool × Int) := if actIs x st a = true ∧ seenB s b h (actY x a) = true then [(actY x a, if x = true ∨ opF a = true then 1 else 0)] else []
def stepN (s : Smp) (b h : Int) (st x : Bool) (n : Nat) : List (Bool × Int) := (List.range n).flatMap (stp1 s b h st x)
theorem stepN_succ (s : Smp) (b h : Int) (st x : Bool) (n : Nat) : stepN s b h st x (n + 1) = stepN s b h st x n ++ stp1 s b h st x n := by simp [stepN, List.range_succ]
theorem stepN_len (s : Smp) (b h : Int) (st x : Bool) (n : Nat) : (stepN s b h st x n).length ≤ n := by
  induction n with
  | zero => simp [stepN]
  | succ n ih =>
    rw [stepN_succ, List.length_append]
    have : (stp1 s b h st x n).length ≤ 1 := by unfold stp1; split <;> simp
    omega
abbrev stepL (s : Smp) (b h : Int) (st x : Bool) : List (Bool × Int) := stepN s b h st x 4
set_option maxHeartbeats 1000000 in
theorem steps_c (s : Smp) (hf : Few s) (hv : VSm s) (b : Int) (c : List Int) (hco : ChOk s c) (h : Int) (hh : 0 ≤ h ∧ h ≤ s.L) (x : Bool) (tv pv gv : Value) (bw r : Nat) (w : World) (hT : Wk w s tv pv gv b c bw r) :
    CnX Tryz.prog 135 #[ptr bw, .agg #[vi h, .bool x]] w [] (slV (stepL s b h (stB s c h) x).length) (fun y w' => RdS 3 (stE h) w' (slV (stepL s b h (stB s c h) x).length y) (stepL s b h (stB s c h) x) ∧ NewS w (slV (stepL s b h (stB s c h) x).length y)) := by
  have hT0 := hT
  have hl9 := hv.l9
  have hstl := hv.st
  have hcl := hco.len
  have hch := hco.pp h.toNat (by omega)
  obtain ⟨st, hst⟩ : ∃ st, stB s c h = st := ⟨_, rfl⟩
  rw [hst]
  obtain ⟨ad1, cp1, b1, o1, rfl, had1, hcell1⟩ := hT.rd.st.open boE_len false
  have hone : (Value.oneCell' (.slice ad1 s.st.length cp1) = true ∧ pv.oneCell' = true) ∧ gv.oneCell' = true := ⟨⟨rfl, hT.rd.ps.one⟩, hT.rd.sg.one⟩
  have hcell : ∀ w', Fr [] w w' → w'.cell? ⟨b1, o1 + (c.getD h.toNat 0).toNat * 1, none⟩ = some (.bool st) := fun w' f => by
    have := hcell1 w' [] f (by simp) (c.getD h.toNat 0).toNat (by omega)
    cases this with
    | cons hv _ => rw [hv, ← hst]; rfl
  refine cnx0 (vs := [_, _]) Tryz.func135 rfl rfl ?_
  all_goals refine tc_seq fun K1 hK1 => ?_; refine tc_region ?_; refine tl_e (e_box rfl rfl rfl) rfl (fun b3 _ => ?_); refine tl_q (y_assign rfl) rfl ?_; refine tl_nil ?_; ((refine hK1 ?_; try (clear hK1; clear K1)))
  all_goals refine tc_seq fun K2 hK2 => ?_; refine tc_seq fun K3 hK3 => ?_; refine tc_region ?_; refine tl_e (e_callV rfl .nil (fun w' _ => acts_c w')) rfl (fun _ _ => ?_); refine tl_q (y_move rfl) rfl ?_; refine tl_nil ?_; ((refine hK3 ?_; try (clear hK3; clear K3)))
  all_goals refine tc_block ?_
  all_goals (
   refine tc_loop (fun p : Nat × OwnB => p.1 ≤ 4 ∧ okE 3 (stepN s b h st x p.1) p.2) (fun p => [(0, ptr bw), (3, ptr b3), (4, ouV (stepN s b h st x p.1).length p.2), (10, .agg actsV.toArray), (11, vi p.1)]) (fun _ => [(w, [])]) (fun p => (b3, .cells #[vi h, .bool x] 162 (0, 0)) :: slE 186 (stE h) (stepN s b h st x p.1) p.2) (fun p => 4 - p.1) ?_ ?_
   · exact tk_start (0, none) ⟨Nat.zero_le _, rfl⟩ (.cons rfl (.cons rfl (.cons rfl (.cons rfl (.cons rfl .nil))))) (fun _ h => by rw [slE_none]; exact h.subl SB.s SB.s)
   · rintro ⟨n, oo⟩ ⟨hn, hok⟩
     dsimp only at hn hok ⊢
     haveI := actId_fn n
     have hsl := stepN_len s b h st x n
     all_goals refine tc_seq fun K4 hK4 => ?_; refine tc_region ?_; refine tl_q (y_lss rfl rfl) rfl ?_; refine tl_nil ?_; ((refine hK4 ?_; try (clear hK4; clear K4)))
     all_goals refine tc_seq fun K5 hK5 => ?_
     all_goals (
      refine tc_cond rfl (fun hc => ?_) (fun hc => ?_)
      · try simp only [qn1, qn2, qn3, qn4, qn5, qn6, qn7, qn8] at hc
        all_goals refine tc_skip ?_; ((refine hK5 ?_; try (clear hK5; clear K5)))
        all_goals refine tc_seq fun K6 hK6 => ?_; refine tc_block ?_; refine tc_seq fun K7 hK7 => ?_; refine tc_region ?_; refine tl_q (y_indexG rfl rfl (by omega) (acts_at (n := n) (by omega) rfl)) rfl ?_; refine tl_e (e_allocN rfl) rfl (fun b6 _ => ?_); refine tl_e (e_storeW rfl rfl (by repeat constructor) (by rfl) (by rfl) (by simp [Value.oneCell'])) rfl (fun _ _ => ?_); refine tl_nil ?_; ((refine hK7 ?_; try (clear hK7; clear K7)))
        all_goals refine tc_seq fun K8 hK8 => ?_; refine tc_draw (by kernel_rfl) ?_; refine tx_p 0 rfl (by kernel_rfl) (y_field rfl) rfl (fun _ _ _ h => h) (fun _ h => h) ?_; refine tx_q 1 rfl (by kernel_rfl) (y_load1 rfl (by repeat constructor) (by rfl)) rfl (fun _ _ _ h => h) (fun _ h => h) ?_; refine tx_p 2 rfl (by kernel_rfl) (y_field rfl) rfl (fun _ _ _ h => h) (fun _ h => h) ?_; refine tx_q 3 rfl (by kernel_rfl) (y_load1 rfl (by repeat constructor) (by rfl)) rfl (fun _ _ _ h => h) (fun _ h => h) ?_; refine tx_p 4 rfl (by kernel_rfl) (y_move rfl) rfl (fun _ _ _ h => h) (fun _ h => h) ?_; refine tx_p 5 rfl (by kernel_rfl) (y_nil rfl) rfl (fun _ _ _ h => h) (fun _ h => h) ?_; refine tx_p 6 rfl (by kernel_rfl) (y_field rfl) rfl (fun _ _ _ h => h) (fun _ h => h) ?_; refine tx_p 7 rfl (by kernel_rfl) (y_field rfl) rfl (fun _ _ _ h => h) (fun _ h => h) ?_; refine tx_q 8 rfl (by kernel_rfl) (y_load1o (v := .slice ad1 s.st.length cp1) rfl (fun w' hw' => wk_at (n := 4) ((hw'.fr (w0 := w) (S := []) MI.m).keep hT.hw) rfl)) rfl (fun _ _ _ h => h) (fun _ h => h) ?_; refine tx_p 9 rfl (by kernel_rfl) (y_move rfl) rfl (fun _ _ _ h => h) (fun _ h => h) ?_; refine tx_p 10 rfl (by kernel_rfl) (y_field rfl) rfl (fun _ _ _ h => h) (fun _ h => h) ?_; refine tx_q 11 rfl (by kernel_rfl) (y_load1 rfl (by repeat constructor) (by rfl)) rfl (fun _ _ _ h => h) (fun _ h => h) ?_; refine tx_p 12 rfl (by kernel_rfl) (y_nil rfl) rfl (fun _ _ _ h => h) (fun _ h => h) ?_; refine tx_p 13 rfl (by kernel_rfl) (y_field rfl) rfl (fun _ _ _ h => h) (fun _ h => h) ?_; refine tx_p 14 rfl (by kernel_rfl) (y_indexA rfl rfl (by omega)) rfl (fun _ _ _ h => h) (fun _ h => h) ?_; refine tx_q 15 rfl (by kernel_rfl) (y_load1o (v := vi (c.getD h.toNat 0)) rfl (fun w' hw' => wk_held ((hw'.fr (w0 := w) (S := []) MI.m).keep hT.hw) hcl (by omega))) rfl (fun _ _ _ h => h) (fun _ h => h) ?_; refine tx_p 16 rfl (by kernel_rfl) (y_index rfl rfl (by omega) (had1 (by omega))) rfl (fun _ _ _ h => h) (fun _ h => h) ?_; refine tx_q 17 rfl (by kernel_rfl) (y_load1o (v := .bool st) rfl (fun w' hw' => hcell w' (hw'.fr (w0 := w) (S := []) MI.m))) rfl (fun _ _ _ h => h) (fun _ h => h) ?_; refine tx_p 18 rfl (by kernel_rfl) (y_build_g (by repeat constructor)) rfl (fun _ _ _ h => h) (fun _ h => h) ?_; refine tx_e 19 rfl (by kernel_rfl) rfl (e_callVf rfl rfl (.cons rfl .nil) (fun w' _ => act_c n x st w')) (.inr fun _ _ h => h) (fun _ _ => ?_); refine tx_p 20 rfl (by kernel_rfl) (y_move rfl) rfl (fun _ _ _ h => h) (fun _ h => h) ?_; refine tx_p 21 rfl (by kernel_rfl) (y_extract rfl rfl) rfl (fun _ _ _ h => h) (fun _ h => h) ?_; refine tx_p 22 rfl (by kernel_rfl) (y_extract rfl rfl) rfl (fun _ _ _ h => h) (fun _ h => h) ?_; refine tx_p 23 rfl (by kernel_rfl) (y_assign rfl) rfl (fun _ _ _ h => h) (fun _ h => h) ?_; refine tx_p 24 rfl (by kernel_rfl) (y_assign rfl) rfl (fun _ _ _ h => h) (fun _ h => h) ?_; refine tx_done (by kernel_rfl) ?_; ((refine hK8 ?_; try (clear hK8; clear K8)))
        all_goals refine tc_seq fun K9 hK9 => ?_; refine tc_seq fun K10 hK10 => ?_; refine tc_draw (by kernel_rfl) ?_; refine tx_p 0 rfl (by kernel_rfl) (y_move rfl) rfl (fun _ _ _ h => h) (fun _ h => h) ?_; refine tx_p 1 rfl (by kernel_rfl) (y_not rfl) rfl (fun _ _ _ h => h) (fun _ h => h) ?_; refine tx_p 2 rfl (by kernel_rfl) (y_move rfl) rfl (fun _ _ _ h => h) (fun _ h => h) ?_; ((refine tx_gs 39 rfl (fun hc => ?_) (fun hc => ?_) <;> (try simp only [qn1, qn2, qn3, qn4, qn5, qn6, qn7, qn8] at hc) <;> (first | refine tx_sk 3 rfl (by kernel_rfl) rfl rfl rfl rfl (fun _ _ _ h => h) (fun _ h => h) ?_ | refine tx_pg 3 rfl (by kernel_rfl) rfl rfl (y_move rfl) rfl (fun _ _ _ h => h) (fun _ h => h) ?_)))
        all_goals (first | refine tx_sk 4 rfl (by kernel_rfl) rfl rfl rfl rfl (fun _ _ _ h => h) (fun _ h => h) ?_ | refine tx_pg 4 rfl (by kernel_rfl) rfl rfl (y_nil rfl) rfl (fun _ _ _ h => h) (fun _ h => h) ?_); (first | refine tx_sk 5 rfl (by kernel_rfl) rfl rfl rfl rfl (fun _ _ _ h => h) (fun _ h => h) ?_ | refine tx_pg 5 rfl (by kernel_rfl) rfl rfl (y_field rfl) rfl (fun _ _ _ h => h) (fun _ h => h) ?_); ((first | refine tx_sk 6 rfl (by kernel_rfl) rfl rfl rfl rfl (fun _ _ _ h => h) (fun _ h => h) ?_ | refine tx_qg 6 rfl (by kernel_rfl) rfl rfl (y_loadNo (n := 7) (vs := [vi s.B, vi s.P, vi s.L, vi s.F, .slice ad1 s.st.length cp1, pv, gv]) rfl (fun w' hw' => have hk := (hw'.fr (w0 := w) (S := []) MI.m).keep hT.hw; .cons (wk_at hk rfl) (.cons (wk_at hk rfl) (.cons (wk_at hk rfl) (.cons (wk_at hk rfl) (.cons (wk_at hk rfl) (.cons (wk_at hk rfl) (.cons (wk_at hk rfl) .nil)))))))) rfl (fun _ _ _ h => h) (fun _ h => h) ?_))
        all_goals (first | refine tx_sk 7 rfl (by kernel_rfl) rfl rfl rfl rfl (fun _ _ _ h => h) (fun _ h => h) ?_ | refine tx_pg 7 rfl (by kernel_rfl) rfl rfl (y_move rfl) rfl (fun _ _ _ h => h) (fun _ h => h) ?_); (first | refine tx_sk 8 rfl (by kernel_rfl) rfl rfl rfl rfl (fun _ _ _ h => h) (fun _ h => h) ?_ | refine tx_pg 8 rfl (by kernel_rfl) rfl rfl (y_nil rfl) rfl (fun _ _ _ h => h) (fun _ h => h) ?_); (first | refine tx_sk 9 rfl (by kernel_rfl) rfl rfl rfl rfl (fun _ _ _ h => h) (fun _ h => h) ?_ | refine tx_pg 9 rfl (by kernel_rfl) rfl rfl (y_field rfl) rfl (fun _ _ _ h => h) (fun _ h => h) ?_); (first | refine tx_sk 10 rfl (by kernel_rfl) rfl rfl rfl rfl (fun _ _ _ h => h) (fun _ h => h) ?_ | refine tx_qg 10 rfl (by kernel_rfl) rfl rfl (y_load1o (v := vi b) rfl (fun w' hw' => wk_at (n := 7) ((hw'.fr (w0 := w) (S := []) MI.m).keep hT.hw) rfl)) rfl (fun _ _ _ h => h) (fun _ h => h) ?_); (first | refine tx_sk 11 rfl (by kernel_rfl) rfl rfl rfl rfl (fun _ _ _ h => h) (fun _ h => h) ?_ | refine tx_pg 11 rfl (by kernel_rfl) rfl rfl (y_field rfl) rfl (fun _ _ _ h => h) (fun _ h => h) ?_); (first | refine tx_sk 12 rfl (by kernel_rfl) rfl rfl rfl rfl (fun _ _ _ h => h) (fun _ h => h) ?_ | refine tx_qg 12 rfl (by kernel_rfl) rfl rfl (y_load1 rfl (by repeat constructor) (by rfl)) rfl (fun _ _ _ h => h) (fun _ h => h) ?_); (first | refine tx_sk 13 rfl (by kernel_rfl) rfl rfl rfl rfl (fun _ _ _ h => h) (fun _ h => h) ?_ | refine tx_pg 13 rfl (by kernel_rfl) rfl rfl (y_move rfl) rfl (fun _ _ _ h => h) (fun _ h => h) ?_); (first | refine tx_sk 14 rfl (by kernel_rfl) rfl rfl rfl rfl (fun _ _ _ h => h) (fun _ h => h) ?_ | refine tx_eg 14 rfl (by kernel_rfl) rfl rfl rfl (e_callV rfl (.cons rfl (.cons rfl (.cons rfl (.cons rfl .nil)))) (fun w' hw' => seen_c s hf.sg b h (actY x n) _ pv gv hone w' (hT0.rd.sg.fr (hw'.fr (w0 := w) (S := []) MI.m)))) (.inr fun _ _ h => h) (fun _ _ => ?_)); (first | refine tx_sk 15 rfl (by kernel_rfl) rfl rfl rfl rfl (fun _ _ _ h => h) (fun _ h => h) ?_ | refine tx_pg 15 rfl (by kernel_rfl) rfl rfl (y_not rfl) rfl (fun _ _ _ h => h) (fun _ h => h) ?_); (first | refine tx_p 16 rfl (by kernel_rfl) (y_pick_t rfl rfl) rfl (fun _ _ _ h => h) (fun _ h => h) ?_ | refine tx_p 16 rfl (by kernel_rfl) (y_pick_f rfl rfl) rfl (fun _ _ _ h => h) (fun _ h => h) ?_); refine tx_done (by kernel_rfl) ?_; ((refine hK10 ?_; try (clear hK10; clear K10)))
        all_goals (
         refine tc_cond rfl (fun hc => ?_) (fun hc => ?_)
         · try simp only [qn1, qn2, qn3, qn4, qn5, qn6, qn7, qn8] at hc
           all_goals refine tc_exit ?_; ((refine hK6 ?_; try (clear hK6; clear K6)))
           all_goals refine tc_region ?_; refine tl_q (y_add rfl rfl (by omega)) rfl ?_; refine tl_q (y_move rfl) rfl ?_; refine tl_nil ?_
           all_goals (
            first
            | (have hs : stepN s b h st x (n + 1) = stepN s b h st x n := by rw [stepN_succ, stp1, if_neg (by simp_all), List.append_nil]
               exact tk_round (n + 1, oo) ⟨by dsimp only; omega, by dsimp only; rw [hs]; exact hok⟩ (by dsimp only; omega) (.cons rfl (.cons rfl (.cons (by dsimp only; rw [hs]; rfl) (.cons rfl (.cons rfl .nil))))) (fun _ h => by dsimp only; rw [hs]; exact h.subl SB.s SB.s))
            | (have hs : stepN s b h st x (n + 1) = stepN s b h st x n ++ [(actY x n, 1)] := by rw [stepN_succ, stp1, if_pos (by simp_all), if_pos (by simp_all)]
               exact tk_round (n + 1, oo') ⟨by dsimp only; omega, by dsimp only; rw [hs]; exact hok'⟩ (by dsimp only; omega) (.cons rfl (.cons rfl (.cons (by dsimp only; rw [hs]; rfl) (.cons rfl (.cons rfl .nil))))) (fun _ h => by dsimp only; rw [hs]; exact h.subl SB.s SB.s))
            | (have hs : stepN s b h st x (n + 1) = stepN s b h st x n ++ [(actY x n, 0)] := by rw [stepN_succ, stp1, if_pos (by simp_all), if_neg (by simp_all)]
               exact tk_round (n + 1, oo') ⟨by dsimp only; omega, by dsimp only; rw [hs]; exact hok'⟩ (by dsimp only; omega) (.cons rfl (.cons rfl (.cons (by dsimp only; rw [hs]; rfl) (.cons rfl (.cons rfl .nil))))) (fun _ h => by dsimp only; rw [hs]; exact h.subl SB.s SB.s)))
         · try simp only [qn1, qn2, qn3, qn4, qn5, qn6, qn7, qn8] at hc
           all_goals ((first | (exfalso; with_reducible exact btf hc) | skip))
           all_goals refine tc_skip ?_; ((refine hK9 ?_; try (clear hK9; clear K9)))
           all_goals refine tc_seq fun K11 hK11 => ?_; refine tc_region ?_; refine tl_q (y_assign rfl) rfl ?_; refine tl_nil ?_; ((refine hK11 ?_; try (clear hK11; clear K11)))
           all_goals refine tc_seq fun K12 hK12 => ?_; refine tc_seq fun K13 hK13 => ?_; refine tc_region ?_; refine tl_q (y_field rfl) rfl ?_; refine tl_q (y_load1 rfl (by repeat constructor) (by rfl)) rfl ?_; refine tl_q (y_move rfl) rfl ?_; ((refine tl_gs rfl rfl (fun hc => ?_) (fun hc => ?_) <;> (try simp only [qn1, qn2, qn3, qn4, qn5, qn6, qn7, qn8] at hc) <;> (first | refine tl_sk rfl rfl rfl rfl ?_ | refine tl_qg rfl rfl (y_field rfl) rfl ?_)))
           all_goals (first | refine tl_sk rfl rfl rfl rfl ?_ | refine tl_qg rfl rfl (y_load1 rfl (by repeat constructor) (by rfl)) rfl ?_); (first | refine tl_q (y_pick_t rfl rfl) rfl ?_ | refine tl_q (y_pick_f rfl rfl) rfl ?_); refine tl_nil ?_; ((refine hK13 ?_; try (clear hK13; clear K13)))
           all_goals (
            refine tc_cond rfl (fun hc => ?_) (fun hc => ?_)
            · try simp only [qn1, qn2, qn3, qn4, qn5, qn6, qn7, qn8] at hc
              all_goals refine tc_region ?_; refine tl_q (y_assign rfl) rfl ?_; refine tl_nil ?_; ((refine hK12 ?_; try (clear hK12; clear K12)))
              all_goals refine tc_region ?_; refine tl_q (y_move rfl) rfl ?_; refine tl_q (y_field rfl) rfl ?_; refine tl_q (y_load1 rfl (by repeat constructor) (by rfl)) rfl ?_; refine tl_q (y_add rfl rfl (by omega)) rfl ?_; refine tl_q (y_move rfl) rfl ?_; refine tl_q (y_build_g (by repeat constructor)) rfl ?_; refine tl_q (y_move rfl) rfl ?_; refine tl_q (y_build_g (by repeat constructor)) rfl ?_; refine tl_e (e_bsliceG rfl (.agg rfl rfl .nil) rfl rfl) rfl (fun _ _ => ?_); (refine tl_e (e_appendE (enc := stE h) (xs := stepN s b h st x n) (ys := [(actY x n, _)]) (stE_len h) (stE_one h) rfl rfl rfl hok (fun _ => by repeat constructor) (fun w' hw' => RdS.own0 (stE_len h) hw' (by repeat constructor)) (by simp only [List.length_cons, List.length_nil]; omega) rfl) rfl (fun oo' hok' => ?_))
              all_goals refine tl_q (y_assign rfl) rfl ?_; refine tl_nil ?_; ((refine hK6 ?_; try (clear hK6; clear K6)))
              all_goals refine tc_region ?_; refine tl_q (y_add rfl rfl (by omega)) rfl ?_; refine tl_q (y_move rfl) rfl ?_; refine tl_nil ?_
              all_goals (
               first
               | (have hs : stepN s b h st x (n + 1) = stepN s b h st x n := by rw [stepN_succ, stp1, if_neg (by simp_all), List.append_nil]
                  exact tk_round (n + 1, oo) ⟨by dsimp only; omega, by dsimp only; rw [hs]; exact hok⟩ (by dsimp only; omega) (.cons rfl (.cons rfl (.cons (by dsimp only; rw [hs]; rfl) (.cons rfl (.cons rfl .nil))))) (fun _ h => by dsimp only; rw [hs]; exact h.subl SB.s SB.s))
               | (have hs : stepN s b h st x (n + 1) = stepN s b h st x n ++ [(actY x n, 1)] := by rw [stepN_succ, stp1, if_pos (by simp_all), if_pos (by simp_all)]
                  exact tk_round (n + 1, oo') ⟨by dsimp only; omega, by dsimp only; rw [hs]; exact hok'⟩ (by dsimp only; omega) (.cons rfl (.cons rfl (.cons (by dsimp only; rw [hs]; rfl) (.cons rfl (.cons rfl .nil))))) (fun _ h => by dsimp only; rw [hs]; exact h.subl SB.s SB.s))
               | (have hs : stepN s b h st x (n + 1) = stepN s b h st x n ++ [(actY x n, 0)] := by rw [stepN_succ, stp1, if_pos (by simp_all), if_neg (by simp_all)]
                  exact tk_round (n + 1, oo') ⟨by dsimp only; omega, by dsimp only; rw [hs]; exact hok'⟩ (by dsimp only; omega) (.cons rfl (.cons rfl (.cons (by dsimp only; rw [hs]; rfl) (.cons rfl (.cons rfl .nil))))) (fun _ h => by dsimp only; rw [hs]; exact h.subl SB.s SB.s)))
            · all_goals ((first | (exfalso; with_reducible exact btf hc) | skip))
              all_goals refine tc_skip ?_; ((refine hK12 ?_; try (clear hK12; clear K12)))
              all_goals refine tc_region ?_; refine tl_q (y_move rfl) rfl ?_; refine tl_q (y_field rfl) rfl ?_; refine tl_q (y_load1 rfl (by repeat constructor) (by rfl)) rfl ?_; refine tl_q (y_add rfl rfl (by omega)) rfl ?_; refine tl_q (y_move rfl) rfl ?_; refine tl_q (y_build_g (by repeat constructor)) rfl ?_; refine tl_q (y_move rfl) rfl ?_; refine tl_q (y_build_g (by repeat constructor)) rfl ?_; refine tl_e (e_bsliceG rfl (.agg rfl rfl .nil) rfl rfl) rfl (fun _ _ => ?_); (refine tl_e (e_appendE (enc := stE h) (xs := stepN s b h st x n) (ys := [(actY x n, _)]) (stE_len h) (stE_one h) rfl rfl rfl hok (fun _ => by repeat constructor) (fun w' hw' => RdS.own0 (stE_len h) hw' (by repeat constructor)) (by simp only [List.length_cons, List.length_nil]; omega) rfl) rfl (fun oo' hok' => ?_))
              all_goals refine tl_q (y_assign rfl) rfl ?_; refine tl_nil ?_; ((refine hK6 ?_; try (clear hK6; clear K6)))
              all_goals refine tc_region ?_; refine tl_q (y_add rfl rfl (by omega)) rfl ?_; refine tl_q (y_move rfl) rfl ?_; refine tl_nil ?_
              all_goals (
               first
               | (have hs : stepN s b h st x (n + 1) = stepN s b h st x n := by rw [stepN_succ, stp1, if_neg (by simp_all), List.append_nil]
                  exact tk_round (n + 1, oo) ⟨by dsimp only; omega, by dsimp only; rw [hs]; exact hok⟩ (by dsimp only; omega) (.cons rfl (.cons rfl (.cons (by dsimp only; rw [hs]; rfl) (.cons rfl (.cons rfl .nil))))) (fun _ h => by dsimp only; rw [hs]; exact h.subl SB.s SB.s))
               | (have hs : stepN s b h st x (n + 1) = stepN s b h st x n ++ [(actY x n, 1)] := by rw [stepN_succ, stp1, if_pos (by simp_all), if_pos (by simp_all)]
                  exact tk_round (n + 1, oo') ⟨by dsimp only; omega, by dsimp only; rw [hs]; exact hok'⟩ (by dsimp only; omega) (.cons rfl (.cons rfl (.cons (by dsimp only; rw [hs]; rfl) (.cons rfl (.cons rfl .nil))))) (fun _ h => by dsimp only; rw [hs]; exact h.subl SB.s SB.s))
               | (have hs : stepN s b h st x (n + 1) = stepN s b h st x n ++ [(actY x n, 0)] := by rw [stepN_succ, stp1, if_pos (by simp_all), if_neg (by simp_all)]
                  exact tk_round (n + 1, oo') ⟨by dsimp only; omega, by dsimp only; rw [hs]; exact hok'⟩ (by dsimp only; omega) (.cons rfl (.cons rfl (.cons (by dsimp only; rw [hs]; rfl) (.cons rfl (.cons rfl .nil))))) (fun _ h => by dsimp only; rw [hs]; exact h.subl SB.s SB.s)))))
      · try simp only [qn1, qn2, qn3, qn4, qn5, qn6, qn7, qn8] at hc
        all_goals refine tc_exit ?_; ((refine hK2 ?_; try (clear hK2; clear K2)))
        all_goals refine tc_seq fun K14 hK14 => ?_; refine tc_region ?_; refine tl_q (y_move rfl) rfl ?_; refine tl_q (y_assign rfl) rfl ?_; refine tl_nil ?_; ((refine hK14 ?_; try (clear hK14; clear K14)))
        all_goals refine tc_ret ?_; (repeat (first | refine tk_then_ret ?_))
        all_goals (refine tk_ret rfl rfl (.cons (.tmp rfl) .nil) ?_)
        all_goals (
         obtain rfl : n = 4 := by omega
         exact fun w' hw' => ⟨ouA oo, rfl, hw'.fr (w0 := w) (S := []) MI.m, RdS.ofO (stE_len h) hok hw' (by repeat constructor), NewS.ofO hw' (by repeat constructor) MI.m⟩)))
end Go.Sp
/-
  Package sample: the fewest open hours from each spot on.
-/
namespace Go.Sp
open Go Go.Proofs
def minP (l : List (Bool × Int)) (r : Bool → Option Int) : Nat → Option Int
  | 0 => none
  | n + 1 => match r (l.getD n (false, 0)).1 with
    | none => minP l r n
    | some m => match minP l r n with
      | none => some (m + (l.getD n (false, 0)).2)
      | some own => some (min own (m + (l.getD n (false, 0)).2))
/-- From an hour on, of which k are left. -/
def rstF (s : Smp) (b : Int) (c : List Int) : Nat → Bool → Option Int
  | 0, _ => some 0
  | k + 1, x => minP (stepL s b (s.L - k) (stB s c (s.L - k)) x) (rstF s b c k) (stepL s b (s.L - k) (stB s c (s.L - k)) x).length
theorem stepN_mem {s : Smp} {b h : Int} {st x : Bool} {n : Nat} {y : Bool × Int} (hy : y ∈ stepN s b h st x n) : y.2 = 0 ∨ y.2 = 1 := by
  obtain ⟨a, _, ha⟩ := List.mem_flatMap.1 hy
  unfold stp1 at ha
  split at ha
  · obtain rfl := List.mem_singleton.1 ha
    dsimp only
    split
    · exact .inr rfl
    · exact .inl rfl
  · cases ha
theorem getD_memG {α : Type} {l : List α} {n : Nat} {d : α} (h : n < l.length) : l.getD n d ∈ l := by
  rw [List.getD_eq_getElem?_getD, List.getElem?_eq_getElem h]; exact List.getElem_mem h
theorem minP_bd {l : List (Bool × Int)} {r : Bool → Option Int} {k : Int} (hl : ∀ y ∈ l, y.2 = 0 ∨ y.2 = 1) (hr : ∀ x m, r x = some m → 0 ≤ m ∧ m ≤ k) : ∀ n, n ≤ l.length → ∀ m, minP l r n = some m → 0 ≤ m ∧ m ≤ k + 1
  | 0, _, m, h => by cases h
  | n + 1, hn, m, h => by
    have ih := minP_bd hl hr n (by omega)
    have h2 := hl _ (getD_memG (n := n) (d := (false, 0)) (by omega))
    unfold minP at h
    split at h
    · exact ih m h
    · rename_i m1 h1
      have := hr _ _ h1
      split at h
      · cases h; omega
      · rename_i own h3
        have := ih own h3
        cases h; omega
theorem rstF_bd (s : Smp) (b : Int) (c : List Int) : ∀ (k : Nat) (x : Bool) (m : Int), rstF s b c k x = some m → 0 ≤ m ∧ m ≤ k
  | 0, _, m, h => by cases h; exact ⟨by omega, by omega⟩
  | k + 1, x, m, h => by
    have := minP_bd (fun y hy => stepN_mem hy) (rstF_bd s b c k) _ (Nat.le_refl _) m h
    exact ⟨this.1, by have := this.2; omega⟩
/-- What the map holds when k hours are done. -/
def restM (s : Smp) (b : Int) (c : List Int) (k : Nat) (j : Int) (x : Bool) : Option Int := if s.L - k < j ∧ j ≤ s.L + 1 then rstF s b c (s.L + 1 - j).toNat x else none
/-- .. and at the hour at hand for some seals, too. -/
def restX (s : Smp) (b : Int) (c : List Int) (k i : Nat) (j : Int) (x : Bool) : Option Int := if j = s.L - k then (if x.toNat < i then rstF s b c (k + 1) x else none) else restM s b c k j x
def restY (s : Smp) (b : Int) (c : List Int) (k : Nat) (z : Bool) (n : Nat) (j : Int) (x : Bool) : Option Int :=
  if j = s.L - k ∧ x = z then minP (stepL s b (s.L - k) (stB s c (s.L - k)) z) (rstF s b c k) n else restX s b c k z.toNat j x
theorem restX_0 (s : Smp) (b : Int) (c : List Int) (k : Nat) (j : Int) (x : Bool) : restX s b c k 0 j x = restM s b c k j x := by
  unfold restX
  split
  · rename_i h; unfold restM; rw [if_neg (by omega), if_neg (by omega)]
  · rfl
theorem restY_0 (s : Smp) (b : Int) (c : List Int) (k : Nat) (z : Bool) (j : Int) (x : Bool) : restY s b c k z 0 j x = restX s b c k z.toNat j x := by
  unfold restY
  split
  · rename_i h; unfold restX; rw [if_pos h.1, h.2, if_neg (by omega)]; rfl
  · rfl
theorem restY_end (s : Smp) (b : Int) (c : List Int) (k : Nat) (z : Bool) (j : Int) (x : Bool) : restY s b c k z (stepL s b (s.L - k) (stB s c (s.L - k)) z).length j x = restX s b c k (z.toNat + 1) j x := by
  unfold restY
  by_cases h : j = s.L - k
  · unfold restX
    rw [if_pos h, if_pos h]
    by_cases h2 : x = z
    · subst h2; rw [if_pos ⟨h, rfl⟩, if_pos (by omega)]; rfl
    · rw [if_neg (fun g => h2 g.2)]
      cases x <;> cases z <;> simp_all
  · unfold restX
    rw [if_neg (fun g => h g.1), if_neg h, if_neg h]
theorem restX_2 (s : Smp) (b : Int) (c : List Int) (k : Nat) (hk : (k : Int) ≤ s.L) (j : Int) (x : Bool) : restX s b c k 2 j x = restM s b c (k + 1) j x := by
  unfold restX restM
  have hx : x.toNat < 2 := by cases x <;> decide
  by_cases h : j = s.L - k
  · rw [if_pos h, if_pos hx, if_pos (by omega)]; congr 1; omega
  · rw [if_neg h]
    by_cases h2 : s.L - k < j ∧ j ≤ s.L + 1
    · rw [if_pos h2, if_pos (by omega)]
    · rw [if_neg h2, if_neg (by omega)]
theorem restY_next {s : Smp} {b : Int} {c : List Int} {k : Nat} {z x : Bool} {n : Nat} : restY s b c k z n (s.L - k + 1) x = rstF s b c k x := by
  unfold restY restX restM
  rw [if_neg (fun h => by have := h.1; omega), if_neg (by omega), if_pos (by omega)]; congr 1; omega
theorem restY_own {s : Smp} {b : Int} {c : List Int} {k : Nat} {z : Bool} {n : Nat} : restY s b c k z n (s.L - k) z = minP (stepL s b (s.L - k) (stB s c (s.L - k)) z) (rstF s b c k) n := by
  unfold restY; rw [if_pos ⟨rfl, rfl⟩]
theorem restY_set {s : Smp} {b : Int} {c : List Int} {k : Nat} {z : Bool} {n : Nat} {v : Int} (h : minP (stepL s b (s.L - k) (stB s c (s.L - k)) z) (rstF s b c k) (n + 1) = some v) (j : Int) (x : Bool) :
    (if j = s.L - k ∧ x = z then some v else restY s b c k z n j x) = restY s b c k z (n + 1) j x := by
  unfold restY
  by_cases hg : j = s.L - k ∧ x = z
  · rw [if_pos hg, if_pos hg, h]
  · rw [if_neg hg, if_neg hg, if_neg hg]
def blF (i : Nat) : Bool := i == 1
theorem mmin_c (a b : Int) (sl : Value) (w : World) (hr : RdI w sl [a, b]) : CnV Tryz.prog 136 #[sl] w (vi (min a b)) := by
  refine cnv (vs := [_]) Tryz.func136 rfl rfl ?_
  all_goals refine tc_seq fun K1 hK1 => ?_; refine tc_region ?_; refine tl_q (y_assign rfl) rfl ?_; refine tl_nil ?_; ((refine hK1 ?_; try (clear hK1; clear K1)))
  all_goals refine tc_seq fun K2 hK2 => ?_; refine tc_region ?_; refine tl_q (y_move rfl) rfl ?_; refine tl_e (e_callV rfl (.cons rfl .nil) (fun w' hw' => min_c a b _ w' (hr.fr (hw'.fr (by simp))))) rfl (fun _ _ => ?_); refine tl_q (y_assign rfl) rfl ?_; refine tl_nil ?_; ((refine hK2 ?_; try (clear hK2; clear K2)))
  all_goals refine tc_ret ?_; (repeat (first | refine tk_then_ret ?_))
  all_goals (refine tk_ret rfl rfl (.cons (.tmp rfl) .nil) ?_)
  all_goals (
   exact fun w' hw' => ⟨rfl, hw'.fr (by simp)⟩)
theorem len10 {c : List Int} (h : c.length = 10) : ∃ a0 a1 a2 a3 a4 a5 a6 a7 a8 a9, c = [a0, a1, a2, a3, a4, a5, a6, a7, a8, a9] := by
  match c, h with
  | [a0, a1, a2, a3, a4, a5, a6, a7, a8, a9], _ => exact ⟨a0, a1, a2, a3, a4, a5, a6, a7, a8, a9, rfl⟩
theorem KeyB_nil : KeyB (#[] : Array MapEntry).toList := fun e h => by cases h
theorem initM {s : Smp} {b : Int} {c : List Int} {f1 f2 : Int → Bool → Option Int} {x1 x2 : Bool} (hx : x1 = !x2) (h1 : ∀ j x, f1 j x = if j = s.L + 1 ∧ x = x1 then some 0 else findB (#[] : Array MapEntry).toList j x) (h2 : ∀ j x, f2 j x = if j = s.L + 1 ∧ x = x2 then some 0 else f1 j x) (j : Int) (x : Bool) : f2 j x = restM s b c 0 j x := by
  rw [h2, h1]
  unfold restM
  by_cases h : j = s.L + 1
  · subst h
    rw [if_pos (by omega : s.L - ((0 : Nat) : Int) < s.L + 1 ∧ s.L + 1 ≤ s.L + 1), show (s.L + 1 - (s.L + 1)).toNat = 0 from by omega]
    show _ = some 0
    by_cases hxx : x = x2
    · rw [if_pos ⟨rfl, hxx⟩]
    · rw [if_neg (fun g => hxx g.2), if_pos ⟨rfl, by subst hx; cases x <;> cases x2 <;> first | rfl | exact absurd rfl hxx⟩]
  · rw [if_neg (fun g => h g.1), if_neg (fun g => h g.1), if_neg (by omega)]; rfl
theorem opt_none {α : Type} {o : Option α} (h : o.isSome = false) : o = none := by cases o with | none => rfl | some _ => cases h
theorem opt_some {α : Type} {o : Option α} (h : o.isSome = true) : ∃ m, o = some m := by cases o with | none => cases h | some m => exact ⟨m, rfl⟩
theorem minP_no {l : List (Bool × Int)} {r : Bool → Option Int} {n : Nat} (h : r (l.getD n (false, 0)).1 = none) : minP l r (n + 1) = minP l r n := by
  rw [minP, h]
theorem minP_own {l : List (Bool × Int)} {r : Bool → Option Int} {n : Nat} {m own : Int} (h : r (l.getD n (false, 0)).1 = some m) (h2 : minP l r n = some own) : minP l r (n + 1) = some (min own (m + (l.getD n (false, 0)).2)) := by
  rw [minP, h, h2]
theorem minP_new {l : List (Bool × Int)} {r : Bool → Option Int} {n : Nat} {m : Int} (h : r (l.getD n (false, 0)).1 = some m) (h2 : minP l r n = none) : minP l r (n + 1) = some (m + (l.getD n (false, 0)).2) := by
  rw [minP, h, h2]
theorem restY_no {s : Smp} {b : Int} {c : List Int} {k : Nat} {z : Bool} {n : Nat} (h : minP (stepL s b (s.L - k) (stB s c (s.L - k)) z) (rstF s b c k) (n + 1) = minP (stepL s b (s.L - k) (stB s c (s.L - k)) z) (rstF s b c k) n) (j : Int) (x : Bool) : restY s b c k z n j x = restY s b c k z (n + 1) j x := by
  unfold restY; rw [h]
set_option maxHeartbeats 4000000 in
theorem work_c (s : Smp) (hf : Few s) (hv : VSm s) (b : Int) (c : List Int) (hco : ChOk s c) (tv pv gv : Value) (w : World) (hr : RdSm w s tv pv gv) :
    CnX Tryz.prog 107 #[smV s tv pv gv, vi b, .agg (isV c)] w [] (fun y : Nat × Nat × Array MapEntry × Nat => ptr y.1)
      (fun y w' => (Wk w' s tv pv gv b c y.1 y.2.1 ∧ w'.heap[y.2.1]? = some (.map y.2.2.1 y.2.2.2) ∧ KeyB y.2.2.1.toList ∧ ∀ j x, findB y.2.2.1.toList j x = restM s b c (s.L + 1).toNat j x) ∧ w.heap.size ≤ y.1 ∧ w.heap.size ≤ y.2.1) := by
  have hr0 := hr
  have hl0 := hv.l0
  have hl9 := hv.l9
  have hcl := hco.len
  have hot := hr.st.one
  have hop := hr.ps.one
  have hog := hr.sg.one
  obtain ⟨a0, a1, a2, a3, a4, a5, a6, a7, a8, a9, hcc⟩ := len10 hcl
  have hisv : isV c = #[vi a0, vi a1, vi a2, vi a3, vi a4, vi a5, vi a6, vi a7, vi a8, vi a9] := by rw [hcc]; rfl
  rw [hisv]
  refine cnx0 (vs := [_, _, _]) Tryz.func107 rfl rfl ?_
  all_goals refine tc_seq fun K1 hK1 => ?_; refine tc_region ?_; refine tl_e (e_box rfl rfl rfl) rfl (fun b3 _ => ?_); refine tl_e (e_box rfl rfl rfl) rfl (fun b5 _ => ?_); refine tl_q (y_assign rfl) rfl ?_; refine tl_nil ?_; ((refine hK1 ?_; try (clear hK1; clear K1)))
  all_goals refine tc_seq fun K2 hK2 => ?_; refine tc_drawS ([(b5, .cells #[vi a0, vi a1, vi a2, vi a3, vi a4, vi a5, vi a6, vi a7, vi a8, vi a9] 124 (0, 0)), (b3, .cells #[vi s.B, vi s.P, vi s.L, vi s.F, tv, pv, gv] 36 (0, 0))]) (by kernel_rfl) ?_; refine tx_qS 0 rfl (by kernel_rfl) (y_loadW rfl (by repeat constructor) (by rfl)) rfl (fun _ _ _ h => h) (fun _ h => h.subl SB.s SB.s) ?_; refine tx_p 1 rfl (by kernel_rfl) (y_move rfl) rfl (fun _ _ _ h => h) (fun _ h => h.subl SB.s SB.s) ?_; refine tx_qS 2 rfl (by kernel_rfl) (y_loadW rfl (by repeat constructor) (by rfl)) rfl (fun _ _ _ h => h) (fun _ h => h.subl SB.s SB.s) ?_; refine tx_p 4 rfl (by kernel_rfl) (y_field rfl) rfl (fun _ _ _ h => h) (fun _ h => h.subl SB.s SB.s) ?_; refine tx_qS 5 rfl (by kernel_rfl) (y_load1 rfl (by repeat constructor) (by rfl)) rfl (fun _ _ _ h => h) (fun _ h => h.subl SB.s SB.s) ?_; refine tx_p 6 rfl (by kernel_rfl) (y_add rfl rfl (by omega)) rfl (fun _ _ _ h => h) (fun _ h => h.subl SB.s SB.s) ?_; refine tx_p 7 rfl (by kernel_rfl) (y_build_g (by repeat constructor)) rfl (fun _ _ _ h => h) (fun _ h => h.subl SB.s SB.s) ?_; refine tx_p 9 rfl (by kernel_rfl) (y_field rfl) rfl (fun _ _ _ h => h) (fun _ h => h.subl SB.s SB.s) ?_; refine tx_qS 10 rfl (by kernel_rfl) (y_load1 rfl (by repeat constructor) (by rfl)) rfl (fun _ _ _ h => h) (fun _ h => h.subl SB.s SB.s) ?_; refine tx_p 11 rfl (by kernel_rfl) (y_add rfl rfl (by omega)) rfl (fun _ _ _ h => h) (fun _ h => h.subl SB.s SB.s) ?_; refine tx_p 12 rfl (by kernel_rfl) (y_build_g (by repeat constructor)) rfl (fun _ _ _ h => h) (fun _ h => h.subl SB.s SB.s) ?_; refine tx_single 3 (by kernel_rfl) (to_e rfl rfl (e_makeMap rfl) (.inr ⟨fun _ _ h => h.subl SB.s SB.s, fun _ h => h⟩) (fun r _ => ?_))
  all_goals (
   refine tx_pair 8 13 (by kernel_rfl) ?_ ?_
   rotate_left
   focus (
    (refine to_e rfl rfl (e_insertB (es := #[]) KeyB_nil rfl rfl rfl (fun _ => by repeat constructor)) (.inr ⟨fun _ _ h => h.subl SB.s SB.s, fun _ h => h⟩) (fun q2 hq2 => ?_))
    all_goals (refine tx_single 8 (by kernel_rfl) (to_e rfl rfl (e_insertB (es := q2.1) hq2.1 rfl rfl rfl (fun _ => by repeat constructor)) (.inr ⟨fun _ _ h => h.subl SB.s SB.s, fun _ h => h⟩) (fun q1 hq1 => ?_))); refine tx_p 14 rfl (by kernel_rfl) (y_move rfl) rfl (fun _ _ _ h => h) (fun _ h => h.subl SB.s SB.s) ?_; refine tx_p 15 rfl (by kernel_rfl) (y_build_g (by repeat constructor)) rfl (fun _ _ _ h => h) (fun _ h => h.subl SB.s SB.s) ?_; refine tx_single 16 (by kernel_rfl) (to_e rfl rfl (e_box rfl rfl rfl) (.inr ⟨fun _ _ h => h.subl SB.s SB.s, fun _ h => h⟩) (fun bw _ => ?_)); refine tx_p 17 rfl (by kernel_rfl) (y_assign rfl) rfl (fun _ _ _ h => h) (fun _ h => h.subl SB.s SB.s) ?_
    all_goals refine tx_done (by kernel_rfl) ?_)
   rotate_right
   focus (
    (refine to_e rfl rfl (e_insertB (es := #[]) KeyB_nil rfl rfl rfl (fun _ => by repeat constructor)) (.inr ⟨fun _ _ h => h.subl SB.s SB.s, fun _ h => h⟩) (fun q1 hq1 => ?_))
    all_goals (refine tx_single 13 (by kernel_rfl) (to_e rfl rfl (e_insertB (es := q1.1) hq1.1 rfl rfl rfl (fun _ => by repeat constructor)) (.inr ⟨fun _ _ h => h.subl SB.s SB.s, fun _ h => h⟩) (fun q2 hq2 => ?_))); refine tx_p 14 rfl (by kernel_rfl) (y_move rfl) rfl (fun _ _ _ h => h) (fun _ h => h.subl SB.s SB.s) ?_; refine tx_p 15 rfl (by kernel_rfl) (y_build_g (by repeat constructor)) rfl (fun _ _ _ h => h) (fun _ h => h.subl SB.s SB.s) ?_; refine tx_single 16 (by kernel_rfl) (to_e rfl rfl (e_box rfl rfl rfl) (.inr ⟨fun _ _ h => h.subl SB.s SB.s, fun _ h => h⟩) (fun bw _ => ?_)); refine tx_p 17 rfl (by kernel_rfl) (y_assign rfl) rfl (fun _ _ _ h => h) (fun _ h => h.subl SB.s SB.s) ?_
    all_goals refine tx_done (by kernel_rfl) ?_))
  all_goals ((refine hK2 ?_; try (clear hK2; clear K2)))
  all_goals refine tc_seq fun K3 hK3 => ?_; refine tc_seq fun K4 hK4 => ?_; refine tc_region ?_; refine tl_q (y_field rfl) rfl ?_; refine tl_q (y_load1 rfl (by repeat constructor) (by rfl)) rfl ?_; refine tl_q (y_assign rfl) rfl ?_; refine tl_nil ?_; ((refine hK4 ?_; try (clear hK4; clear K4)))
  all_goals refine tc_block ?_
  all_goals (
   first
   | (have hQ := initM (s := s) (b := b) (c := c) rfl hq1.2 hq2.2
      have hQk := hq2.1
      obtain ⟨es0, ck0⟩ := q2)
   | (have hQ := initM (s := s) (b := b) (c := c) rfl hq2.2 hq1.2
      have hQk := hq1.1
      obtain ⟨es0, ck0⟩ := q1)
   dsimp only at hQ hQk
   refine tc_lay [(r, .map es0 ck0)] SB.s (fun wl2 hl2 => ?_)
   have hW2 : Wk wl2 s tv pv gv b c bw r := ⟨by have := hl2.at (b := bw) (by repeat constructor); rw [hcc]; exact this, hr0.fr (hl2.fr (w0 := w) (S := []) MI.m)⟩
   have hnew : w.heap.size ≤ bw ∧ w.heap.size ≤ r := ⟨(hl2.own _ (HM.mem (b := bw) (by repeat constructor)) (w, []) MI.m).resolve_left (by simp), (hl2.own _ (HM.mem (b := r) (by repeat constructor)) (w, []) MI.m).resolve_left (by simp)⟩
   have hmap2 : ∃ es ck, wl2.heap[r]? = some (.map es ck) := ⟨es0, ck0, hl2.at (by repeat constructor)⟩
   have hWf : ∀ w', Fr [r] wl2 w' → Wk w' s tv pv gv b c bw r := fun w' f => hW2.frM f (fun x hx => by obtain rfl := List.mem_singleton.1 hx; exact hmap2)
   refine tc_loop (fun p : Nat × Array MapEntry × Nat => (p.1 : Int) ≤ s.L + 1 ∧ KeyB p.2.1.toList ∧ ∀ j x, findB p.2.1.toList j x = restM s b c p.1 j x) (fun p => [(7, ptr bw), (8, vi (s.L - p.1))]) (fun _ => [(wl2, [r]), (w, [])]) (fun p => [(r, .map p.2.1 p.2.2)]) (fun p => (s.L + 1).toNat - p.1) ?_ ?_
   · exact tk_start (0, es0, ck0) ⟨by dsimp only; omega, hQk, hQ⟩ (.cons rfl (.cons (by dsimp only; rw [show s.L - ((0 : Nat) : Int) = s.L from by omega]; rfl) .nil)) (fun _ h => h.subl SB.s SB.s)
   · rintro ⟨k, es, ck⟩ ⟨hk, hkb, hfb⟩
     dsimp only at hk hkb hfb ⊢
     all_goals refine tc_seq fun K5 hK5 => ?_; refine tc_seq fun K6 hK6 => ?_; refine tc_region ?_; refine tl_q (y_move rfl) rfl ?_; refine tl_q (y_geq rfl rfl) rfl ?_; refine tl_nil ?_; ((refine hK6 ?_; try (clear hK6; clear K6)))
     all_goals (
      refine tc_cond rfl (fun hc => ?_) (fun hc => ?_)
      · try simp only [qn1, qn2, qn3, qn4, qn5, qn6, qn7, qn8] at hc
        all_goals refine tc_skip ?_; ((refine hK5 ?_; try (clear hK5; clear K5)))
        all_goals refine tc_seq fun K7 hK7 => ?_; refine tc_block ?_; refine tc_seq fun K8 hK8 => ?_; refine tc_region ?_; (refine tl_e (e_bslice rfl (by (repeat (first | exact .nil | apply PV.one rfl rfl)); done) rfl rfl) rfl (fun b39 _ => ?_))
        all_goals refine tl_q (y_len rfl) rfl ?_; refine tl_q (y_move rfl) rfl ?_; refine tl_nil ?_; ((refine hK8 ?_; try (clear hK8; clear K8)))
        all_goals refine tc_block ?_
        all_goals (
         refine tc_lay [(r, .map es ck)] SB.s (fun wl5 hl5 => ?_)
         have hne39 : b39 ∉ [r] := by have := hl5.nodup; simp at this ⊢; exact this
         have h39 : ∀ w', Fr [r] wl5 w' → w'.heap[b39]? = some (.cells #[.bool false, .bool true] 4 (0, 0)) := fun w' f => f.keepS hne39 (hl5.at (by repeat constructor))
         refine tc_loop (fun p : Nat × Array MapEntry × Nat => p.1 ≤ 2 ∧ KeyB p.2.1.toList ∧ ∀ j x, findB p.2.1.toList j x = restX s b c k p.1 j x) (fun p => [(7, ptr bw), (8, vi (s.L - k)), (39, .slice (some ⟨b39, 0, none⟩) 2 2), (40, vi 2), (41, vi p.1)]) (fun _ => [(wl5, [r]), (wl2, [r]), (w, [])]) (fun p => [(r, .map p.2.1 p.2.2)]) (fun p => 2 - p.1) ?_ ?_
         · exact tk_start (0, es, ck) ⟨Nat.zero_le _, hkb, fun j x => by rw [restX_0]; exact hfb j x⟩ (.cons rfl (.cons rfl (.cons rfl (.cons rfl (.cons rfl .nil))))) (fun _ h => h.subl SB.s SB.s)
         · rintro ⟨i, es1, ck1⟩ ⟨hi, hkb1, hfb1⟩
           dsimp only at hi hkb1 hfb1 ⊢
           all_goals refine tc_seq fun K9 hK9 => ?_; refine tc_region ?_; refine tl_q (y_lss rfl rfl) rfl ?_; refine tl_nil ?_; ((refine hK9 ?_; try (clear hK9; clear K9)))
           all_goals refine tc_seq fun K10 hK10 => ?_
           all_goals (
            refine tc_cond rfl (fun hc => ?_) (fun hc => ?_)
            · try simp only [qn1, qn2, qn3, qn4, qn5, qn6, qn7, qn8] at hc
              all_goals refine tc_skip ?_; ((refine hK10 ?_; try (clear hK10; clear K10)))
              all_goals refine tc_seq fun K11 hK11 => ?_; refine tc_block ?_; refine tc_seq fun K12 hK12 => ?_; refine tc_region ?_; refine tl_q (y_index rfl rfl (by omega) rfl) rfl ?_; ((refine tl_q (y_load1o (v := .bool (blF i)) rfl (fun w' hw' => cell0 (h39 w' (hw'.fr (w0 := wl5) (S := [r]) MI.m)) (by rcases (by omega : i = 0 ∨ i = 1) with rfl | rfl <;> rfl))) rfl ?_))
              all_goals refine tl_q (y_assign rfl) rfl ?_; refine tl_nil ?_; ((refine hK12 ?_; try (clear hK12; clear K12)))
              all_goals refine tc_seq fun K13 hK13 => ?_; refine tc_region ?_; refine tl_q (y_move rfl) rfl ?_; refine tl_q (y_move rfl) rfl ?_; refine tl_q (y_build_g (by repeat constructor)) rfl ?_; refine tl_e (e_allocN rfl) rfl (fun b11 _ => ?_); refine tl_e (e_storeW rfl rfl (by repeat constructor) (by rfl) (by rfl) (by simp [Value.oneCell'])) rfl (fun _ _ => ?_); refine tl_nil ?_; ((refine hK13 ?_; try (clear hK13; clear K13)))
              all_goals refine tc_seq fun K14 hK14 => ?_; refine tc_lay [(r, .map es1 ck1)] SB.s (fun wl9 hl9 => ?_); ((have h11 : ∀ w', Fr [r] wl9 w' → w'.heap[b11]? = some (.cells #[vi (s.L - k), .bool (blF i)] 162 (0, 0)) := fun w' f => f.keepS (by have := hl9.nodup; simp at this ⊢; exact this) (hl9.at (by repeat constructor))))
              all_goals refine tc_region ?_; refine tl_q (y_move rfl) rfl ?_; refine tl_q (y_loadNo (n := 2) (vs := [vi (s.L - k), .bool (blF i)]) rfl (fun w' hw' => (CA_whole (c := #[vi (s.L - k), .bool (blF i)]) (t := 162) (f := (0, 0)) rfl).cells (h11 w' (hw'.fr (w0 := wl9) (S := [r]) MI.m)))) rfl ?_; refine tl_e (e_callX rfl (.cons rfl (.cons rfl .nil)) (fun w' hw' => (steps_c s hf hv b c hco (s.L - k) (by omega) (blF i) tv pv gv bw r w' (hWf w' (hw'.fr (w0 := wl2) (S := [r]) MI.m))).imp (p' := fun y w' => RdS 3 (stE (s.L - k)) w' (slV (stepL s b (s.L - k) (stB s c (s.L - k)) (blF i)).length y) (stepL s b (s.L - k) (stB s c (s.L - k)) (blF i))) id (fun _ => rfl) (fun _ h => h) (fun _ _ _ h => h.1))) rfl (fun y hy => ?_); refine tl_q (y_len rfl) rfl ?_; refine tl_q (y_move rfl) rfl ?_; refine tl_nil ?_; ((refine hK14 ?_; try (clear hK14; clear K14)))
              all_goals refine tc_block ?_
              all_goals (
               obtain ⟨hyr, hyw⟩ := hy
               have hmr : ∃ es ck, y.2.heap[r]? = some (.map es ck) := ⟨_, _, hyw.at (by repeat constructor)⟩
               have hcl1 := hyr.open (stE_len (s.L - k)) (false, 0)
               obtain ⟨ady, cpy, bY, oY, hyv, hady, hcely⟩ := hcl1
               have hcel : ∀ w', Fr [r] y.2 w' → ∀ n : Nat, n < (stepL s b (s.L - k) (stB s c (s.L - k)) (blF i)).length → CA (fun m => w'.cell? ⟨bY, m, none⟩) (oY + n * 3) 3 (stE (s.L - k) ((stepL s b (s.L - k) (stB s c (s.L - k)) (blF i)).getD n (false, 0))) := fun w' f n hn => by
                 have h1 := hyr.frM f (fun x hx => by obtain rfl := List.mem_singleton.1 hx; exact hmr)
                 obtain ⟨ad2, cp2, b2, o2, e1, e2, e3⟩ := h1.open (stE_len (s.L - k)) (false, 0)
                 rw [hyv] at e1
                 cases e1
                 have e4 := e2 (by omega)
                 rw [hady (by omega)] at e4
                 cases e4
                 exact e3 w' [] (Fr.refl _ _) (by simp) n hn
               have hy1 : y.1 = (ady, cpy) := by cases hyv; rfl
               refine tc_loop (fun p : Nat × Array MapEntry × Nat => p.1 ≤ (stepL s b (s.L - k) (stB s c (s.L - k)) (blF i)).length ∧ KeyB p.2.1.toList ∧ ∀ j x, findB p.2.1.toList j x = restY s b c k (blF i) p.1 j x) (fun p => [(7, ptr bw), (8, vi (s.L - k)), (11, ptr b11), (39, .slice (some ⟨b39, 0, none⟩) 2 2), (40, vi 2), (41, vi i), (50, slV (stepL s b (s.L - k) (stB s c (s.L - k)) (blF i)).length y.1), (51, vi (stepL s b (s.L - k) (stB s c (s.L - k)) (blF i)).length), (52, vi p.1)]) (fun _ => [(y.2, [r]), (wl9, [r]), (wl5, [r]), (wl2, [r]), (w, [])]) (fun p => [(r, .map p.2.1 p.2.2)]) (fun p => (stepL s b (s.L - k) (stB s c (s.L - k)) (blF i)).length - p.1) ?_ ?_
               · refine tk_start (0, es1, ck1) ⟨Nat.zero_le _, hkb1, fun j x => ?_⟩ (.cons rfl (.cons rfl (.cons rfl (.cons rfl (.cons rfl (.cons rfl (.cons rfl (.cons rfl (.cons rfl .nil))))))))) (fun _ h => h.subl SB.s SB.s)
                 rw [restY_0, show (blF i).toNat = i from by rcases (by omega : i = 0 ∨ i = 1) with rfl | rfl <;> rfl]
                 exact hfb1 j x
               · rintro ⟨n, es2, ck2⟩ ⟨hn, hkb2, hfb2⟩
                 dsimp only at hn hkb2 hfb2 ⊢
                 have hsl4 : (stepL s b (s.L - k) (stB s c (s.L - k)) (blF i)).length ≤ 4 := stepN_len s b (s.L - k) (stB s c (s.L - k)) (blF i) 4
                 all_goals refine tc_seq fun K15 hK15 => ?_; refine tc_region ?_; refine tl_q (y_lss rfl rfl) rfl ?_; refine tl_nil ?_; ((refine hK15 ?_; try (clear hK15; clear K15)))
                 all_goals refine tc_seq fun K16 hK16 => ?_
                 all_goals (
                  refine tc_cond rfl (fun hc => ?_) (fun hc => ?_)
                  · try simp only [qn1, qn2, qn3, qn4, qn5, qn6, qn7, qn8] at hc
                    all_goals refine tc_skip ?_; ((refine hK16 ?_; try (clear hK16; clear K16)))
                    all_goals refine tc_seq fun K17 hK17 => ?_; refine tc_block ?_; refine tc_seq fun K18 hK18 => ?_; refine tc_region ?_; ((refine tl_q (y_index rfl rfl (by omega) (by rw [hy1]; exact hady (by omega))) rfl ?_))
                    all_goals ((refine tl_q (y_loadNo (n := 3) (vs := [vi (s.L - k + 1), .bool ((stepL s b (s.L - k) (stB s c (s.L - k)) (blF i)).getD n (false, 0)).1, vi ((stepL s b (s.L - k) (stB s c (s.L - k)) (blF i)).getD n (false, 0)).2]) rfl (fun w' hw' => by rw [show Int.toNat (n : Int) * 3 = n * 3 from by omega]; exact hcel w' (hw'.fr (w0 := y.2) (S := [r]) MI.m) n (by omega))) rfl ?_))
                    all_goals refine tl_e (e_allocN rfl) rfl (fun _ _ => ?_); refine tl_e (e_storeW rfl rfl (by repeat constructor) (by rfl) (by rfl) (by simp [Value.oneCell'])) rfl (fun b13 _ => ?_); refine tl_nil ?_; ((refine hK18 ?_; try (clear hK18; clear K18)))
                    all_goals refine tc_seq fun K19 hK19 => ?_; refine tc_draw (by kernel_rfl) ?_; refine tx_p 0 rfl (by kernel_rfl) (y_move rfl) rfl (fun _ _ _ h => h) (fun _ h => h) ?_; refine tx_p 1 rfl (by kernel_rfl) (y_nil rfl) rfl (fun _ _ _ h => h) (fun _ h => h) ?_; refine tx_p 2 rfl (by kernel_rfl) (y_field rfl) rfl (fun _ _ _ h => h) (fun _ h => h) ?_; refine tx_q 3 rfl (by kernel_rfl) (y_load1o (v := .map (some r)) rfl (fun w' hw' => wk_map (hWf w' (hw'.fr (w0 := wl2) (S := [r]) MI.m)).hw hcl)) rfl (fun _ _ _ h => h) (fun _ h => h) ?_; refine tx_p 4 rfl (by kernel_rfl) (y_field rfl) rfl (fun _ _ _ h => h) (fun _ h => h) ?_; ((refine tx_q 5 rfl (by kernel_rfl) (y_loadN rfl (by repeat constructor) (by (repeat (first | exact .nil | apply CA.cons rfl)); done)) rfl (fun _ _ _ h => h) (fun _ h => h) ?_))
                    all_goals (refine tx_q 6 rfl (by kernel_rfl) (y_lookupB rfl rfl (by repeat constructor) hkb2 ((hfb2 _ _).trans restY_next)) rfl (fun _ _ _ h => h) (fun _ h => h) ?_); refine tx_p 7 rfl (by kernel_rfl) (y_move rfl) rfl (fun _ _ _ h => h) (fun _ h => h) ?_; refine tx_p 8 rfl (by kernel_rfl) (y_extract rfl rfl) rfl (fun _ _ _ h => h) (fun _ h => h) ?_; refine tx_p 9 rfl (by kernel_rfl) (y_extract rfl rfl) rfl (fun _ _ _ h => h) (fun _ h => h) ?_; refine tx_p 10 rfl (by kernel_rfl) (y_assign rfl) rfl (fun _ _ _ h => h) (fun _ h => h) ?_; refine tx_p 11 rfl (by kernel_rfl) (y_assign rfl) rfl (fun _ _ _ h => h) (fun _ h => h) ?_; refine tx_done (by kernel_rfl) ?_; ((refine hK19 ?_; try (clear hK19; clear K19)))
                    all_goals refine tc_seq fun K20 hK20 => ?_; refine tc_seq fun K21 hK21 => ?_; refine tc_region ?_; refine tl_q (y_move rfl) rfl ?_; refine tl_q (y_not rfl) rfl ?_; refine tl_nil ?_; ((refine hK21 ?_; try (clear hK21; clear K21)))
                    all_goals (
                     refine tc_cond rfl (fun hc => ?_) (fun hc => ?_)
                     · try simp only [qn1, qn2, qn3, qn4, qn5, qn6, qn7, qn8] at hc
                       all_goals refine tc_exit ?_; ((refine hK17 ?_; try (clear hK17; clear K17)))
                       all_goals refine tc_region ?_; refine tl_q (y_add rfl rfl (by omega)) rfl ?_; refine tl_q (y_move rfl) rfl ?_; refine tl_nil ?_
                       all_goals (
                        first
                        | (have hno := restY_no (minP_no (opt_none hc))
                           exact tk_round (n + 1, es2, ck2) ⟨by dsimp only; omega, hkb2, fun j x => (hfb2 j x).trans (hno j x)⟩ (by dsimp only; omega) (.cons rfl (.cons rfl (.cons rfl (.cons rfl (.cons rfl (.cons rfl (.cons rfl (.cons rfl (.cons rfl .nil))))))))) (fun _ h => h.subl SB.s SB.s))
                        | (have hset := restY_set (minP_own hm how)
                           exact tk_round (n + 1, q.1, q.2) ⟨by dsimp only; omega, hq.1, fun j x => (hq.2 j x).trans (by rw [hfb2]; exact hset j x)⟩ (by dsimp only; omega) (.cons rfl (.cons rfl (.cons rfl (.cons rfl (.cons rfl (.cons rfl (.cons rfl (.cons rfl (.cons rfl .nil))))))))) (fun _ h => h.subl SB.s SB.s))
                        | (have hset := restY_set (minP_new hm how)
                           exact tk_round (n + 1, q.1, q.2) ⟨by dsimp only; omega, hq.1, fun j x => (hq.2 j x).trans (by rw [hfb2]; exact hset j x)⟩ (by dsimp only; omega) (.cons rfl (.cons rfl (.cons rfl (.cons rfl (.cons rfl (.cons rfl (.cons rfl (.cons rfl (.cons rfl .nil))))))))) (fun _ h => h.subl SB.s SB.s)))
                     · try simp only [qn1, qn2, qn3, qn4, qn5, qn6, qn7, qn8] at hc
                       all_goals refine tc_skip ?_; ((refine hK20 ?_; try (clear hK20; clear K20)))
                       all_goals refine tc_seq fun K22 hK22 => ?_; ((obtain ⟨m, hm⟩ := opt_some hc; have hmb := rstF_bd s b c _ _ _ hm; have hop1 := stepN_mem (getD_memG (l := stepL s b (s.L - k) (stB s c (s.L - k)) (blF i)) (n := n) (d := (false, 0)) (by omega)); simp only [hm, Option.getD_some]))
                       all_goals refine tc_draw (by kernel_rfl) ?_; refine tx_p 0 rfl (by kernel_rfl) (y_move rfl) rfl (fun _ _ _ h => h) (fun _ h => h) ?_; refine tx_p 1 rfl (by kernel_rfl) (y_nil rfl) rfl (fun _ _ _ h => h) (fun _ h => h) ?_; refine tx_p 2 rfl (by kernel_rfl) (y_field rfl) rfl (fun _ _ _ h => h) (fun _ h => h) ?_; refine tx_q 3 rfl (by kernel_rfl) (y_load1o (v := .map (some r)) rfl (fun w' hw' => wk_map (hWf w' (hw'.fr (w0 := wl2) (S := [r]) MI.m)).hw hcl)) rfl (fun _ _ _ h => h) (fun _ h => h) ?_; refine tx_q 4 rfl (by kernel_rfl) (y_loadNo (n := 2) (vs := [vi (s.L - k), .bool (blF i)]) rfl (fun w' hw' => (CA_whole (c := #[vi (s.L - k), .bool (blF i)]) (t := 162) (f := (0, 0)) rfl).cells (h11 w' (hw'.fr (w0 := wl9) (S := [r]) MI.m)))) rfl (fun _ _ _ h => h) (fun _ h => h) ?_; refine tx_q 5 rfl (by kernel_rfl) (y_lookupB rfl rfl (by repeat constructor) hkb2 ((hfb2 _ _).trans restY_own)) rfl (fun _ _ _ h => h) (fun _ h => h) ?_; refine tx_p 6 rfl (by kernel_rfl) (y_move rfl) rfl (fun _ _ _ h => h) (fun _ h => h) ?_; refine tx_p 7 rfl (by kernel_rfl) (y_extract rfl rfl) rfl (fun _ _ _ h => h) (fun _ h => h) ?_; refine tx_p 8 rfl (by kernel_rfl) (y_extract rfl rfl) rfl (fun _ _ _ h => h) (fun _ h => h) ?_; refine tx_p 9 rfl (by kernel_rfl) (y_assign rfl) rfl (fun _ _ _ h => h) (fun _ h => h) ?_; refine tx_p 10 rfl (by kernel_rfl) (y_assign rfl) rfl (fun _ _ _ h => h) (fun _ h => h) ?_; refine tx_done (by kernel_rfl) ?_; ((refine hK22 ?_; try (clear hK22; clear K22)))
                       all_goals refine tc_seq fun K23 hK23 => ?_; refine tc_region ?_; refine tl_q (y_move rfl) rfl ?_; refine tl_nil ?_; ((refine hK23 ?_; try (clear hK23; clear K23)))
                       all_goals (
                        refine tc_cond rfl (fun hc => ?_) (fun hc => ?_)
                        · all_goals (skip)
                          all_goals ((obtain ⟨own, how⟩ := opt_some hc; simp only [how, Option.getD_some]))
                          all_goals refine tc_draw (by kernel_rfl) ?_; refine tx_p 0 rfl (by kernel_rfl) (y_move rfl) rfl (fun _ _ _ h => h) (fun _ h => h) ?_; refine tx_p 1 rfl (by kernel_rfl) (y_nil rfl) rfl (fun _ _ _ h => h) (fun _ h => h) ?_; refine tx_p 2 rfl (by kernel_rfl) (y_field rfl) rfl (fun _ _ _ h => h) (fun _ h => h) ?_; refine tx_q 3 rfl (by kernel_rfl) (y_load1o (v := .map (some r)) rfl (fun w' hw' => wk_map (hWf w' (hw'.fr (w0 := wl2) (S := [r]) MI.m)).hw hcl)) rfl (fun _ _ _ h => h) (fun _ h => h) ?_; refine tx_q 4 rfl (by kernel_rfl) (y_loadNo (n := 2) (vs := [vi (s.L - k), .bool (blF i)]) rfl (fun w' hw' => (CA_whole (c := #[vi (s.L - k), .bool (blF i)]) (t := 162) (f := (0, 0)) rfl).cells (h11 w' (hw'.fr (w0 := wl9) (S := [r]) MI.m)))) rfl (fun _ _ _ h => h) (fun _ h => h) ?_; refine tx_p 5 rfl (by kernel_rfl) (y_move rfl) rfl (fun _ _ _ h => h) (fun _ h => h) ?_; refine tx_p 6 rfl (by kernel_rfl) (y_move rfl) rfl (fun _ _ _ h => h) (fun _ h => h) ?_; refine tx_p 7 rfl (by kernel_rfl) (y_field rfl) rfl (fun _ _ _ h => h) (fun _ h => h) ?_; refine tx_q 8 rfl (by kernel_rfl) (y_load1 rfl (by repeat constructor) (by rfl)) rfl (fun _ _ _ h => h) (fun _ h => h) ?_; refine tx_p 9 rfl (by kernel_rfl) (y_add rfl rfl (by omega)) rfl (fun _ _ _ h => h) (fun _ h => h) ?_; (refine tx_e 10 rfl (by kernel_rfl) rfl (e_bslice rfl (by (repeat (first | exact .nil | apply PV.one rfl rfl)); done) rfl rfl) (.inr qq1) (fun _ _ => ?_))
                          all_goals refine tx_e 11 rfl (by kernel_rfl) rfl (e_callV rfl (.cons rfl .nil) (fun w' hw' => mmin_c own (m + ((stepL s b (s.L - k) (stB s c (s.L - k)) (blF i)).getD n (false, 0)).2) _ w' (RdI.own0 (xs := [own, m + ((stepL s b (s.L - k) (stB s c (s.L - k)) (blF i)).getD n (false, 0)).2]) hw' (by repeat constructor)))) (.inr fun _ _ h => h) (fun _ _ => ?_); refine tx_e 12 rfl (by kernel_rfl) rfl (e_mapUpdateB hkb2 rfl rfl rfl (fun _ => by repeat constructor)) (.inl (by kernel_rfl)) (fun q hq => ?_); refine tx_done (by kernel_rfl) ?_; ((refine hK17 ?_; try (clear hK17; clear K17)))
                          all_goals refine tc_region ?_; refine tl_q (y_add rfl rfl (by omega)) rfl ?_; refine tl_q (y_move rfl) rfl ?_; refine tl_nil ?_
                          all_goals (
                           first
                           | (have hno := restY_no (minP_no (opt_none hc))
                              exact tk_round (n + 1, es2, ck2) ⟨by dsimp only; omega, hkb2, fun j x => (hfb2 j x).trans (hno j x)⟩ (by dsimp only; omega) (.cons rfl (.cons rfl (.cons rfl (.cons rfl (.cons rfl (.cons rfl (.cons rfl (.cons rfl (.cons rfl .nil))))))))) (fun _ h => h.subl SB.s SB.s))
                           | (have hset := restY_set (minP_own hm how)
                              exact tk_round (n + 1, q.1, q.2) ⟨by dsimp only; omega, hq.1, fun j x => (hq.2 j x).trans (by rw [hfb2]; exact hset j x)⟩ (by dsimp only; omega) (.cons rfl (.cons rfl (.cons rfl (.cons rfl (.cons rfl (.cons rfl (.cons rfl (.cons rfl (.cons rfl .nil))))))))) (fun _ h => h.subl SB.s SB.s))
                           | (have hset := restY_set (minP_new hm how)
                              exact tk_round (n + 1, q.1, q.2) ⟨by dsimp only; omega, hq.1, fun j x => (hq.2 j x).trans (by rw [hfb2]; exact hset j x)⟩ (by dsimp only; omega) (.cons rfl (.cons rfl (.cons rfl (.cons rfl (.cons rfl (.cons rfl (.cons rfl (.cons rfl (.cons rfl .nil))))))))) (fun _ h => h.subl SB.s SB.s)))
                        · all_goals (skip)
                          all_goals (have how := opt_none hc)
                          all_goals refine tc_draw (by kernel_rfl) ?_; refine tx_p 0 rfl (by kernel_rfl) (y_move rfl) rfl (fun _ _ _ h => h) (fun _ h => h) ?_; refine tx_p 1 rfl (by kernel_rfl) (y_nil rfl) rfl (fun _ _ _ h => h) (fun _ h => h) ?_; refine tx_p 2 rfl (by kernel_rfl) (y_field rfl) rfl (fun _ _ _ h => h) (fun _ h => h) ?_; refine tx_q 3 rfl (by kernel_rfl) (y_load1o (v := .map (some r)) rfl (fun w' hw' => wk_map (hWf w' (hw'.fr (w0 := wl2) (S := [r]) MI.m)).hw hcl)) rfl (fun _ _ _ h => h) (fun _ h => h) ?_; refine tx_q 4 rfl (by kernel_rfl) (y_loadNo (n := 2) (vs := [vi (s.L - k), .bool (blF i)]) rfl (fun w' hw' => (CA_whole (c := #[vi (s.L - k), .bool (blF i)]) (t := 162) (f := (0, 0)) rfl).cells (h11 w' (hw'.fr (w0 := wl9) (S := [r]) MI.m)))) rfl (fun _ _ _ h => h) (fun _ h => h) ?_; refine tx_p 5 rfl (by kernel_rfl) (y_move rfl) rfl (fun _ _ _ h => h) (fun _ h => h) ?_; refine tx_p 6 rfl (by kernel_rfl) (y_field rfl) rfl (fun _ _ _ h => h) (fun _ h => h) ?_; refine tx_q 7 rfl (by kernel_rfl) (y_load1 rfl (by repeat constructor) (by rfl)) rfl (fun _ _ _ h => h) (fun _ h => h) ?_; refine tx_p 8 rfl (by kernel_rfl) (y_add rfl rfl (by omega)) rfl (fun _ _ _ h => h) (fun _ h => h) ?_; refine tx_e 9 rfl (by kernel_rfl) rfl (e_mapUpdateB hkb2 rfl rfl rfl (fun _ => by repeat constructor)) (.inl (by kernel_rfl)) (fun q hq => ?_); refine tx_done (by kernel_rfl) ?_; ((refine hK17 ?_; try (clear hK17; clear K17)))
                          all_goals refine tc_region ?_; refine tl_q (y_add rfl rfl (by omega)) rfl ?_; refine tl_q (y_move rfl) rfl ?_; refine tl_nil ?_
                          all_goals (
                           first
                           | (have hno := restY_no (minP_no (opt_none hc))
                              exact tk_round (n + 1, es2, ck2) ⟨by dsimp only; omega, hkb2, fun j x => (hfb2 j x).trans (hno j x)⟩ (by dsimp only; omega) (.cons rfl (.cons rfl (.cons rfl (.cons rfl (.cons rfl (.cons rfl (.cons rfl (.cons rfl (.cons rfl .nil))))))))) (fun _ h => h.subl SB.s SB.s))
                           | (have hset := restY_set (minP_own hm how)
                              exact tk_round (n + 1, q.1, q.2) ⟨by dsimp only; omega, hq.1, fun j x => (hq.2 j x).trans (by rw [hfb2]; exact hset j x)⟩ (by dsimp only; omega) (.cons rfl (.cons rfl (.cons rfl (.cons rfl (.cons rfl (.cons rfl (.cons rfl (.cons rfl (.cons rfl .nil))))))))) (fun _ h => h.subl SB.s SB.s))
                           | (have hset := restY_set (minP_new hm how)
                              exact tk_round (n + 1, q.1, q.2) ⟨by dsimp only; omega, hq.1, fun j x => (hq.2 j x).trans (by rw [hfb2]; exact hset j x)⟩ (by dsimp only; omega) (.cons rfl (.cons rfl (.cons rfl (.cons rfl (.cons rfl (.cons rfl (.cons rfl (.cons rfl (.cons rfl .nil))))))))) (fun _ h => h.subl SB.s SB.s)))))
                  · try simp only [qn1, qn2, qn3, qn4, qn5, qn6, qn7, qn8] at hc
                    all_goals refine tc_exit ?_; ((refine hK11 ?_; try (clear hK11; clear K11)))
                    all_goals refine tc_region ?_; refine tl_q (y_add rfl rfl (by omega)) rfl ?_; refine tl_q (y_move rfl) rfl ?_; refine tl_nil ?_
                    all_goals (
                     obtain rfl : n = (stepL s b (s.L - k) (stB s c (s.L - k)) (blF i)).length := by omega
                     have hbi : (blF i).toNat = i := by rcases (by omega : i = 0 ∨ i = 1) with rfl | rfl <;> rfl
                     exact tk_round (i + 1, es2, ck2) ⟨by dsimp only; omega, hkb2, fun j x => by rw [hfb2, restY_end, hbi]⟩ (by dsimp only; omega) (.cons rfl (.cons rfl (.cons rfl (.cons rfl (.cons rfl .nil))))) (fun _ h => h.subl SB.s SB.s))))
            · try simp only [qn1, qn2, qn3, qn4, qn5, qn6, qn7, qn8] at hc
              all_goals refine tc_exit ?_; ((refine hK7 ?_; try (clear hK7; clear K7)))
              all_goals refine tc_region ?_; refine tl_q (y_move rfl) rfl ?_; refine tl_q (y_sub rfl rfl (by omega)) rfl ?_; refine tl_q (y_assign rfl) rfl ?_; refine tl_nil ?_
              all_goals (
               obtain rfl : i = 2 := by omega
               exact tk_round (k + 1, es1, ck1) ⟨by dsimp only; omega, hkb1, fun j x => by rw [hfb1, restX_2 _ _ _ _ (by omega)]⟩ (by dsimp only; omega) (.cons rfl (.cons (by dsimp only; rw [show s.L - ((k + 1 : Nat) : Int) = s.L - k - 1 from by omega]; rfl) .nil)) (fun _ h => h.subl SB.s SB.s))))
      · try simp only [qn1, qn2, qn3, qn4, qn5, qn6, qn7, qn8] at hc
        all_goals refine tc_exit ?_; ((refine hK3 ?_; try (clear hK3; clear K3)))
        all_goals refine tc_seq fun K24 hK24 => ?_; refine tc_region ?_; refine tl_q (y_move rfl) rfl ?_; refine tl_q (y_assign rfl) rfl ?_; refine tl_nil ?_; ((refine hK24 ?_; try (clear hK24; clear K24)))
        all_goals refine tc_ret ?_; (repeat (first | refine tk_then_ret ?_))
        all_goals (refine tk_ret rfl rfl (.cons (.tmp rfl) .nil) ?_)
        all_goals (
         obtain rfl : k = (s.L + 1).toNat := by omega
         exact fun w' hw' => ⟨(bw, r, es, ck), rfl, hw'.fr (w0 := w) (S := []) MI.m, ⟨hWf w' (hw'.fr (w0 := wl2) (S := [r]) MI.m), hw'.heap _ (HM.mem (by repeat constructor)), hkb, hfb⟩, hnew.1, hnew.2⟩)))
end Go.Sp
