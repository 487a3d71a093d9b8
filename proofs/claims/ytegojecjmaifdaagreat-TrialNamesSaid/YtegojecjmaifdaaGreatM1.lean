
/-
  The types and functions of this program, as the frame's laws ask them.
-/
import Derived.Test.YtegojecjmaifdaaGreatFw
import Derived.Test.YtegojecjmaifdaaGreatProg
import Derived.KernelRfl
set_option linter.unusedVariables false
set_option linter.unusedSimpArgs false
set_option linter.deprecated false
namespace Go.Sp
open Go Go.Proofs
theorem tyOne {P : Program} {t : TypeId} {d : TypeDesc} {z : Value} {b : Nat} (hu : P.underlying t = some d) (hp : plainD d = true)
    (hi : (P.info? t).map (fun i => (i.zero, i.size, i.bytes)) = some (some z, 1, b)) (hz : z.cells = #[z]) : TyOne P t z := by
  obtain ⟨i, h1, h2⟩ := Option.map_eq_some_iff.1 hi
  simp only [Prod.mk.injEq] at h2
  exact ⟨⟨d, hu, hp⟩, ⟨i, h1, h2.2.1, h2.1⟩, hz⟩
theorem tyAgg {P : Program} {t : TypeId} {d : TypeDesc} {zs : Array Value} {n b : Nat} (hu : P.underlying t = some d) (hp : aggD d = true)
    (hi : (P.info? t).map (fun i => (i.zero, i.size, i.bytes)) = some (some (.agg zs), n, b)) : TyAgg P t n zs := by
  obtain ⟨i, h1, h2⟩ := Option.map_eq_some_iff.1 hi
  simp only [Prod.mk.injEq] at h2
  exact ⟨⟨d, hu, hp⟩, ⟨i, h1, h2.2.1, h2.1⟩⟩
theorem tinfo3 : (Tryz.prog.info? 3).map (fun i => (i.zero, i.size, i.bytes)) = some (some (.int .i64 0), 1, 8) := by kernel_rfl
instance : TyOne Tryz.prog 3 (.int .i64 0) := tyOne Tryz.underlying3 rfl tinfo3 rfl
theorem tinfo5 : (Tryz.prog.info? 5).map (fun i => (i.zero, i.size, i.bytes)) = some (some (.int .u8 0), 1, 1) := by kernel_rfl
instance : TyOne Tryz.prog 5 (.int .u8 0) := tyOne Tryz.underlying5 rfl tinfo5 rfl
theorem tinfo22 : (Tryz.prog.info? 22).map (fun i => (i.zero, i.size, i.bytes)) = some (some (.slice none 0 0), 1, 24) := by kernel_rfl
instance : TyOne Tryz.prog 22 (.slice none 0 0) := tyOne Tryz.underlying22 rfl tinfo22 rfl
theorem tinfo24 : (Tryz.prog.info? 24).map (fun i => (i.zero, i.size, i.bytes)) = some (some (.agg #[.int .i64 0, .int .i64 0, .int .i64 0, .int .i64 0, .int .i64 0, .slice none 0 0]), 6, 64) := by kernel_rfl
instance : TyAgg Tryz.prog 24 6 (#[.int .i64 0, .int .i64 0, .int .i64 0, .int .i64 0, .int .i64 0, .slice none 0 0]) := tyAgg Tryz.underlying24 rfl tinfo24
theorem tinfo25 : (Tryz.prog.info? 25).map (fun i => (i.zero, i.size, i.bytes)) = some (some (.slice none 0 0), 1, 24) := by kernel_rfl
instance : TyOne Tryz.prog 25 (.slice none 0 0) := tyOne Tryz.underlying25 rfl tinfo25 rfl
theorem tinfo26 : (Tryz.prog.info? 26).map (fun i => (i.zero, i.size, i.bytes)) = some (some (.slice none 0 0), 1, 24) := by kernel_rfl
instance : TyOne Tryz.prog 26 (.slice none 0 0) := tyOne Tryz.underlying26 rfl tinfo26 rfl
theorem tinfo28 : (Tryz.prog.info? 28).map (fun i => (i.zero, i.size, i.bytes)) = some (some (.agg #[.int .i64 0, .int .i64 0, .int .i64 0, .int .i64 0, .int .i64 0, .slice none 0 0, .slice none 0 0, .int .i64 0, .slice none 0 0, .slice none 0 0]), 10, 144) := by kernel_rfl
instance : TyAgg Tryz.prog 28 10 (#[.int .i64 0, .int .i64 0, .int .i64 0, .int .i64 0, .int .i64 0, .slice none 0 0, .slice none 0 0, .int .i64 0, .slice none 0 0, .slice none 0 0]) := tyAgg Tryz.underlying28 rfl tinfo28
theorem tinfo34 : (Tryz.prog.info? 34).map (fun i => (i.zero, i.size, i.bytes)) = some (some (.agg #[.int .i64 0, .int .i64 0, .int .i64 0, .int .i64 0, .int .i64 0, .slice none 0 0]), 6, 64) := by kernel_rfl
instance : TyAgg Tryz.prog 34 6 (#[.int .i64 0, .int .i64 0, .int .i64 0, .int .i64 0, .int .i64 0, .slice none 0 0]) := tyAgg Tryz.underlying34 rfl tinfo34
theorem tinfo35 : (Tryz.prog.info? 35).map (fun i => (i.zero, i.size, i.bytes)) = some (some (.slice none 0 0), 1, 24) := by kernel_rfl
instance : TyOne Tryz.prog 35 (.slice none 0 0) := tyOne Tryz.underlying35 rfl tinfo35 rfl
theorem tinfo36 : (Tryz.prog.info? 36).map (fun i => (i.zero, i.size, i.bytes)) = some (some (.slice none 0 0), 1, 24) := by kernel_rfl
instance : TyOne Tryz.prog 36 (.slice none 0 0) := tyOne Tryz.underlying36 rfl tinfo36 rfl
theorem tinfo38 : (Tryz.prog.info? 38).map (fun i => (i.zero, i.size, i.bytes)) = some (some (.agg #[.int .i64 0, .int .i64 0, .int .i64 0, .int .i64 0, .int .i64 0, .slice none 0 0, .slice none 0 0, .int .i64 0, .slice none 0 0, .slice none 0 0]), 10, 144) := by kernel_rfl
instance : TyAgg Tryz.prog 38 10 (#[.int .i64 0, .int .i64 0, .int .i64 0, .int .i64 0, .int .i64 0, .slice none 0 0, .slice none 0 0, .int .i64 0, .slice none 0 0, .slice none 0 0]) := tyAgg Tryz.underlying38 rfl tinfo38
theorem tinfo50 : (Tryz.prog.info? 50).map (fun i => (i.zero, i.size, i.bytes)) = some (some (.agg #[.int .i64 0, .int .i64 0]), 2, 16) := by kernel_rfl
instance : TyAgg Tryz.prog 50 2 (#[.int .i64 0, .int .i64 0]) := tyAgg Tryz.underlying50 rfl tinfo50
theorem tinfo54 : (Tryz.prog.info? 54).map (fun i => (i.zero, i.size, i.bytes)) = some (some (.slice none 0 0), 1, 24) := by kernel_rfl
instance : TyOne Tryz.prog 54 (.slice none 0 0) := tyOne Tryz.underlying54 rfl tinfo54 rfl
theorem tinfo57 : (Tryz.prog.info? 57).map (fun i => (i.zero, i.size, i.bytes)) = some (some (.agg #[.int .i64 0, .int .i64 0]), 2, 16) := by kernel_rfl
instance : TyAgg Tryz.prog 57 2 (#[.int .i64 0, .int .i64 0]) := tyAgg Tryz.underlying57 rfl tinfo57
theorem tinfo67 : (Tryz.prog.info? 67).map (fun i => (i.zero, i.size, i.bytes)) = some (some (.agg #[.int .i64 0, .int .i64 0]), 2, 16) := by kernel_rfl
instance : TyAgg Tryz.prog 67 2 (#[.int .i64 0, .int .i64 0]) := tyAgg Tryz.underlying67 rfl tinfo67
theorem tinfo72 : (Tryz.prog.info? 72).map (fun i => (i.zero, i.size, i.bytes)) = some (some (.agg #[.int .i64 0, .int .i64 0, .int .i64 0]), 3, 24) := by kernel_rfl
instance : TyAgg Tryz.prog 72 3 (#[.int .i64 0, .int .i64 0, .int .i64 0]) := tyAgg Tryz.underlying72 rfl tinfo72
theorem tinfo80 : (Tryz.prog.info? 80).map (fun i => (i.zero, i.size, i.bytes)) = some (some (.agg #[.int .i64 0, .int .i64 0]), 2, 16) := by kernel_rfl
instance : TyAgg Tryz.prog 80 2 (#[.int .i64 0, .int .i64 0]) := tyAgg Tryz.underlying80 rfl tinfo80
theorem tinfo92 : (Tryz.prog.info? 92).map (fun i => (i.zero, i.size, i.bytes)) = some (some (.agg #[.slice none 0 0, .slice none 0 0]), 2, 48) := by kernel_rfl
instance : TyAgg Tryz.prog 92 2 (#[.slice none 0 0, .slice none 0 0]) := tyAgg Tryz.underlying92 rfl tinfo92
theorem tinfo104 : (Tryz.prog.info? 104).map (fun i => (i.zero, i.size, i.bytes)) = some (some (.agg #[.int .i64 0, .int .i64 0]), 2, 16) := by kernel_rfl
instance : TyAgg Tryz.prog 104 2 (#[.int .i64 0, .int .i64 0]) := tyAgg Tryz.underlying104 rfl tinfo104
theorem tinfo106 : (Tryz.prog.info? 106).map (fun i => (i.zero, i.size, i.bytes)) = some (some (.agg #[.slice none 0 0, .slice none 0 0]), 2, 48) := by kernel_rfl
instance : TyAgg Tryz.prog 106 2 (#[.slice none 0 0, .slice none 0 0]) := tyAgg Tryz.underlying106 rfl tinfo106
theorem tinfo121 : (Tryz.prog.info? 121).map (fun i => (i.zero, i.size, i.bytes)) = some (some (.agg #[.int .i64 0, .int .i64 0, .int .i64 0]), 3, 24) := by kernel_rfl
instance : TyAgg Tryz.prog 121 3 (#[.int .i64 0, .int .i64 0, .int .i64 0]) := tyAgg Tryz.underlying121 rfl tinfo121
theorem tinfo123 : (Tryz.prog.info? 123).map (fun i => (i.zero, i.size, i.bytes)) = some (some (.agg #[.int .i64 0, .int .i64 0]), 2, 16) := by kernel_rfl
instance : TyAgg Tryz.prog 123 2 (#[.int .i64 0, .int .i64 0]) := tyAgg Tryz.underlying123 rfl tinfo123
theorem tinfo126 : (Tryz.prog.info? 126).map (fun i => (i.zero, i.size, i.bytes)) = some (some (.agg #[.int .i64 0, .int .i64 0, .int .i64 0]), 3, 24) := by kernel_rfl
instance : TyAgg Tryz.prog 126 3 (#[.int .i64 0, .int .i64 0, .int .i64 0]) := tyAgg Tryz.underlying126 rfl tinfo126
theorem tinfo129 : (Tryz.prog.info? 129).map (fun i => (i.zero, i.size, i.bytes)) = some (some (.nilFunc), 1, 8) := by kernel_rfl
instance : TyOne Tryz.prog 129 (.nilFunc) := tyOne Tryz.underlying129 rfl tinfo129 rfl
theorem tinfo130 : (Tryz.prog.info? 130).map (fun i => (i.zero, i.size, i.bytes)) = some (some (.pointer none), 1, 8) := by kernel_rfl
instance : TyOne Tryz.prog 130 (.pointer none) := tyOne Tryz.underlying130 rfl tinfo130 rfl
theorem tinfo134 : (Tryz.prog.info? 134).map (fun i => (i.zero, i.size, i.bytes)) = some (some (.nilFunc), 1, 8) := by kernel_rfl
instance : TyOne Tryz.prog 134 (.nilFunc) := tyOne Tryz.underlying134 rfl tinfo134 rfl
theorem tinfo136 : (Tryz.prog.info? 136).map (fun i => (i.zero, i.size, i.bytes)) = some (some (.nilFunc), 1, 8) := by kernel_rfl
instance : TyOne Tryz.prog 136 (.nilFunc) := tyOne Tryz.underlying136 rfl tinfo136 rfl
theorem tinfo139 : (Tryz.prog.info? 139).map (fun i => (i.zero, i.size, i.bytes)) = some (some (.slice none 0 0), 1, 24) := by kernel_rfl
instance : TyOne Tryz.prog 139 (.slice none 0 0) := tyOne Tryz.underlying139 rfl tinfo139 rfl
theorem tinfo147 : (Tryz.prog.info? 147).map (fun i => (i.zero, i.size, i.bytes)) = some (some (.nilFunc), 1, 8) := by kernel_rfl
instance : TyOne Tryz.prog 147 (.nilFunc) := tyOne Tryz.underlying147 rfl tinfo147 rfl
theorem tinfo155 : (Tryz.prog.info? 155).map (fun i => (i.zero, i.size, i.bytes)) = some (some (.nilFunc), 1, 8) := by kernel_rfl
instance : TyOne Tryz.prog 155 (.nilFunc) := tyOne Tryz.underlying155 rfl tinfo155 rfl
theorem tinfo165 : (Tryz.prog.info? 165).map (fun i => (i.zero, i.size, i.bytes)) = some (some (.agg #[.int .i64 0, .int .i64 0]), 2, 16) := by kernel_rfl
instance : TyAgg Tryz.prog 165 2 (#[.int .i64 0, .int .i64 0]) := tyAgg Tryz.underlying165 rfl tinfo165
theorem tinfo174 : (Tryz.prog.info? 174).map (fun i => (i.zero, i.size, i.bytes)) = some (some (.agg #[.slice none 0 0, .slice none 0 0]), 2, 48) := by kernel_rfl
instance : TyAgg Tryz.prog 174 2 (#[.slice none 0 0, .slice none 0 0]) := tyAgg Tryz.underlying174 rfl tinfo174
theorem tinfo178 : (Tryz.prog.info? 178).map (fun i => (i.zero, i.size, i.bytes)) = some (some (.map none), 1, 8) := by kernel_rfl
instance : TyOne Tryz.prog 178 (.map none) := tyOne Tryz.underlying178 rfl tinfo178 rfl
theorem tinfo180 : (Tryz.prog.info? 180).map (fun i => (i.zero, i.size, i.bytes)) = some (some (.agg #[.int .i64 0, .int .i64 0, .int .i64 0, .int .i64 0, .int .i64 0, .slice none 0 0, .slice none 0 0, .int .i64 0, .slice none 0 0, .slice none 0 0, .map none]), 11, 152) := by kernel_rfl
instance : TyAgg Tryz.prog 180 11 (#[.int .i64 0, .int .i64 0, .int .i64 0, .int .i64 0, .int .i64 0, .slice none 0 0, .slice none 0 0, .int .i64 0, .slice none 0 0, .slice none 0 0, .map none]) := tyAgg Tryz.underlying180 rfl tinfo180
theorem tinfo184 : (Tryz.prog.info? 184).map (fun i => (i.zero, i.size, i.bytes)) = some (some (.agg #[.int .i64 0, .int .i64 0]), 2, 16) := by kernel_rfl
instance : TyAgg Tryz.prog 184 2 (#[.int .i64 0, .int .i64 0]) := tyAgg Tryz.underlying184 rfl tinfo184
theorem tinfo187 : (Tryz.prog.info? 187).map (fun i => (i.zero, i.size, i.bytes)) = some (some (.nilFunc), 1, 8) := by kernel_rfl
instance : TyOne Tryz.prog 187 (.nilFunc) := tyOne Tryz.underlying187 rfl tinfo187 rfl
theorem tinfo197 : (Tryz.prog.info? 197).map (fun i => (i.zero, i.size, i.bytes)) = some (some (.map none), 1, 8) := by kernel_rfl
instance : TyOne Tryz.prog 197 (.map none) := tyOne Tryz.underlying197 rfl tinfo197 rfl
theorem tinfo199 : (Tryz.prog.info? 199).map (fun i => (i.zero, i.size, i.bytes)) = some (some (.agg #[.int .i64 0, .int .i64 0, .int .i64 0, .int .i64 0, .int .i64 0, .slice none 0 0, .map none]), 7, 72) := by kernel_rfl
instance : TyAgg Tryz.prog 199 7 (#[.int .i64 0, .int .i64 0, .int .i64 0, .int .i64 0, .int .i64 0, .slice none 0 0, .map none]) := tyAgg Tryz.underlying199 rfl tinfo199
theorem tinfo210 : (Tryz.prog.info? 210).map (fun i => (i.zero, i.size, i.bytes)) = some (some (.nilFunc), 1, 8) := by kernel_rfl
instance : TyOne Tryz.prog 210 (.nilFunc) := tyOne Tryz.underlying210 rfl tinfo210 rfl
theorem tinfo213 : (Tryz.prog.info? 213).map (fun i => (i.zero, i.size, i.bytes)) = some (some (.agg #[.int .i64 0, .int .i64 0]), 2, 16) := by kernel_rfl
instance : TyAgg Tryz.prog 213 2 (#[.int .i64 0, .int .i64 0]) := tyAgg Tryz.underlying213 rfl tinfo213
theorem tinfo215 : (Tryz.prog.info? 215).map (fun i => (i.zero, i.size, i.bytes)) = some (some (.agg #[.nilFunc]), 1, 8) := by kernel_rfl
instance : TyAgg Tryz.prog 215 1 (#[.nilFunc]) := tyAgg Tryz.underlying215 rfl tinfo215
theorem tinfo231 : (Tryz.prog.info? 231).map (fun i => (i.zero, i.size, i.bytes)) = some (some (.int .u64 0), 1, 8) := by kernel_rfl
instance : TyOne Tryz.prog 231 (.int .u64 0) := tyOne Tryz.underlying231 rfl tinfo231 rfl
instance : TyField Tryz.prog 24 0 0 := ⟨_, _, Tryz.underlying24, rfl, rfl, 0, by kernel_rfl⟩
instance : TyField Tryz.prog 24 1 1 := ⟨_, _, Tryz.underlying24, rfl, rfl, 0, by kernel_rfl⟩
instance : TyField Tryz.prog 24 2 2 := ⟨_, _, Tryz.underlying24, rfl, rfl, 0, by kernel_rfl⟩
instance : TyField Tryz.prog 24 3 3 := ⟨_, _, Tryz.underlying24, rfl, rfl, 0, by kernel_rfl⟩
instance : TyField Tryz.prog 24 4 4 := ⟨_, _, Tryz.underlying24, rfl, rfl, 0, by kernel_rfl⟩
instance : TyField Tryz.prog 24 5 5 := ⟨_, _, Tryz.underlying24, rfl, rfl, 0, by kernel_rfl⟩
instance : TyField Tryz.prog 28 0 0 := ⟨_, _, Tryz.underlying28, rfl, rfl, 5, by kernel_rfl⟩
instance : TyField Tryz.prog 28 1 6 := ⟨_, _, Tryz.underlying28, rfl, rfl, 0, by kernel_rfl⟩
instance : TyField Tryz.prog 28 2 7 := ⟨_, _, Tryz.underlying28, rfl, rfl, 0, by kernel_rfl⟩
instance : TyField Tryz.prog 28 3 8 := ⟨_, _, Tryz.underlying28, rfl, rfl, 0, by kernel_rfl⟩
instance : TyField Tryz.prog 28 4 9 := ⟨_, _, Tryz.underlying28, rfl, rfl, 0, by kernel_rfl⟩
instance : TyField Tryz.prog 34 0 0 := ⟨_, _, Tryz.underlying34, rfl, rfl, 0, by kernel_rfl⟩
instance : TyField Tryz.prog 34 1 1 := ⟨_, _, Tryz.underlying34, rfl, rfl, 0, by kernel_rfl⟩
instance : TyField Tryz.prog 34 2 2 := ⟨_, _, Tryz.underlying34, rfl, rfl, 0, by kernel_rfl⟩
instance : TyField Tryz.prog 34 3 3 := ⟨_, _, Tryz.underlying34, rfl, rfl, 0, by kernel_rfl⟩
instance : TyField Tryz.prog 34 4 4 := ⟨_, _, Tryz.underlying34, rfl, rfl, 0, by kernel_rfl⟩
instance : TyField Tryz.prog 34 5 5 := ⟨_, _, Tryz.underlying34, rfl, rfl, 0, by kernel_rfl⟩
instance : TyField Tryz.prog 38 0 0 := ⟨_, _, Tryz.underlying38, rfl, rfl, 5, by kernel_rfl⟩
instance : TyField Tryz.prog 38 1 6 := ⟨_, _, Tryz.underlying38, rfl, rfl, 0, by kernel_rfl⟩
instance : TyField Tryz.prog 38 2 7 := ⟨_, _, Tryz.underlying38, rfl, rfl, 0, by kernel_rfl⟩
instance : TyField Tryz.prog 38 3 8 := ⟨_, _, Tryz.underlying38, rfl, rfl, 0, by kernel_rfl⟩
instance : TyField Tryz.prog 38 4 9 := ⟨_, _, Tryz.underlying38, rfl, rfl, 0, by kernel_rfl⟩
instance : TyField Tryz.prog 50 0 0 := ⟨_, _, Tryz.underlying50, rfl, rfl, 0, by kernel_rfl⟩
instance : TyField Tryz.prog 50 1 1 := ⟨_, _, Tryz.underlying50, rfl, rfl, 0, by kernel_rfl⟩
instance : TyField Tryz.prog 57 0 0 := ⟨_, _, Tryz.underlying57, rfl, rfl, 0, by kernel_rfl⟩
instance : TyField Tryz.prog 57 1 1 := ⟨_, _, Tryz.underlying57, rfl, rfl, 0, by kernel_rfl⟩
instance : TyField Tryz.prog 67 0 0 := ⟨_, _, Tryz.underlying67, rfl, rfl, 0, by kernel_rfl⟩
instance : TyField Tryz.prog 67 1 1 := ⟨_, _, Tryz.underlying67, rfl, rfl, 0, by kernel_rfl⟩
instance : TyField Tryz.prog 72 0 0 := ⟨_, _, Tryz.underlying72, rfl, rfl, 0, by kernel_rfl⟩
instance : TyField Tryz.prog 72 1 1 := ⟨_, _, Tryz.underlying72, rfl, rfl, 0, by kernel_rfl⟩
instance : TyField Tryz.prog 72 2 2 := ⟨_, _, Tryz.underlying72, rfl, rfl, 0, by kernel_rfl⟩
instance : TyField Tryz.prog 80 0 0 := ⟨_, _, Tryz.underlying80, rfl, rfl, 0, by kernel_rfl⟩
instance : TyField Tryz.prog 80 1 1 := ⟨_, _, Tryz.underlying80, rfl, rfl, 0, by kernel_rfl⟩
instance : TyField Tryz.prog 92 0 0 := ⟨_, _, Tryz.underlying92, rfl, rfl, 0, by kernel_rfl⟩
instance : TyField Tryz.prog 92 1 1 := ⟨_, _, Tryz.underlying92, rfl, rfl, 0, by kernel_rfl⟩
instance : TyField Tryz.prog 104 0 0 := ⟨_, _, Tryz.underlying104, rfl, rfl, 0, by kernel_rfl⟩
instance : TyField Tryz.prog 104 1 1 := ⟨_, _, Tryz.underlying104, rfl, rfl, 0, by kernel_rfl⟩
instance : TyField Tryz.prog 106 0 0 := ⟨_, _, Tryz.underlying106, rfl, rfl, 0, by kernel_rfl⟩
instance : TyField Tryz.prog 106 1 1 := ⟨_, _, Tryz.underlying106, rfl, rfl, 0, by kernel_rfl⟩
instance : TyField Tryz.prog 121 0 0 := ⟨_, _, Tryz.underlying121, rfl, rfl, 0, by kernel_rfl⟩
instance : TyField Tryz.prog 121 1 1 := ⟨_, _, Tryz.underlying121, rfl, rfl, 0, by kernel_rfl⟩
instance : TyField Tryz.prog 121 2 2 := ⟨_, _, Tryz.underlying121, rfl, rfl, 0, by kernel_rfl⟩
instance : TyField Tryz.prog 123 0 0 := ⟨_, _, Tryz.underlying123, rfl, rfl, 0, by kernel_rfl⟩
instance : TyField Tryz.prog 123 1 1 := ⟨_, _, Tryz.underlying123, rfl, rfl, 0, by kernel_rfl⟩
instance : TyField Tryz.prog 165 0 0 := ⟨_, _, Tryz.underlying165, rfl, rfl, 0, by kernel_rfl⟩
instance : TyField Tryz.prog 165 1 1 := ⟨_, _, Tryz.underlying165, rfl, rfl, 0, by kernel_rfl⟩
instance : TyField Tryz.prog 174 0 0 := ⟨_, _, Tryz.underlying174, rfl, rfl, 0, by kernel_rfl⟩
instance : TyField Tryz.prog 174 1 1 := ⟨_, _, Tryz.underlying174, rfl, rfl, 0, by kernel_rfl⟩
instance : TyField Tryz.prog 180 0 0 := ⟨_, _, Tryz.underlying180, rfl, rfl, 9, by kernel_rfl⟩
instance : TyField Tryz.prog 180 1 10 := ⟨_, _, Tryz.underlying180, rfl, rfl, 0, by kernel_rfl⟩
instance : TyField Tryz.prog 184 0 0 := ⟨_, _, Tryz.underlying184, rfl, rfl, 0, by kernel_rfl⟩
instance : TyField Tryz.prog 184 1 1 := ⟨_, _, Tryz.underlying184, rfl, rfl, 0, by kernel_rfl⟩
instance : TyField Tryz.prog 199 0 0 := ⟨_, _, Tryz.underlying199, rfl, rfl, 5, by kernel_rfl⟩
instance : TyField Tryz.prog 199 1 6 := ⟨_, _, Tryz.underlying199, rfl, rfl, 0, by kernel_rfl⟩
instance : TyField Tryz.prog 213 0 0 := ⟨_, _, Tryz.underlying213, rfl, rfl, 0, by kernel_rfl⟩
instance : TyField Tryz.prog 213 1 1 := ⟨_, _, Tryz.underlying213, rfl, rfl, 0, by kernel_rfl⟩
instance : TyField Tryz.prog 215 0 0 := ⟨_, _, Tryz.underlying215, rfl, rfl, 0, by kernel_rfl⟩
instance : TyPlaces Tryz.prog 34 [(0, 1), (1, 1), (2, 1), (3, 1), (4, 1), (5, 1)] := ⟨_, Tryz.underlying34, places_run (by kernel_rfl)⟩
instance : TyPlaces Tryz.prog 38 [(0, 6), (6, 1), (7, 1), (8, 1), (9, 1)] := ⟨_, Tryz.underlying38, places_run (by kernel_rfl)⟩
instance : TyPlaces Tryz.prog 50 [(0, 1), (1, 1)] := ⟨_, Tryz.underlying50, places_run (by kernel_rfl)⟩
instance : TyPlaces Tryz.prog 57 [(0, 1), (1, 1)] := ⟨_, Tryz.underlying57, places_run (by kernel_rfl)⟩
instance : TyPlaces Tryz.prog 72 [(0, 1), (1, 1), (2, 1)] := ⟨_, Tryz.underlying72, places_run (by kernel_rfl)⟩
instance : TyPlaces Tryz.prog 80 [(0, 1), (1, 1)] := ⟨_, Tryz.underlying80, places_run (by kernel_rfl)⟩
instance : TyPlaces Tryz.prog 92 [(0, 1), (1, 1)] := ⟨_, Tryz.underlying92, places_run (by kernel_rfl)⟩
instance : TyPlaces Tryz.prog 104 [(0, 1), (1, 1)] := ⟨_, Tryz.underlying104, places_run (by kernel_rfl)⟩
instance : TyPlaces Tryz.prog 106 [(0, 1), (1, 1)] := ⟨_, Tryz.underlying106, places_run (by kernel_rfl)⟩
instance : TyPlaces Tryz.prog 121 [(0, 1), (1, 1), (2, 1)] := ⟨_, Tryz.underlying121, places_run (by kernel_rfl)⟩
instance : TyPlaces Tryz.prog 123 [(0, 1), (1, 1)] := ⟨_, Tryz.underlying123, places_run (by kernel_rfl)⟩
instance : TyPlaces Tryz.prog 165 [(0, 1), (1, 1)] := ⟨_, Tryz.underlying165, places_run (by kernel_rfl)⟩
instance : TyPlaces Tryz.prog 174 [(0, 1), (1, 1)] := ⟨_, Tryz.underlying174, places_run (by kernel_rfl)⟩
instance : TyPlaces Tryz.prog 180 [(0, 10), (10, 1)] := ⟨_, Tryz.underlying180, places_run (by kernel_rfl)⟩
instance : TyPlaces Tryz.prog 184 [(0, 1), (1, 1)] := ⟨_, Tryz.underlying184, places_run (by kernel_rfl)⟩
instance : TyPlaces Tryz.prog 199 [(0, 6), (6, 1)] := ⟨_, Tryz.underlying199, places_run (by kernel_rfl)⟩
instance : TyPlaces Tryz.prog 213 [(0, 1), (1, 1)] := ⟨_, Tryz.underlying213, places_run (by kernel_rfl)⟩
instance : TyPlaces Tryz.prog 215 [(0, 1)] := ⟨_, Tryz.underlying215, places_run (by kernel_rfl)⟩
instance : TyEq2 Tryz.prog 50 .i64 .i64 := tyEq2 Tryz.underlying50 (by kernel_rfl) (by kernel_rfl) (by kernel_rfl) (by kernel_rfl) rfl rfl Tryz.underlying3 Tryz.underlying3
instance : TyEq2 Tryz.prog 104 .i64 .i64 := tyEq2 Tryz.underlying104 (by kernel_rfl) (by kernel_rfl) (by kernel_rfl) (by kernel_rfl) rfl rfl Tryz.underlying3 Tryz.underlying3
instance : TyEq2 Tryz.prog 123 .i64 .i64 := tyEq2 Tryz.underlying123 (by kernel_rfl) (by kernel_rfl) (by kernel_rfl) (by kernel_rfl) rfl rfl Tryz.underlying3 Tryz.underlying3
instance : TyEq2 Tryz.prog 165 .i64 .i64 := tyEq2 Tryz.underlying165 (by kernel_rfl) (by kernel_rfl) (by kernel_rfl) (by kernel_rfl) rfl rfl Tryz.underlying3 Tryz.underlying3
instance : TyMap2 Tryz.prog 178 123 80 (.agg #[.int .i64 0, .int .i64 0]) := tyMap2 Tryz.underlying178 inferInstance tinfo80
instance : TyMap2 Tryz.prog 197 165 80 (.agg #[.int .i64 0, .int .i64 0]) := tyMap2 Tryz.underlying197 inferInstance tinfo80
instance : TyBool Tryz.prog 4 := ⟨Tryz.underlying4⟩
instance : TyElem Tryz.prog 3 1 8 := tyElem tinfo3 rfl
instance : TyElem Tryz.prog 5 1 1 := tyElem tinfo5 rfl
instance : TyElem Tryz.prog 22 1 24 := tyElem tinfo22 rfl
instance : TyElem Tryz.prog 50 2 16 := tyElem tinfo50 rfl
instance : TyElem Tryz.prog 57 2 16 := tyElem tinfo57 rfl
instance : TyElem Tryz.prog 67 2 16 := tyElem tinfo67 rfl
instance : TyElem Tryz.prog 72 3 24 := tyElem tinfo72 rfl
instance : TyElem Tryz.prog 104 2 16 := tyElem tinfo104 rfl
instance : TyElem Tryz.prog 121 3 24 := tyElem tinfo121 rfl
instance : TyElem Tryz.prog 123 2 16 := tyElem tinfo123 rfl
instance : TyElem Tryz.prog 126 3 24 := tyElem tinfo126 rfl
instance : TyElem Tryz.prog 174 2 48 := tyElem tinfo174 rfl
instance : TyElem Tryz.prog 215 1 8 := tyElem tinfo215 rfl
instance : TySlice Tryz.prog 22 3 1 := ⟨Tryz.underlying22, by kernel_rfl⟩
instance : TySlice Tryz.prog 25 57 2 := ⟨Tryz.underlying25, by kernel_rfl⟩
instance : TySlice Tryz.prog 26 72 3 := ⟨Tryz.underlying26, by kernel_rfl⟩
instance : TySlice Tryz.prog 35 50 2 := ⟨Tryz.underlying35, by kernel_rfl⟩
instance : TySlice Tryz.prog 36 121 3 := ⟨Tryz.underlying36, by kernel_rfl⟩
instance : TySlice Tryz.prog 53 174 2 := ⟨Tryz.underlying53, by kernel_rfl⟩
instance : TySlice Tryz.prog 54 22 1 := ⟨Tryz.underlying54, by kernel_rfl⟩
instance : TySlice Tryz.prog 62 67 2 := ⟨Tryz.underlying62, by kernel_rfl⟩
instance : TySlice Tryz.prog 64 123 2 := ⟨Tryz.underlying64, by kernel_rfl⟩
instance : TySlice Tryz.prog 88 5 1 := ⟨Tryz.underlying88, by kernel_rfl⟩
instance : TySlice Tryz.prog 98 104 2 := ⟨Tryz.underlying98, by kernel_rfl⟩
instance : TySlice Tryz.prog 139 126 3 := ⟨Tryz.underlying139, by kernel_rfl⟩
instance : TySlice Tryz.prog 216 215 1 := ⟨Tryz.underlying216, by kernel_rfl⟩
instance : TyArr Tryz.prog 126 3 3 1 := ⟨Tryz.underlying126, by kernel_rfl⟩
instance : TyArrI Tryz.prog 126 3 := ⟨⟨3, Tryz.underlying126, Tryz.underlying3, by kernel_rfl⟩, by kernel_rfl⟩
instance : TyArr3 Tryz.prog 126 := ⟨⟨3, Tryz.underlying126, Tryz.underlying3, by kernel_rfl⟩, by kernel_rfl⟩
instance : TyInt Tryz.prog 3 .i64 := ⟨Tryz.underlying3⟩
instance : TyInt Tryz.prog 5 .u8 := ⟨Tryz.underlying5⟩
instance : TyInt Tryz.prog 31 .i64 := ⟨Tryz.underlying31⟩
instance : TyInt Tryz.prog 79 .u16 := ⟨Tryz.underlying79⟩
instance : TyInt Tryz.prog 90 .u64 := ⟨Tryz.underlying90⟩
instance : TyInt Tryz.prog 219 .i64 := ⟨Tryz.underlying219⟩
instance : TyInt Tryz.prog 227 .u32 := ⟨Tryz.underlying227⟩
instance : TyInt Tryz.prog 229 .u64 := ⟨Tryz.underlying229⟩
instance : TyInt Tryz.prog 231 .u64 := ⟨Tryz.underlying231⟩
instance : GoFn Tryz.prog 3 := ⟨_, Tryz.func3, by kernel_rfl, by kernel_rfl⟩
instance : GoFn Tryz.prog 4 := ⟨_, Tryz.func4, by kernel_rfl, by kernel_rfl⟩
instance : GoFn Tryz.prog 5 := ⟨_, Tryz.func5, by kernel_rfl, by kernel_rfl⟩
instance : GoFn Tryz.prog 6 := ⟨_, Tryz.func6, by kernel_rfl, by kernel_rfl⟩
instance : GoFn Tryz.prog 7 := ⟨_, Tryz.func7, by kernel_rfl, by kernel_rfl⟩
instance : GoFn Tryz.prog 8 := ⟨_, Tryz.func8, by kernel_rfl, by kernel_rfl⟩
instance : GoFn Tryz.prog 9 := ⟨_, Tryz.func9, by kernel_rfl, by kernel_rfl⟩
instance : GoFn Tryz.prog 10 := ⟨_, Tryz.func10, by kernel_rfl, by kernel_rfl⟩
instance : GoFn Tryz.prog 11 := ⟨_, Tryz.func11, by kernel_rfl, by kernel_rfl⟩
instance : GoFn Tryz.prog 12 := ⟨_, Tryz.func12, by kernel_rfl, by kernel_rfl⟩
instance : GoFn Tryz.prog 13 := ⟨_, Tryz.func13, by kernel_rfl, by kernel_rfl⟩
instance : GoFn Tryz.prog 14 := ⟨_, Tryz.func14, by kernel_rfl, by kernel_rfl⟩
instance : GoFn Tryz.prog 15 := ⟨_, Tryz.func15, by kernel_rfl, by kernel_rfl⟩
instance : GoFn Tryz.prog 16 := ⟨_, Tryz.func16, by kernel_rfl, by kernel_rfl⟩
instance : GoFn Tryz.prog 17 := ⟨_, Tryz.func17, by kernel_rfl, by kernel_rfl⟩
instance : GoFn Tryz.prog 18 := ⟨_, Tryz.func18, by kernel_rfl, by kernel_rfl⟩
instance : GoFn Tryz.prog 19 := ⟨_, Tryz.func19, by kernel_rfl, by kernel_rfl⟩
instance : GoFn Tryz.prog 20 := ⟨_, Tryz.func20, by kernel_rfl, by kernel_rfl⟩
instance : GoFn Tryz.prog 21 := ⟨_, Tryz.func21, by kernel_rfl, by kernel_rfl⟩
instance : GoFn Tryz.prog 22 := ⟨_, Tryz.func22, by kernel_rfl, by kernel_rfl⟩
instance : GoFn Tryz.prog 23 := ⟨_, Tryz.func23, by kernel_rfl, by kernel_rfl⟩
instance : GoFn Tryz.prog 24 := ⟨_, Tryz.func24, by kernel_rfl, by kernel_rfl⟩
instance : GoFn Tryz.prog 25 := ⟨_, Tryz.func25, by kernel_rfl, by kernel_rfl⟩
instance : GoFn Tryz.prog 26 := ⟨_, Tryz.func26, by kernel_rfl, by kernel_rfl⟩
instance : GoFn Tryz.prog 27 := ⟨_, Tryz.func27, by kernel_rfl, by kernel_rfl⟩
instance : GoFn Tryz.prog 28 := ⟨_, Tryz.func28, by kernel_rfl, by kernel_rfl⟩
instance : GoFn Tryz.prog 29 := ⟨_, Tryz.func29, by kernel_rfl, by kernel_rfl⟩
instance : GoFn Tryz.prog 30 := ⟨_, Tryz.func30, by kernel_rfl, by kernel_rfl⟩
instance : GoFn Tryz.prog 31 := ⟨_, Tryz.func31, by kernel_rfl, by kernel_rfl⟩
instance : GoFn Tryz.prog 32 := ⟨_, Tryz.func32, by kernel_rfl, by kernel_rfl⟩
instance : GoFn Tryz.prog 33 := ⟨_, Tryz.func33, by kernel_rfl, by kernel_rfl⟩
instance : GoFn Tryz.prog 34 := ⟨_, Tryz.func34, by kernel_rfl, by kernel_rfl⟩
instance : GoFn Tryz.prog 35 := ⟨_, Tryz.func35, by kernel_rfl, by kernel_rfl⟩
instance : GoFn Tryz.prog 36 := ⟨_, Tryz.func36, by kernel_rfl, by kernel_rfl⟩
instance : GoFn Tryz.prog 37 := ⟨_, Tryz.func37, by kernel_rfl, by kernel_rfl⟩
instance : GoFn Tryz.prog 38 := ⟨_, Tryz.func38, by kernel_rfl, by kernel_rfl⟩
instance : GoFn Tryz.prog 39 := ⟨_, Tryz.func39, by kernel_rfl, by kernel_rfl⟩
instance : GoFn Tryz.prog 40 := ⟨_, Tryz.func40, by kernel_rfl, by kernel_rfl⟩
instance : GoFn Tryz.prog 41 := ⟨_, Tryz.func41, by kernel_rfl, by kernel_rfl⟩
instance : GoFn Tryz.prog 42 := ⟨_, Tryz.func42, by kernel_rfl, by kernel_rfl⟩
instance : GoFn Tryz.prog 43 := ⟨_, Tryz.func43, by kernel_rfl, by kernel_rfl⟩
instance : GoFn Tryz.prog 44 := ⟨_, Tryz.func44, by kernel_rfl, by kernel_rfl⟩
instance : GoFn Tryz.prog 45 := ⟨_, Tryz.func45, by kernel_rfl, by kernel_rfl⟩
instance : GoFn Tryz.prog 46 := ⟨_, Tryz.func46, by kernel_rfl, by kernel_rfl⟩
instance : GoFn Tryz.prog 47 := ⟨_, Tryz.func47, by kernel_rfl, by kernel_rfl⟩
instance : GoFn Tryz.prog 48 := ⟨_, Tryz.func48, by kernel_rfl, by kernel_rfl⟩
instance : GoFn Tryz.prog 49 := ⟨_, Tryz.func49, by kernel_rfl, by kernel_rfl⟩
instance : GoFn Tryz.prog 50 := ⟨_, Tryz.func50, by kernel_rfl, by kernel_rfl⟩
instance : GoFn Tryz.prog 51 := ⟨_, Tryz.func51, by kernel_rfl, by kernel_rfl⟩
instance : GoFn Tryz.prog 52 := ⟨_, Tryz.func52, by kernel_rfl, by kernel_rfl⟩
instance : GoFn Tryz.prog 53 := ⟨_, Tryz.func53, by kernel_rfl, by kernel_rfl⟩
instance : GoFn Tryz.prog 54 := ⟨_, Tryz.func54, by kernel_rfl, by kernel_rfl⟩
instance : GoFn Tryz.prog 55 := ⟨_, Tryz.func55, by kernel_rfl, by kernel_rfl⟩
instance : GoFn Tryz.prog 56 := ⟨_, Tryz.func56, by kernel_rfl, by kernel_rfl⟩
instance : GoFn Tryz.prog 57 := ⟨_, Tryz.func57, by kernel_rfl, by kernel_rfl⟩
instance : GoFn Tryz.prog 58 := ⟨_, Tryz.func58, by kernel_rfl, by kernel_rfl⟩
instance : GoFn Tryz.prog 59 := ⟨_, Tryz.func59, by kernel_rfl, by kernel_rfl⟩
instance : GoFn Tryz.prog 60 := ⟨_, Tryz.func60, by kernel_rfl, by kernel_rfl⟩
instance : GoFn Tryz.prog 61 := ⟨_, Tryz.func61, by kernel_rfl, by kernel_rfl⟩
instance : GoFn Tryz.prog 62 := ⟨_, Tryz.func62, by kernel_rfl, by kernel_rfl⟩
instance : GoFn Tryz.prog 63 := ⟨_, Tryz.func63, by kernel_rfl, by kernel_rfl⟩
instance : GoFn Tryz.prog 64 := ⟨_, Tryz.func64, by kernel_rfl, by kernel_rfl⟩
instance : GoFn Tryz.prog 65 := ⟨_, Tryz.func65, by kernel_rfl, by kernel_rfl⟩
instance : GoFn Tryz.prog 66 := ⟨_, Tryz.func66, by kernel_rfl, by kernel_rfl⟩
instance : GoFn Tryz.prog 67 := ⟨_, Tryz.func67, by kernel_rfl, by kernel_rfl⟩
instance : GoFn Tryz.prog 68 := ⟨_, Tryz.func68, by kernel_rfl, by kernel_rfl⟩
instance : GoFn Tryz.prog 69 := ⟨_, Tryz.func69, by kernel_rfl, by kernel_rfl⟩
instance : GoFn Tryz.prog 70 := ⟨_, Tryz.func70, by kernel_rfl, by kernel_rfl⟩
instance : GoFn Tryz.prog 71 := ⟨_, Tryz.func71, by kernel_rfl, by kernel_rfl⟩
instance : GoFn Tryz.prog 72 := ⟨_, Tryz.func72, by kernel_rfl, by kernel_rfl⟩
instance : GoFn Tryz.prog 73 := ⟨_, Tryz.func73, by kernel_rfl, by kernel_rfl⟩
instance : GoFn Tryz.prog 74 := ⟨_, Tryz.func74, by kernel_rfl, by kernel_rfl⟩
instance : GoFn Tryz.prog 75 := ⟨_, Tryz.func75, by kernel_rfl, by kernel_rfl⟩
instance : GoFn Tryz.prog 76 := ⟨_, Tryz.func76, by kernel_rfl, by kernel_rfl⟩
instance : GoFn Tryz.prog 77 := ⟨_, Tryz.func77, by kernel_rfl, by kernel_rfl⟩
instance : GoFn Tryz.prog 78 := ⟨_, Tryz.func78, by kernel_rfl, by kernel_rfl⟩
instance : GoFn Tryz.prog 79 := ⟨_, Tryz.func79, by kernel_rfl, by kernel_rfl⟩
instance : GoFn Tryz.prog 80 := ⟨_, Tryz.func80, by kernel_rfl, by kernel_rfl⟩
instance : GoFn Tryz.prog 81 := ⟨_, Tryz.func81, by kernel_rfl, by kernel_rfl⟩
instance : GoFn Tryz.prog 82 := ⟨_, Tryz.func82, by kernel_rfl, by kernel_rfl⟩
instance : GoFn Tryz.prog 83 := ⟨_, Tryz.func83, by kernel_rfl, by kernel_rfl⟩
instance : GoFn Tryz.prog 84 := ⟨_, Tryz.func84, by kernel_rfl, by kernel_rfl⟩
instance : GoFn Tryz.prog 85 := ⟨_, Tryz.func85, by kernel_rfl, by kernel_rfl⟩
instance : GoFn Tryz.prog 86 := ⟨_, Tryz.func86, by kernel_rfl, by kernel_rfl⟩
instance : GoFn Tryz.prog 87 := ⟨_, Tryz.func87, by kernel_rfl, by kernel_rfl⟩
instance : GoFn Tryz.prog 88 := ⟨_, Tryz.func88, by kernel_rfl, by kernel_rfl⟩
instance : GoFn Tryz.prog 89 := ⟨_, Tryz.func89, by kernel_rfl, by kernel_rfl⟩
instance : GoFn Tryz.prog 90 := ⟨_, Tryz.func90, by kernel_rfl, by kernel_rfl⟩
instance : GoFn Tryz.prog 91 := ⟨_, Tryz.func91, by kernel_rfl, by kernel_rfl⟩
instance : GoFn Tryz.prog 92 := ⟨_, Tryz.func92, by kernel_rfl, by kernel_rfl⟩
instance : GoFn Tryz.prog 93 := ⟨_, Tryz.func93, by kernel_rfl, by kernel_rfl⟩
instance : GoFn Tryz.prog 94 := ⟨_, Tryz.func94, by kernel_rfl, by kernel_rfl⟩
instance : GoFn Tryz.prog 95 := ⟨_, Tryz.func95, by kernel_rfl, by kernel_rfl⟩
instance : GoFn Tryz.prog 96 := ⟨_, Tryz.func96, by kernel_rfl, by kernel_rfl⟩
instance : GoFn Tryz.prog 97 := ⟨_, Tryz.func97, by kernel_rfl, by kernel_rfl⟩
instance : GoFn Tryz.prog 98 := ⟨_, Tryz.func98, by kernel_rfl, by kernel_rfl⟩
instance : GoFn Tryz.prog 99 := ⟨_, Tryz.func99, by kernel_rfl, by kernel_rfl⟩
instance : GoFn Tryz.prog 100 := ⟨_, Tryz.func100, by kernel_rfl, by kernel_rfl⟩
instance : GoFn Tryz.prog 101 := ⟨_, Tryz.func101, by kernel_rfl, by kernel_rfl⟩
instance : GoFn Tryz.prog 102 := ⟨_, Tryz.func102, by kernel_rfl, by kernel_rfl⟩
instance : GoFn Tryz.prog 103 := ⟨_, Tryz.func103, by kernel_rfl, by kernel_rfl⟩
instance : GoFn Tryz.prog 104 := ⟨_, Tryz.func104, by kernel_rfl, by kernel_rfl⟩
instance : GoFn Tryz.prog 105 := ⟨_, Tryz.func105, by kernel_rfl, by kernel_rfl⟩
instance : GoFn Tryz.prog 106 := ⟨_, Tryz.func106, by kernel_rfl, by kernel_rfl⟩
instance : GoFn Tryz.prog 107 := ⟨_, Tryz.func107, by kernel_rfl, by kernel_rfl⟩
instance : GoFn Tryz.prog 108 := ⟨_, Tryz.func108, by kernel_rfl, by kernel_rfl⟩
instance : GoFn Tryz.prog 109 := ⟨_, Tryz.func109, by kernel_rfl, by kernel_rfl⟩
instance : GoFn Tryz.prog 110 := ⟨_, Tryz.func110, by kernel_rfl, by kernel_rfl⟩
instance : GoFn Tryz.prog 111 := ⟨_, Tryz.func111, by kernel_rfl, by kernel_rfl⟩
instance : GoFn Tryz.prog 112 := ⟨_, Tryz.func112, by kernel_rfl, by kernel_rfl⟩
instance : GoFn Tryz.prog 113 := ⟨_, Tryz.func113, by kernel_rfl, by kernel_rfl⟩
instance : GoFn Tryz.prog 114 := ⟨_, Tryz.func114, by kernel_rfl, by kernel_rfl⟩
instance : GoFn Tryz.prog 115 := ⟨_, Tryz.func115, by kernel_rfl, by kernel_rfl⟩
instance : GoFn Tryz.prog 116 := ⟨_, Tryz.func116, by kernel_rfl, by kernel_rfl⟩
instance : GoFn Tryz.prog 117 := ⟨_, Tryz.func117, by kernel_rfl, by kernel_rfl⟩
instance : GoFn Tryz.prog 118 := ⟨_, Tryz.func118, by kernel_rfl, by kernel_rfl⟩
instance : GoFn Tryz.prog 119 := ⟨_, Tryz.func119, by kernel_rfl, by kernel_rfl⟩
instance : GoFn Tryz.prog 120 := ⟨_, Tryz.func120, by kernel_rfl, by kernel_rfl⟩
instance : GoFn Tryz.prog 121 := ⟨_, Tryz.func121, by kernel_rfl, by kernel_rfl⟩
instance : GoFn Tryz.prog 122 := ⟨_, Tryz.func122, by kernel_rfl, by kernel_rfl⟩
instance : GoFn Tryz.prog 123 := ⟨_, Tryz.func123, by kernel_rfl, by kernel_rfl⟩
instance : GoFn Tryz.prog 124 := ⟨_, Tryz.func124, by kernel_rfl, by kernel_rfl⟩
instance : GoFn Tryz.prog 125 := ⟨_, Tryz.func125, by kernel_rfl, by kernel_rfl⟩
instance : GoFn Tryz.prog 126 := ⟨_, Tryz.func126, by kernel_rfl, by kernel_rfl⟩
instance : GoFn Tryz.prog 127 := ⟨_, Tryz.func127, by kernel_rfl, by kernel_rfl⟩
instance : GoFn Tryz.prog 128 := ⟨_, Tryz.func128, by kernel_rfl, by kernel_rfl⟩
instance : GoFn Tryz.prog 129 := ⟨_, Tryz.func129, by kernel_rfl, by kernel_rfl⟩
instance : GoFn Tryz.prog 130 := ⟨_, Tryz.func130, by kernel_rfl, by kernel_rfl⟩
instance : GoFn Tryz.prog 131 := ⟨_, Tryz.func131, by kernel_rfl, by kernel_rfl⟩
instance : GoFn Tryz.prog 132 := ⟨_, Tryz.func132, by kernel_rfl, by kernel_rfl⟩
instance : GoFn Tryz.prog 133 := ⟨_, Tryz.func133, by kernel_rfl, by kernel_rfl⟩
instance : GoFn Tryz.prog 134 := ⟨_, Tryz.func134, by kernel_rfl, by kernel_rfl⟩
instance : GoFn Tryz.prog 135 := ⟨_, Tryz.func135, by kernel_rfl, by kernel_rfl⟩
instance : GoFn Tryz.prog 136 := ⟨_, Tryz.func136, by kernel_rfl, by kernel_rfl⟩
instance : GoFn Tryz.prog 137 := ⟨_, Tryz.func137, by kernel_rfl, by kernel_rfl⟩
instance : GoFn Tryz.prog 138 := ⟨_, Tryz.func138, by kernel_rfl, by kernel_rfl⟩
instance : GoFn Tryz.prog 139 := ⟨_, Tryz.func139, by kernel_rfl, by kernel_rfl⟩
instance : GoFn Tryz.prog 140 := ⟨_, Tryz.func140, by kernel_rfl, by kernel_rfl⟩
instance : GoFn Tryz.prog 141 := ⟨_, Tryz.func141, by kernel_rfl, by kernel_rfl⟩
instance : GoFn Tryz.prog 142 := ⟨_, Tryz.func142, by kernel_rfl, by kernel_rfl⟩
instance : GoFn Tryz.prog 143 := ⟨_, Tryz.func143, by kernel_rfl, by kernel_rfl⟩
instance : GoFn Tryz.prog 144 := ⟨_, Tryz.func144, by kernel_rfl, by kernel_rfl⟩
instance : GoFn Tryz.prog 145 := ⟨_, Tryz.func145, by kernel_rfl, by kernel_rfl⟩
instance : GoFn Tryz.prog 146 := ⟨_, Tryz.func146, by kernel_rfl, by kernel_rfl⟩
instance : GoFn Tryz.prog 147 := ⟨_, Tryz.func147, by kernel_rfl, by kernel_rfl⟩
instance : GoFn Tryz.prog 148 := ⟨_, Tryz.func148, by kernel_rfl, by kernel_rfl⟩
instance : GoFn Tryz.prog 149 := ⟨_, Tryz.func149, by kernel_rfl, by kernel_rfl⟩
instance : GoFn Tryz.prog 150 := ⟨_, Tryz.func150, by kernel_rfl, by kernel_rfl⟩
instance : GoFn Tryz.prog 151 := ⟨_, Tryz.func151, by kernel_rfl, by kernel_rfl⟩
instance : GoFn Tryz.prog 152 := ⟨_, Tryz.func152, by kernel_rfl, by kernel_rfl⟩
instance : GoFn Tryz.prog 153 := ⟨_, Tryz.func153, by kernel_rfl, by kernel_rfl⟩
instance : GoFn Tryz.prog 154 := ⟨_, Tryz.func154, by kernel_rfl, by kernel_rfl⟩
instance : GoFn Tryz.prog 155 := ⟨_, Tryz.func155, by kernel_rfl, by kernel_rfl⟩
instance : GoFn Tryz.prog 156 := ⟨_, Tryz.func156, by kernel_rfl, by kernel_rfl⟩
instance : GoFn Tryz.prog 157 := ⟨_, Tryz.func157, by kernel_rfl, by kernel_rfl⟩
instance : GoFn Tryz.prog 158 := ⟨_, Tryz.func158, by kernel_rfl, by kernel_rfl⟩
instance : GoFn Tryz.prog 159 := ⟨_, Tryz.func159, by kernel_rfl, by kernel_rfl⟩
instance : GoFn Tryz.prog 160 := ⟨_, Tryz.func160, by kernel_rfl, by kernel_rfl⟩
instance : GoFn Tryz.prog 161 := ⟨_, Tryz.func161, by kernel_rfl, by kernel_rfl⟩
instance : GoFn Tryz.prog 162 := ⟨_, Tryz.func162, by kernel_rfl, by kernel_rfl⟩
instance : GoFn Tryz.prog 163 := ⟨_, Tryz.func163, by kernel_rfl, by kernel_rfl⟩
instance : GoFn Tryz.prog 164 := ⟨_, Tryz.func164, by kernel_rfl, by kernel_rfl⟩
instance : GoFn Tryz.prog 165 := ⟨_, Tryz.func165, by kernel_rfl, by kernel_rfl⟩
instance : GoFn Tryz.prog 166 := ⟨_, Tryz.func166, by kernel_rfl, by kernel_rfl⟩
instance : GoFn Tryz.prog 167 := ⟨_, Tryz.func167, by kernel_rfl, by kernel_rfl⟩
instance : GoFn Tryz.prog 168 := ⟨_, Tryz.func168, by kernel_rfl, by kernel_rfl⟩
instance : GoFn Tryz.prog 169 := ⟨_, Tryz.func169, by kernel_rfl, by kernel_rfl⟩
instance : GoFn Tryz.prog 170 := ⟨_, Tryz.func170, by kernel_rfl, by kernel_rfl⟩
instance : GoFn Tryz.prog 171 := ⟨_, Tryz.func171, by kernel_rfl, by kernel_rfl⟩
instance : GoFn Tryz.prog 172 := ⟨_, Tryz.func172, by kernel_rfl, by kernel_rfl⟩
instance : GoFn Tryz.prog 173 := ⟨_, Tryz.func173, by kernel_rfl, by kernel_rfl⟩
instance : GoFn Tryz.prog 174 := ⟨_, Tryz.func174, by kernel_rfl, by kernel_rfl⟩
instance : GoFn Tryz.prog 175 := ⟨_, Tryz.func175, by kernel_rfl, by kernel_rfl⟩
instance : GoFn Tryz.prog 176 := ⟨_, Tryz.func176, by kernel_rfl, by kernel_rfl⟩
instance : GoFn Tryz.prog 177 := ⟨_, Tryz.func177, by kernel_rfl, by kernel_rfl⟩
instance : GoFn Tryz.prog 178 := ⟨_, Tryz.func178, by kernel_rfl, by kernel_rfl⟩
instance : GoFn Tryz.prog 179 := ⟨_, Tryz.func179, by kernel_rfl, by kernel_rfl⟩
instance : GoFn Tryz.prog 180 := ⟨_, Tryz.func180, by kernel_rfl, by kernel_rfl⟩
instance : GoFn Tryz.prog 181 := ⟨_, Tryz.func181, by kernel_rfl, by kernel_rfl⟩
instance : GoFn Tryz.prog 182 := ⟨_, Tryz.func182, by kernel_rfl, by kernel_rfl⟩
instance : GoFn Tryz.prog 183 := ⟨_, Tryz.func183, by kernel_rfl, by kernel_rfl⟩
instance : GoFn Tryz.prog 184 := ⟨_, Tryz.func184, by kernel_rfl, by kernel_rfl⟩
end Go.Sp
/-
  The small functions of package spindle: what each returns.
-/
namespace Go.Sp
open Go Go.Proofs
abbrev vi (n : Int) : Value := .int .i64 n
/-- A spindle's numbers. -/
structure Sn where
  mass : Int
  volume : Int
  step : Int
  divisions : Int
  width : Int
  weights : List Int
/-- A spindle as a value. -/
abbrev spV (s : Sn) (sl : Value) : Value := .agg #[vi s.mass, vi s.volume, vi s.step, vi s.divisions, vi s.width, sl]
/-- A slice that reads as integers. -/
def RdI (w : World) (sl : Value) (xs : List Int) : Prop := Reads w sl 1 xs.length (xs.map vi)
/-- Valid spindles. -/
structure VS (s : Sn) : Prop where
  m1 : 1 ≤ s.mass
  m2 : s.mass ≤ 5000
  v1 : 1 ≤ s.volume
  v2 : s.volume ≤ 5000
  s1 : 1 ≤ s.step
  s2 : s.step ≤ 100
  d1 : 1 ≤ s.divisions
  d2 : s.divisions ≤ 20
  w1 : 1 ≤ s.width
  w2 : s.width ≤ s.step
  w3 : s.step ≤ 2 * s.width
  n : s.weights.length ≤ 6
  ws : ∀ x ∈ s.weights, 1 ≤ x ∧ x ≤ 1000
def massF (s : Sn) (k : Int) : Int := if k = 0 then s.mass else s.mass + s.weights.getD (k - 1).toNat 0
def fromF (m v : Int) : Int := (1000 * m + v - 1) / v
def belowF (m v : Int) : Int := 1000 * m / v
def floF (s : Sn) (k : Int) : Int × Int := (max 1 (fromF (massF s k) (s.volume + s.divisions * s.step)), min 2000 (belowF (massF s k) s.volume))
theorem massF_bd {s : Sn} (h : VS s) {k : Int} (h0 : 0 ≤ k) (h1 : k ≤ s.weights.length) : 1 ≤ massF s k ∧ massF s k ≤ 6000 := by
  have := h.m1; have := h.m2
  unfold massF
  split
  · omega
  · have hlt : (k - 1).toNat < s.weights.length := by omega
    have := h.ws (s.weights[(k - 1).toNat]) (List.getElem_mem hlt)
    rw [List.getD_eq_getElem?_getD, List.getElem?_eq_getElem hlt]
    simp only [Option.getD_some]
    omega
theorem ds_bd {s : Sn} (h : VS s) : 1 ≤ s.divisions * s.step ∧ s.divisions * s.step ≤ 2000 := by
  have := h.s1; have := h.s2; have := h.d1; have := h.d2
  constructor
  · have := Int.mul_le_mul (a := 1) (c := s.divisions) (b := 1) (d := s.step) (by omega) (by omega) (by omega) (by omega); omega
  · have := Int.mul_le_mul (a := s.divisions) (c := 20) (b := s.step) (d := 100) (by omega) (by omega) (by omega) (by omega); omega
theorem within_c (n lo hi : Int) (w : World) : CnV Tryz.prog 104 #[vi n, vi lo, vi hi] w (.bool (decide (lo ≤ n ∧ n ≤ hi))) := by
  refine cnv (vs := [_, _, _]) Tryz.func104 rfl rfl ?_
  all_goals refine tc_seq fun K1 hK1 => ?_; refine tc_region ?_; refine tl_q (y_assign rfl) rfl ?_; refine tl_nil ?_; ((refine hK1 ?_; try (clear hK1; clear K1)))
  all_goals refine tc_seq fun K2 hK2 => ?_; refine tc_region ?_; refine tl_q (y_move rfl) rfl ?_; refine tl_q (y_move rfl) rfl ?_; refine tl_q (y_leq rfl rfl) rfl ?_; refine tl_q (y_move rfl) rfl ?_; ((refine tl_gs rfl rfl (fun hc => ?_) (fun hc => ?_) <;> (skip) <;> (first | refine tl_sk rfl rfl rfl rfl ?_ | refine tl_qg rfl rfl (y_move rfl) rfl ?_)))
  all_goals (first | refine tl_sk rfl rfl rfl rfl ?_ | refine tl_qg rfl rfl (y_move rfl) rfl ?_); (first | refine tl_sk rfl rfl rfl rfl ?_ | refine tl_qg rfl rfl (y_leq rfl rfl) rfl ?_); (first | refine tl_q (y_pick_t rfl rfl) rfl ?_ | refine tl_q (y_pick_f rfl rfl) rfl ?_); refine tl_q (y_assign rfl) rfl ?_; refine tl_nil ?_; ((refine hK2 ?_; try (clear hK2; clear K2)))
  all_goals refine tc_ret ?_; (repeat (first | refine tk_then_ret ?_))
  all_goals (refine tk_ret rfl rfl (.cons (.tmp rfl) .nil) ?_)
  all_goals (
   refine fun w' hw' => ⟨?_, hw'.fr (by simp)⟩; simp only [outV, decide_eq_true_eq, decide_eq_false_iff_not] at *; simp [hc])
theorem density_c (n : Int) (w : World) : CnV Tryz.prog 146 #[vi n] w (.bool (decide (1 ≤ n ∧ n ≤ 2000))) := by
  refine cnv (vs := [_]) Tryz.func146 rfl rfl ?_
  all_goals refine tc_seq fun K1 hK1 => ?_; refine tc_region ?_; refine tl_q (y_assign rfl) rfl ?_; refine tl_nil ?_; ((refine hK1 ?_; try (clear hK1; clear K1)))
  all_goals refine tc_seq fun K2 hK2 => ?_; refine tc_region ?_; refine tl_q (y_move rfl) rfl ?_; refine tl_e (e_callV rfl (.cons rfl (.cons rfl (.cons rfl .nil))) (fun w hw => within_c _ _ _ w)) rfl (fun _ _ => ?_); refine tl_q (y_assign rfl) rfl ?_; refine tl_nil ?_; ((refine hK2 ?_; try (clear hK2; clear K2)))
  all_goals refine tc_ret ?_; (repeat (first | refine tk_then_ret ?_))
  all_goals (refine tk_ret rfl rfl (.cons (.tmp rfl) .nil) ?_)
  all_goals (
   exact fun w' hw' => ⟨rfl, hw'.fr (by simp)⟩)
theorem empty_c (a b : Int) (w : World) : CnV Tryz.prog 131 #[.agg #[vi a, vi b]] w (.bool (decide (b < a))) := by
  refine cnv (vs := [_]) Tryz.func131 rfl rfl ?_
  all_goals refine tc_seq fun K1 hK1 => ?_; refine tc_region ?_; refine tl_e (e_box rfl rfl rfl) rfl (fun _ _ => ?_); refine tl_q (y_assign rfl) rfl ?_; refine tl_nil ?_; ((refine hK1 ?_; try (clear hK1; clear K1)))
  all_goals refine tc_seq fun K2 hK2 => ?_; refine tc_region ?_; refine tl_q (y_field rfl) rfl ?_; refine tl_q (y_load1 rfl (by repeat constructor) (by rfl)) rfl ?_; refine tl_q (y_field rfl) rfl ?_; refine tl_q (y_load1 rfl (by repeat constructor) (by rfl)) rfl ?_; refine tl_q (y_gtr rfl rfl) rfl ?_; refine tl_q (y_assign rfl) rfl ?_; refine tl_nil ?_; ((refine hK2 ?_; try (clear hK2; clear K2)))
  all_goals refine tc_ret ?_; (repeat (first | refine tk_then_ret ?_))
  all_goals (refine tk_ret rfl rfl (.cons (.tmp rfl) .nil) ?_)
  all_goals (
   exact fun w' hw' => ⟨rfl, hw'.fr (by simp)⟩)
theorem every_c (w : World) : CnV Tryz.prog 149 #[] w (.agg #[vi 1, vi 2000]) := by
  refine cnv (vs := []) Tryz.func149 rfl rfl ?_
  all_goals refine tc_seq fun K1 hK1 => ?_; refine tc_region ?_; refine tl_e (e_allocN rfl) rfl (fun _ _ => ?_); refine tl_nil ?_; ((refine hK1 ?_; try (clear hK1; clear K1)))
  all_goals refine tc_seq fun K2 hK2 => ?_; refine tc_region ?_; refine tl_q (y_build_2 rfl rfl rfl rfl) rfl ?_; refine tl_e (e_storeW rfl rfl (by repeat constructor) (by rfl) (by rfl) (by simp [Value.oneCell'])) rfl (fun _ _ => ?_); refine tl_nil ?_; ((refine hK2 ?_; try (clear hK2; clear K2)))
  all_goals refine tc_ret ?_; (repeat (first | refine tk_then_ret ?_))
  all_goals (refine tk_ret rfl rfl (.cons (.agg inferInstance rfl (by repeat constructor) (by rfl)) .nil) ?_)
  all_goals (
   exact fun w' hw' => ⟨rfl, hw'.fr (by simp)⟩)
theorem from_c (m v : Int) (h1 : 1 ≤ m) (h2 : m ≤ 6000) (h3 : 1 ≤ v) (h4 : v ≤ 10000) (w : World) : CnV Tryz.prog 151 #[vi m, vi v] w (vi (fromF m v)) := by
  refine cnv (vs := [_, _]) Tryz.func151 rfl rfl ?_
  all_goals refine tc_seq fun K1 hK1 => ?_; refine tc_region ?_; refine tl_q (y_assign rfl) rfl ?_; refine tl_nil ?_; ((refine hK1 ?_; try (clear hK1; clear K1)))
  all_goals refine tc_seq fun K2 hK2 => ?_; refine tc_region ?_; refine tl_q (y_move rfl) rfl ?_; refine tl_q (y_mul rfl rfl (by omega)) rfl ?_; refine tl_q (y_move rfl) rfl ?_; refine tl_q (y_add rfl rfl (by omega)) rfl ?_; refine tl_q (y_sub rfl rfl (by omega)) rfl ?_; refine tl_q (y_move rfl) rfl ?_; refine tl_q (y_quo rfl rfl (by omega) (by omega)) rfl ?_; refine tl_q (y_assign rfl) rfl ?_; refine tl_nil ?_; ((refine hK2 ?_; try (clear hK2; clear K2)))
  all_goals refine tc_ret ?_; (repeat (first | refine tk_then_ret ?_))
  all_goals (refine tk_ret rfl rfl (.cons (.tmp rfl) .nil) ?_)
  all_goals (
   exact fun w' hw' => ⟨rfl, hw'.fr (by simp)⟩)
theorem below_c (m v : Int) (h1 : 1 ≤ m) (h2 : m ≤ 6000) (h3 : 1 ≤ v) (h4 : v ≤ 10000) (w : World) : CnV Tryz.prog 152 #[vi m, vi v] w (vi (belowF m v)) := by
  refine cnv (vs := [_, _]) Tryz.func152 rfl rfl ?_
  all_goals refine tc_seq fun K1 hK1 => ?_; refine tc_region ?_; refine tl_q (y_assign rfl) rfl ?_; refine tl_nil ?_; ((refine hK1 ?_; try (clear hK1; clear K1)))
  all_goals refine tc_seq fun K2 hK2 => ?_; refine tc_region ?_; refine tl_q (y_move rfl) rfl ?_; refine tl_q (y_mul rfl rfl (by omega)) rfl ?_; refine tl_q (y_move rfl) rfl ?_; refine tl_q (y_quo rfl rfl (by omega) (by omega)) rfl ?_; refine tl_q (y_assign rfl) rfl ?_; refine tl_nil ?_; ((refine hK2 ?_; try (clear hK2; clear K2)))
  all_goals refine tc_ret ?_; (repeat (first | refine tk_then_ret ?_))
  all_goals (refine tk_ret rfl rfl (.cons (.tmp rfl) .nil) ?_)
  all_goals (
   exact fun w' hw' => ⟨rfl, hw'.fr (by simp)⟩)
theorem RdI.fr {w w' : World} {sl : Value} {xs : List Int} (h : RdI w sl xs) (f : Fr [] w w') : RdI w' sl xs := by
  obtain ⟨h1, ad, cap, h2, h3⟩ := h
  refine ⟨h1, ad, cap, h2, fun hn => ?_⟩
  obtain ⟨b, o, h4, h5⟩ := h3 hn
  refine ⟨b, o, h4, ?_⟩
  clear h1 h2 h3 h4 hn
  generalize xs.map vi = vs at h5
  generalize xs.length * 1 = n at h5
  induction h5 with
  | nil => exact .nil
  | cons hv _ ih => exact .cons (f.cell (p := ⟨b, _, none⟩) (by simp) hv) ih
theorem CA.get {f : Nat → Option Value} {o n : Nat} {vs : List Value} (h : CA f o n vs) : ∀ (i : Nat) (v : Value), vs[i]? = some v → f (o + i) = some v := by
  induction h with
  | nil => intro i v hv; simp at hv
  | @cons o n v vs hv _ ih =>
    intro i u hu
    cases i with
    | zero => simp at hu; subst hu; exact hv
    | succ i => have := ih i u (by simpa using hu); rw [← this]; congr 1; omega
/-- A slice of integers, laid open. -/
theorem RdI.open {w : World} {sl : Value} {xs : List Int} (h : RdI w sl xs) : ∃ ad cap b o, sl = .slice ad xs.length cap ∧ (0 < xs.length → ad = some ⟨b, o, none⟩) ∧ ∀ w', Fr [] w w' → ∀ i, i < xs.length → w'.cell? ⟨b, o + i, none⟩ = some (vi (xs.getD i 0)) := by
  by_cases hn : xs.length = 0
  · obtain ⟨_, ad, cap, h2, _⟩ := h
    exact ⟨ad, cap, 0, 0, h2, fun h => by omega, fun _ _ i hi => by omega⟩
  · have h' := h
    obtain ⟨_, ad, cap, h2, h3⟩ := h
    obtain ⟨b, o, h4, h5⟩ := h3 hn
    refine ⟨ad, cap, b, o, h2, fun _ => h4, fun w' f i hi => ?_⟩
    obtain ⟨_, ad', cap', h2', h3'⟩ := h'.fr f
    obtain ⟨b', o', h4', h5'⟩ := h3' hn
    have e : ad' = ad := by rw [h2] at h2'; injection h2' with e1 e2 e3; exact e1.symm
    rw [e, h4] at h4'
    injection h4' with e1
    injection e1 with e2 e3
    subst e2; subst e3
    refine h5'.get i _ ?_
    rw [List.getElem?_map, List.getElem?_eq_getElem hi, List.getD_eq_getElem?_getD, List.getElem?_eq_getElem hi]
    rfl
/-- The minimum of two. -/
theorem min_c (a b : Int) (sl : Value) (w : World) (hr : RdI w sl [a, b]) : CnV Tryz.prog 153 #[sl] w (vi (min a b)) := by
  obtain ⟨ad, cap, b0, o, rfl, had, hcell⟩ := hr.open
  have had' := had (by simp)
  refine cnv (vs := [_]) Tryz.func153 rfl rfl ?_
  all_goals refine tc_seq fun K1 hK1 => ?_; refine tc_region ?_; refine tl_q (y_assign rfl) rfl ?_; refine tl_nil ?_; ((refine hK1 ?_; try (clear hK1; clear K1)))
  all_goals refine tc_seq fun K2 hK2 => ?_; refine tc_seq fun K3 hK3 => ?_
  have hl2 : ([a, b].length : Int) = 2 := rfl
  all_goals refine tc_region ?_; refine tl_q (y_move rfl) rfl ?_; refine tl_q (y_len rfl) rfl ?_; refine tl_q (y_lss rfl rfl) rfl ?_; refine tl_nil ?_; ((refine hK3 ?_; try (clear hK3; clear K3)))
  all_goals (
   refine tc_cond rfl (fun hc => ?_) (fun hc => ?_)
   · try simp only [qn1, qn2, qn3, qn4, qn5, qn6, qn7, qn8] at hc
     all_goals ((exfalso; omega))
   · try simp only [qn1, qn2, qn3, qn4, qn5, qn6, qn7, qn8] at hc
     all_goals refine tc_skip ?_; ((refine hK2 ?_; try (clear hK2; clear K2)))
     all_goals refine tc_seq fun K4 hK4 => ?_; refine tc_region ?_; refine tl_q (y_move rfl) rfl ?_; refine tl_q (y_index rfl rfl (by omega) had') rfl ?_; refine tl_q (y_load1o rfl (fun w' hw' => hcell w' (hw'.fr (by simp)) _ (by omega))) rfl ?_; refine tl_q (y_assign rfl) rfl ?_; refine tl_nil ?_; ((refine hK4 ?_; try (clear hK4; clear K4)))
     all_goals refine tc_seq fun K5 hK5 => ?_; refine tc_seq fun K6 hK6 => ?_; refine tc_region ?_; refine tl_q (y_assign rfl) rfl ?_; refine tl_nil ?_; ((refine hK6 ?_; try (clear hK6; clear K6)))
     all_goals refine tc_block ?_
     all_goals (
      refine tc_loop (fun p : Int × Int => (p.1 = a ∧ p.2 = 1) ∨ (p.1 = min a b ∧ p.2 = 2)) (fun p => [(0, .slice ad [a, b].length cap), (3, vi p.1), (4, vi p.2)]) (fun _ => [(w, [])]) (fun _ => []) (fun p => (2 - p.2).toNat) ?_ ?_
      · exact tk_start (a, 1) (.inl ⟨rfl, rfl⟩) (.cons rfl (.cons rfl (.cons rfl .nil))) (fun _ h => h)
      · rintro ⟨m, i⟩ hI
        dsimp only at hI ⊢
        all_goals refine tc_seq fun K7 hK7 => ?_; refine tc_seq fun K8 hK8 => ?_; refine tc_region ?_; refine tl_q (y_move rfl) rfl ?_; refine tl_q (y_move rfl) rfl ?_; refine tl_q (y_len rfl) rfl ?_; refine tl_q (y_lss rfl rfl) rfl ?_; refine tl_nil ?_; ((refine hK8 ?_; try (clear hK8; clear K8)))
        all_goals (
         refine tc_cond rfl (fun hc => ?_) (fun hc => ?_)
         · try simp only [qn1, qn2, qn3, qn4, qn5, qn6, qn7, qn8] at hc
           all_goals refine tc_skip ?_; ((refine hK7 ?_; try (clear hK7; clear K7)))
           all_goals refine tc_seq fun K9 hK9 => ?_; refine tc_block ?_; refine tc_region ?_; refine tl_q (y_move rfl) rfl ?_; refine tl_q (y_move rfl) rfl ?_; refine tl_q (y_move rfl) rfl ?_; refine tl_q (y_index rfl rfl (by omega) had') rfl ?_; refine tl_q (y_load1o rfl (fun w' hw' => hcell w' (hw'.fr (by simp)) _ (by omega))) rfl ?_; refine tl_q (y_min rfl rfl) rfl ?_; refine tl_q (y_assign rfl) rfl ?_; refine tl_nil ?_; ((refine hK9 ?_; try (clear hK9; clear K9)))
           all_goals refine tc_region ?_; refine tl_q (y_move rfl) rfl ?_; refine tl_q (y_add rfl rfl (by omega)) rfl ?_; refine tl_q (y_assign rfl) rfl ?_; refine tl_nil ?_
           all_goals (
            obtain ⟨rfl, rfl⟩ : m = a ∧ i = 1 := by omega
            exact tk_round (min m b, 2) (.inr ⟨rfl, rfl⟩) (by simp) (.cons rfl (.cons rfl (.cons rfl .nil))) (fun _ h => h))
         · try simp only [qn1, qn2, qn3, qn4, qn5, qn6, qn7, qn8] at hc
           all_goals refine tc_exit ?_; ((refine hK5 ?_; try (clear hK5; clear K5)))
           all_goals refine tc_seq fun K10 hK10 => ?_; refine tc_region ?_; refine tl_q (y_move rfl) rfl ?_; refine tl_q (y_assign rfl) rfl ?_; refine tl_nil ?_; ((refine hK10 ?_; try (clear hK10; clear K10)))
           all_goals refine tc_ret ?_; (repeat (first | refine tk_then_ret ?_))
           all_goals (refine tk_ret rfl rfl (.cons (.tmp rfl) .nil) ?_)
           all_goals (
            have hm : m = min a b := by omega
            exact fun w' hw' => ⟨by rw [hm]; rfl, hw'.fr (by simp)⟩))))
theorem RdI.own {bs : List (World × List Nat)} {H : List (Nat × Obj)} {w : World} {b : Nat} {xs : List Int} {e : TypeId} {f : Nat × Nat} {cap : Nat} {junk : List Value} (hw : HG bs H w) (hm : HM b (.cells (xs.map vi ++ junk).toArray e f) H) : RdI w (.slice (some ⟨b, 0, none⟩) xs.length cap) xs := by
  refine ⟨by simp, _, _, rfl, fun _ => ⟨b, 0, rfl, ?_⟩⟩
  have := CA_pre (xs.map vi) junk e f
  rw [List.length_map] at this
  rw [Nat.mul_one]
  exact this.cells (hw.heap _ hm.mem)
theorem RdI.own0 {bs : List (World × List Nat)} {H : List (Nat × Obj)} {w : World} {b : Nat} {xs : List Int} {e : TypeId} {f : Nat × Nat} {cap : Nat} (hw : HG bs H w) (hm : HM b (.cells (xs.map vi).toArray e f) H) : RdI w (.slice (some ⟨b, 0, none⟩) xs.length cap) xs :=
  RdI.own (junk := []) hw (by rw [List.append_nil]; exact hm)
theorem minimum_c (a b : Int) (sl : Value) (w : World) (hr : RdI w sl [a, b]) : CnV Tryz.prog 105 #[sl] w (vi (min a b)) := by
  refine cnv (vs := [_]) Tryz.func105 rfl rfl ?_
  all_goals refine tc_seq fun K1 hK1 => ?_; refine tc_region ?_; refine tl_q (y_assign rfl) rfl ?_; refine tl_nil ?_; ((refine hK1 ?_; try (clear hK1; clear K1)))
  all_goals refine tc_seq fun K2 hK2 => ?_; refine tc_region ?_; refine tl_q (y_move rfl) rfl ?_; refine tl_e (e_callV rfl (.cons rfl .nil) (fun w' hw' => min_c _ _ _ w' (hr.fr (hw'.fr (by simp))))) rfl (fun _ _ => ?_); refine tl_q (y_assign rfl) rfl ?_; refine tl_nil ?_; ((refine hK2 ?_; try (clear hK2; clear K2)))
  all_goals refine tc_ret ?_; (repeat (first | refine tk_then_ret ?_))
  all_goals (refine tk_ret rfl rfl (.cons (.tmp rfl) .nil) ?_)
  all_goals (
   exact fun w' hw' => ⟨rfl, hw'.fr (by simp)⟩)
theorem meet_c (a b c d : Int) (w : World) : CnV Tryz.prog 150 #[.agg #[vi a, vi b], .agg #[vi c, vi d]] w (.agg #[vi (max a c), vi (min b d)]) := by
  refine cnv (vs := [_, _]) Tryz.func150 rfl rfl ?_
  all_goals refine tc_seq fun K1 hK1 => ?_; refine tc_region ?_; refine tl_e (e_box rfl rfl rfl) rfl (fun _ _ => ?_); refine tl_e (e_box rfl rfl rfl) rfl (fun _ _ => ?_); refine tl_e (e_allocN rfl) rfl (fun _ _ => ?_); refine tl_nil ?_; ((refine hK1 ?_; try (clear hK1; clear K1)))
  all_goals refine tc_seq fun K2 hK2 => ?_; refine tc_draw (by kernel_rfl) ?_; refine tx_p 0 rfl (by kernel_rfl) (y_field rfl) rfl (fun _ _ _ h => h) (fun _ h => h) ?_; refine tx_q 1 rfl (by kernel_rfl) (y_load1 rfl (by repeat constructor) (by rfl)) rfl (fun _ _ _ h => h) (fun _ h => h) ?_; refine tx_p 2 rfl (by kernel_rfl) (y_field rfl) rfl (fun _ _ _ h => h) (fun _ h => h) ?_; refine tx_q 3 rfl (by kernel_rfl) (y_load1 rfl (by repeat constructor) (by rfl)) rfl (fun _ _ _ h => h) (fun _ h => h) ?_; refine tx_p 4 rfl (by kernel_rfl) (y_max rfl rfl) rfl (fun _ _ _ h => h) (fun _ h => h) ?_; refine tx_p 5 rfl (by kernel_rfl) (y_field rfl) rfl (fun _ _ _ h => h) (fun _ h => h) ?_; refine tx_q 6 rfl (by kernel_rfl) (y_load1 rfl (by repeat constructor) (by rfl)) rfl (fun _ _ _ h => h) (fun _ h => h) ?_; refine tx_p 7 rfl (by kernel_rfl) (y_field rfl) rfl (fun _ _ _ h => h) (fun _ h => h) ?_; refine tx_q 8 rfl (by kernel_rfl) (y_load1 rfl (by repeat constructor) (by rfl)) rfl (fun _ _ _ h => h) (fun _ h => h) ?_; (refine tx_e 9 rfl (by kernel_rfl) rfl (e_bslice rfl (by (repeat (first | exact .nil | apply PV.one rfl rfl)); done) rfl rfl) (.inr qq1) (fun _ _ => ?_))
  all_goals refine tx_e 10 rfl (by kernel_rfl) rfl (e_callV rfl (.cons rfl .nil) (fun w' hw' => minimum_c b d _ w' (RdI.own0 (xs := [b, d]) hw' (by repeat constructor)))) (.inr fun _ _ h => h) (fun _ _ => ?_); refine tx_p 11 rfl (by kernel_rfl) (y_build_2 rfl rfl rfl rfl) rfl (fun _ _ _ h => h) (fun _ h => h) ?_; refine tx_e 12 rfl (by kernel_rfl) rfl (e_storeW rfl rfl (by repeat constructor) (by rfl) (by rfl) (by simp [Value.oneCell'])) (.inl (by kernel_rfl)) (fun _ _ => ?_); refine tx_done (by kernel_rfl) ?_; ((refine hK2 ?_; try (clear hK2; clear K2)))
  all_goals refine tc_ret ?_; (repeat (first | refine tk_then_ret ?_))
  all_goals (refine tk_ret rfl rfl (.cons (.agg inferInstance rfl (by repeat constructor) (by rfl)) .nil) ?_)
  all_goals (
   exact fun w' hw' => ⟨rfl, hw'.fr (by simp)⟩)
theorem mass_c (s : Sn) (hs : VS s) (k : Int) (h0 : 0 ≤ k) (h1 : k ≤ s.weights.length) (sl : Value) (w : World) (hr : RdI w sl s.weights) : CnV Tryz.prog 148 #[spV s sl, vi k] w (vi (massF s k)) := by
  have hbd := massF_bd hs h0 h1
  obtain ⟨ad, cap, b0, o, rfl, had, hcell⟩ := hr.open
  refine cnv (vs := [_, _]) Tryz.func148 rfl rfl ?_
  all_goals refine tc_seq fun K1 hK1 => ?_; refine tc_region ?_; refine tl_e (e_box rfl rfl rfl) rfl (fun _ _ => ?_); refine tl_q (y_assign rfl) rfl ?_; refine tl_nil ?_; ((refine hK1 ?_; try (clear hK1; clear K1)))
  all_goals refine tc_seq fun K2 hK2 => ?_; refine tc_seq fun K3 hK3 => ?_; refine tc_region ?_; refine tl_q (y_move rfl) rfl ?_; refine tl_q (y_eql rfl rfl) rfl ?_; refine tl_nil ?_; ((refine hK3 ?_; try (clear hK3; clear K3)))
  all_goals (
   refine tc_cond rfl (fun hc => ?_) (fun hc => ?_)
   · try simp only [qn1, qn2, qn3, qn4, qn5, qn6, qn7, qn8] at hc
     all_goals refine tc_seq fun K4 hK4 => ?_; refine tc_region ?_; refine tl_q (y_field rfl) rfl ?_; refine tl_q (y_load1 rfl (by repeat constructor) (by rfl)) rfl ?_; refine tl_q (y_assign rfl) rfl ?_; refine tl_nil ?_; ((refine hK4 ?_; try (clear hK4; clear K4)))
     all_goals refine tc_ret ?_; (repeat (refine tk_then_ret ?_))
     all_goals (refine tk_ret rfl rfl (.cons (.tmp rfl) .nil) ?_)
     all_goals (
      first | exact fun w' hw' => ⟨by unfold massF; rw [if_pos (by omega)]; rfl, hw'.fr (by simp)⟩ | exact fun w' hw' => ⟨by rw [hm, Nat.mul_one]; rfl, hw'.fr (by simp)⟩)
   · try simp only [qn1, qn2, qn3, qn4, qn5, qn6, qn7, qn8] at hc
     all_goals refine tc_skip ?_; ((refine hK2 ?_; try (clear hK2; clear K2)))
     all_goals refine tc_seq fun K5 hK5 => ?_
     have had' := had (by omega)
     have hm : massF s k = s.mass + s.weights.getD (k - 1).toNat 0 := by unfold massF; rw [if_neg (by omega)]
     have hm1 := hs.m1
     have hn6 := hs.n
     have hm2 := hs.m2
     all_goals refine tc_draw (by kernel_rfl) ?_; refine tx_p 0 rfl (by kernel_rfl) (y_field rfl) rfl (fun _ _ _ h => h) (fun _ h => h) ?_; refine tx_q 1 rfl (by kernel_rfl) (y_load1 rfl (by repeat constructor) (by rfl)) rfl (fun _ _ _ h => h) (fun _ h => h) ?_; refine tx_p 2 rfl (by kernel_rfl) (y_field rfl) rfl (fun _ _ _ h => h) (fun _ h => h) ?_; refine tx_q 3 rfl (by kernel_rfl) (y_load1 rfl (by repeat constructor) (by rfl)) rfl (fun _ _ _ h => h) (fun _ h => h) ?_; refine tx_p 4 rfl (by kernel_rfl) (y_move rfl) rfl (fun _ _ _ h => h) (fun _ h => h) ?_; refine tx_p 5 rfl (by kernel_rfl) (y_sub rfl rfl (by omega)) rfl (fun _ _ _ h => h) (fun _ h => h) ?_; refine tx_p 6 rfl (by kernel_rfl) (y_index rfl rfl (by omega) had') rfl (fun _ _ _ h => h) (fun _ h => h) ?_; refine tx_q 7 rfl (by kernel_rfl) (y_load1o rfl (fun w' hw' => hcell w' (hw'.fr (by simp)) ((k - 1).toNat * 1) (by omega))) rfl (fun _ _ _ h => h) (fun _ h => h) ?_; ((refine tx_p 8 rfl (by kernel_rfl) (y_add rfl rfl (by rw [Nat.mul_one]; omega)) rfl (fun _ _ _ h => h) (fun _ h => h) ?_))
     all_goals refine tx_p 9 rfl (by kernel_rfl) (y_assign rfl) rfl (fun _ _ _ h => h) (fun _ h => h) ?_; refine tx_done (by kernel_rfl) ?_; ((refine hK5 ?_; try (clear hK5; clear K5)))
     all_goals refine tc_ret ?_; (repeat (first | refine tk_then_ret ?_))
     all_goals (refine tk_ret rfl rfl (.cons (.tmp rfl) .nil) ?_)
     all_goals (
      first | exact fun w' hw' => ⟨by unfold massF; rw [if_pos (by omega)]; rfl, hw'.fr (by simp)⟩ | exact fun w' hw' => ⟨by rw [hm, Nat.mul_one]; rfl, hw'.fr (by simp)⟩))
theorem load_c (s : Sn) (n : Int) (sl : Value) (w : World) (hr : RdI w sl s.weights) : CnV Tryz.prog 129 #[spV s sl, vi n] w (.bool (decide (0 ≤ n ∧ n ≤ s.weights.length))) := by
  obtain ⟨ad, cap, b0, o, rfl, had, hcell⟩ := hr.open
  refine cnv (vs := [_, _]) Tryz.func129 rfl rfl ?_
  all_goals refine tc_seq fun K1 hK1 => ?_; refine tc_region ?_; refine tl_e (e_box rfl rfl rfl) rfl (fun _ _ => ?_); refine tl_q (y_assign rfl) rfl ?_; refine tl_nil ?_; ((refine hK1 ?_; try (clear hK1; clear K1)))
  all_goals refine tc_seq fun K2 hK2 => ?_; refine tc_region ?_; refine tl_q (y_move rfl) rfl ?_; refine tl_q (y_field rfl) rfl ?_; refine tl_q (y_load1 rfl (by repeat constructor) (by rfl)) rfl ?_; refine tl_q (y_len rfl) rfl ?_; refine tl_e (e_callV rfl (.cons rfl (.cons rfl (.cons rfl .nil))) (fun w hw => within_c _ _ _ w)) rfl (fun _ _ => ?_); refine tl_q (y_assign rfl) rfl ?_; refine tl_nil ?_; ((refine hK2 ?_; try (clear hK2; clear K2)))
  all_goals refine tc_ret ?_; (repeat (first | refine tk_then_ret ?_))
  all_goals (refine tk_ret rfl rfl (.cons (.tmp rfl) .nil) ?_)
  all_goals (
   exact fun w' hw' => ⟨rfl, hw'.fr (by simp)⟩)
theorem seen_c (s : Sn) (n : Int) (sl : Value) (w : World) : CnV Tryz.prog 130 #[spV s sl, vi n] w (.bool (decide (-2 ≤ n ∧ n ≤ s.divisions))) := by
  refine cnv (vs := [_, _]) Tryz.func130 rfl rfl ?_
  all_goals refine tc_seq fun K1 hK1 => ?_; refine tc_region ?_; refine tl_e (e_box rfl rfl rfl) rfl (fun _ _ => ?_); refine tl_q (y_assign rfl) rfl ?_; refine tl_nil ?_; ((refine hK1 ?_; try (clear hK1; clear K1)))
  all_goals refine tc_seq fun K2 hK2 => ?_; refine tc_region ?_; refine tl_q (y_move rfl) rfl ?_; refine tl_q (y_field rfl) rfl ?_; refine tl_q (y_load1 rfl (by repeat constructor) (by rfl)) rfl ?_; refine tl_e (e_callV rfl (.cons rfl (.cons rfl (.cons rfl .nil))) (fun w hw => within_c _ _ _ w)) rfl (fun _ _ => ?_); refine tl_q (y_assign rfl) rfl ?_; refine tl_nil ?_; ((refine hK2 ?_; try (clear hK2; clear K2)))
  all_goals refine tc_ret ?_; (repeat (first | refine tk_then_ret ?_))
  all_goals (refine tk_ret rfl rfl (.cons (.tmp rfl) .nil) ?_)
  all_goals (
   exact fun w' hw' => ⟨rfl, hw'.fr (by simp)⟩)
theorem floating_c (s : Sn) (hs : VS s) (k : Int) (h0 : 0 ≤ k) (h1 : k ≤ s.weights.length) (sl : Value) (w : World) (hr : RdI w sl s.weights) : CnV Tryz.prog 147 #[spV s sl, vi k] w (.agg #[vi (floF s k).1, vi (floF s k).2]) := by
  have hbd := massF_bd hs h0 h1
  have hds := ds_bd hs
  have := hs.v1
  have := hs.v2
  refine cnv (vs := [_, _]) Tryz.func147 rfl rfl ?_
  all_goals refine tc_seq fun K1 hK1 => ?_; refine tc_region ?_; refine tl_e (e_box rfl rfl rfl) rfl (fun _ _ => ?_); refine tl_e (e_allocN rfl) rfl (fun _ _ => ?_); refine tl_nil ?_; ((refine hK1 ?_; try (clear hK1; clear K1)))
  all_goals refine tc_seq fun K2 hK2 => ?_; refine tc_region ?_; refine tl_q (y_loadW rfl (by repeat constructor) (by rfl)) rfl ?_; refine tl_q (y_move rfl) rfl ?_; refine tl_e (e_callV rfl (.cons rfl (.cons rfl .nil)) (fun w' hw' => mass_c s hs k h0 h1 _ w' (hr.fr (hw'.fr (by simp))))) rfl (fun _ _ => ?_); refine tl_q (y_assign rfl) rfl ?_; refine tl_nil ?_; ((refine hK2 ?_; try (clear hK2; clear K2)))
  all_goals refine tc_seq fun K3 hK3 => ?_; refine tc_draw (by kernel_rfl) ?_; refine tx_p 1 rfl (by kernel_rfl) (y_move rfl) rfl (fun _ _ _ h => h) (fun _ h => h) ?_; refine tx_p 2 rfl (by kernel_rfl) (y_field rfl) rfl (fun _ _ _ h => h) (fun _ h => h) ?_; refine tx_q 3 rfl (by kernel_rfl) (y_load1 rfl (by repeat constructor) (by rfl)) rfl (fun _ _ _ h => h) (fun _ h => h) ?_; refine tx_p 4 rfl (by kernel_rfl) (y_field rfl) rfl (fun _ _ _ h => h) (fun _ h => h) ?_; refine tx_q 5 rfl (by kernel_rfl) (y_load1 rfl (by repeat constructor) (by rfl)) rfl (fun _ _ _ h => h) (fun _ h => h) ?_; refine tx_p 6 rfl (by kernel_rfl) (y_field rfl) rfl (fun _ _ _ h => h) (fun _ h => h) ?_; refine tx_q 7 rfl (by kernel_rfl) (y_load1 rfl (by repeat constructor) (by rfl)) rfl (fun _ _ _ h => h) (fun _ h => h) ?_; refine tx_p 8 rfl (by kernel_rfl) (y_mul rfl rfl (by omega)) rfl (fun _ _ _ h => h) (fun _ h => h) ?_; refine tx_p 9 rfl (by kernel_rfl) (y_add rfl rfl (by omega)) rfl (fun _ _ _ h => h) (fun _ h => h) ?_; refine tx_p 11 rfl (by kernel_rfl) (y_move rfl) rfl (fun _ _ _ h => h) (fun _ h => h) ?_; refine tx_p 12 rfl (by kernel_rfl) (y_field rfl) rfl (fun _ _ _ h => h) (fun _ h => h) ?_; refine tx_q 13 rfl (by kernel_rfl) (y_load1 rfl (by repeat constructor) (by rfl)) rfl (fun _ _ _ h => h) (fun _ h => h) ?_; refine tx_e 0 rfl (by kernel_rfl) rfl (e_callV rfl .nil (fun w' _ => every_c w')) (.inr fun _ _ h => h) (fun _ _ => ?_); refine tx_e 10 rfl (by kernel_rfl) rfl (e_callV rfl (.cons rfl (.cons rfl .nil)) (fun w' _ => from_c _ _ (by omega) (by omega) (by omega) (by omega) w')) (.inr fun _ _ h => h) (fun _ _ => ?_); refine tx_e 14 rfl (by kernel_rfl) rfl (e_callV rfl (.cons rfl (.cons rfl .nil)) (fun w' _ => below_c _ _ (by omega) (by omega) (by omega) (by omega) w')) (.inr fun _ _ h => h) (fun _ _ => ?_); refine tx_p 15 rfl (by kernel_rfl) (y_build_2 rfl rfl rfl rfl) rfl (fun _ _ _ h => h) (fun _ h => h) ?_; refine tx_e 16 rfl (by kernel_rfl) rfl (e_callV rfl (.cons rfl (.cons rfl .nil)) (fun w' _ => meet_c _ _ _ _ w')) (.inr fun _ _ h => h) (fun _ _ => ?_); refine tx_e 17 rfl (by kernel_rfl) rfl (e_storeW rfl rfl (by repeat constructor) (by rfl) (by rfl) (by simp [Value.oneCell'])) (.inl (by kernel_rfl)) (fun _ _ => ?_); refine tx_done (by kernel_rfl) ?_; ((refine hK3 ?_; try (clear hK3; clear K3)))
  all_goals refine tc_ret ?_; (repeat (first | refine tk_then_ret ?_))
  all_goals (refine tk_ret rfl rfl (.cons (.agg inferInstance rfl (by repeat constructor) (by rfl)) .nil) ?_)
  all_goals (
   exact fun w' hw' => ⟨rfl, hw'.fr (by simp)⟩)
end Go.Sp
/-
  Tests of lists by function values, and CheckSpindle.
-/
namespace Go.Sp
open Go Go.Proofs
def idxF (xs : List Int) (p : Int → Bool) : Int := if xs.any p then (xs.findIdx p : Int) else -1
theorem idxF_hit {xs : List Int} {p : Int → Bool} {k : Nat} (hk : k < xs.length) (hp : p (xs.getD k 0) = true) (hn : ∀ j, j < k → p (xs.getD j 0) = false) : idxF xs p = k := by
  rw [List.getD_eq_getElem?_getD, List.getElem?_eq_getElem hk] at hp
  simp only [Option.getD_some] at hp
  have h1 : xs.any p = true := List.any_eq_true.2 ⟨_, List.getElem_mem hk, hp⟩
  unfold idxF
  rw [if_pos h1]
  have : xs.findIdx p = k := by
    apply (List.findIdx_eq hk).2
    refine ⟨hp, fun j hj => ?_⟩
    have := hn j hj
    rw [List.getD_eq_getElem?_getD, List.getElem?_eq_getElem (Nat.lt_trans hj hk)] at this
    simpa using this
  rw [this]
theorem idxF_miss {xs : List Int} {p : Int → Bool} (hn : ∀ j, j < xs.length → p (xs.getD j 0) = false) : idxF xs p = -1 := by
  unfold idxF
  rw [if_neg]
  intro h
  obtain ⟨x, hx, hp⟩ := List.any_eq_true.1 h
  obtain ⟨j, hj, rfl⟩ := List.getElem_of_mem hx
  have := hn j hj
  rw [List.getD_eq_getElem?_getD, List.getElem?_eq_getElem hj] at this
  simp only [Option.getD_some] at this
  rw [this] at hp; cases hp
theorem idxF_any (xs : List Int) (p : Int → Bool) : decide (0 ≤ idxF xs p) = xs.any p := by
  unfold idxF
  cases h : xs.any p
  · simp
  · simp
/-- What is asked of a function value that tests a number. -/
def Tests (P : Program) (g : FuncId) (first cap : Array Value) (p : Int → Bool) (w : World) : Prop := ∀ (x : Int) (w' : World), Fr [] w w' → CnV P g (first ++ #[vi x] ++ cap) w' (.bool (p x))
theorem Tests.fr {P : Program} {g : FuncId} {first cap : Array Value} {p : Int → Bool} {w w1 : World} (h : Tests P g first cap p w) (f : Fr [] w w1) : Tests P g first cap p w1 := fun x w' f' => h x w' (f.trans f' (by simp))
theorem indexFunc_c (g : FuncId) [GoFn Tryz.prog g] (first cap : Array Value) (p : Int → Bool) (xs : List Int) (hx : (xs.length : Int) ≤ 9000000000000000000) (sl : Value) (w : World) (hr : RdI w sl xs) (ht : Tests Tryz.prog g first cap p w) :
    CnV Tryz.prog 141 #[sl, .func (.func g) first cap] w (vi (idxF xs p)) := by
  obtain ⟨ad, cp, b0, o, rfl, had, hcell⟩ := hr.open
  refine cnv (vs := [_, _]) Tryz.func141 rfl rfl ?_
  all_goals refine tc_seq fun K1 hK1 => ?_; refine tc_region ?_; refine tl_q (y_assign rfl) rfl ?_; refine tl_nil ?_; ((refine hK1 ?_; try (clear hK1; clear K1)))
  all_goals refine tc_seq fun K2 hK2 => ?_; refine tc_seq fun K3 hK3 => ?_; refine tc_region ?_; refine tl_q (y_move rfl) rfl ?_; refine tl_q (y_len rfl) rfl ?_; refine tl_q (y_move rfl) rfl ?_; refine tl_nil ?_; ((refine hK3 ?_; try (clear hK3; clear K3)))
  all_goals refine tc_block ?_
  all_goals (
   refine tc_loop (fun k : Nat => k ≤ xs.length ∧ ∀ j, j < k → p (xs.getD j 0) = false) (fun k => [(0, .slice ad xs.length cp), (1, .func (.func g) first cap), (7, vi xs.length), (8, vi k)]) (fun _ => [(w, [])]) (fun _ => []) (fun k => xs.length - k) ?_ ?_
   · exact tk_start 0 ⟨Nat.zero_le _, fun j hj => absurd hj (Nat.not_lt_zero j)⟩ (.cons rfl (.cons rfl (.cons rfl (.cons rfl .nil)))) (fun _ h => h)
   · rintro k ⟨hk, hj⟩
     all_goals refine tc_seq fun K4 hK4 => ?_; refine tc_region ?_; refine tl_q (y_lss rfl rfl) rfl ?_; refine tl_nil ?_; ((refine hK4 ?_; try (clear hK4; clear K4)))
     all_goals refine tc_seq fun K5 hK5 => ?_
     all_goals (
      refine tc_cond rfl (fun hc => ?_) (fun hc => ?_)
      · try simp only [qn1, qn2, qn3, qn4, qn5, qn6, qn7, qn8] at hc
        all_goals refine tc_skip ?_; ((refine hK5 ?_; try (clear hK5; clear K5)))
        all_goals refine tc_seq fun K6 hK6 => ?_; refine tc_block ?_; refine tc_seq fun K7 hK7 => ?_; refine tc_region ?_; refine tl_q (y_move rfl) rfl ?_; refine tl_q (y_assign rfl) rfl ?_; refine tl_nil ?_; ((refine hK7 ?_; try (clear hK7; clear K7)))
        all_goals refine tc_seq fun K8 hK8 => ?_
        have had' := had (by omega)
        all_goals refine tc_region ?_; refine tl_q (y_move rfl) rfl ?_; refine tl_q (y_move rfl) rfl ?_; refine tl_q (y_move rfl) rfl ?_; refine tl_q (y_index rfl rfl (by omega) had') rfl ?_; refine tl_q (y_load1o rfl (fun w' hw' => hcell w' (hw'.fr (by simp)) (Int.toNat k * 1) (by omega))) rfl ?_; refine tl_e (e_callVf rfl rfl (.cons rfl .nil) (fun w' hw' => ht _ w' (hw'.fr (by simp)))) rfl (fun _ _ => ?_); refine tl_nil ?_; ((refine hK8 ?_; try (clear hK8; clear K8)))
        all_goals (
         refine tc_cond rfl (fun hc => ?_) (fun hc => ?_)
         · all_goals (skip)
           all_goals refine tc_seq fun K9 hK9 => ?_; refine tc_region ?_; refine tl_q (y_move rfl) rfl ?_; refine tl_q (y_assign rfl) rfl ?_; refine tl_nil ?_; ((refine hK9 ?_; try (clear hK9; clear K9)))
           all_goals refine tc_ret ?_; (repeat (first | refine tk_then_ret ?_ | refine tk_block_ret ?_))
           all_goals (refine tk_ret rfl rfl (.cons (.tmp rfl) .nil) ?_)
           all_goals (
            first | exact fun w' hw' => ⟨by rw [idxF_hit (k := k) (by omega) (by simpa using hc) hj]; rfl, hw'.fr (by simp)⟩ | exact fun w' hw' => ⟨by rw [idxF_miss (fun j hjj => hj j (by omega))]; rfl, hw'.fr (by simp)⟩)
         · all_goals (skip)
           all_goals refine tc_skip ?_; ((refine hK6 ?_; try (clear hK6; clear K6)))
           all_goals refine tc_region ?_; refine tl_q (y_add rfl rfl (by omega)) rfl ?_; refine tl_q (y_move rfl) rfl ?_; refine tl_nil ?_
           all_goals (
            exact tk_round (k + 1) ⟨by omega, fun j hj' => by rcases Nat.lt_succ_iff_lt_or_eq.1 hj' with h | rfl; exact hj j h; simpa using hc⟩ (by omega) (.cons rfl (.cons rfl (.cons rfl (.cons rfl .nil)))) (fun _ h => h)))
      · try simp only [qn1, qn2, qn3, qn4, qn5, qn6, qn7, qn8] at hc
        all_goals refine tc_exit ?_; ((refine hK2 ?_; try (clear hK2; clear K2)))
        all_goals refine tc_seq fun K10 hK10 => ?_; refine tc_region ?_; refine tl_q (y_assign rfl) rfl ?_; refine tl_nil ?_; ((refine hK10 ?_; try (clear hK10; clear K10)))
        all_goals refine tc_ret ?_; (repeat (first | refine tk_then_ret ?_))
        all_goals (refine tk_ret rfl rfl (.cons (.tmp rfl) .nil) ?_)
        all_goals (
         first | exact fun w' hw' => ⟨by rw [idxF_hit (k := k) (by omega) (by simpa using hc) hj]; rfl, hw'.fr (by simp)⟩ | exact fun w' hw' => ⟨by rw [idxF_miss (fun j hjj => hj j (by omega))]; rfl, hw'.fr (by simp)⟩)))
theorem containsFunc_c (g : FuncId) [GoFn Tryz.prog g] (first cap : Array Value) (p : Int → Bool) (xs : List Int) (hx : (xs.length : Int) ≤ 9000000000000000000) (sl : Value) (w : World) (hr : RdI w sl xs) (ht : Tests Tryz.prog g first cap p w) :
    CnV Tryz.prog 92 #[sl, .func (.func g) first cap] w (.bool (xs.any p)) := by
  refine cnv (vs := [_, _]) Tryz.func92 rfl rfl ?_
  all_goals refine tc_seq fun K1 hK1 => ?_; refine tc_region ?_; refine tl_q (y_assign rfl) rfl ?_; refine tl_nil ?_; ((refine hK1 ?_; try (clear hK1; clear K1)))
  all_goals refine tc_seq fun K2 hK2 => ?_; refine tc_region ?_; refine tl_q (y_move rfl) rfl ?_; refine tl_q (y_move rfl) rfl ?_; refine tl_e (e_callV rfl (.cons rfl (.cons rfl .nil)) (fun w' hw' => indexFunc_c g first cap p xs hx _ w' (hr.fr (hw'.fr (by simp))) (ht.fr (hw'.fr (by simp))))) rfl (fun _ _ => ?_); refine tl_q (y_geq rfl rfl) rfl ?_; refine tl_q (y_assign rfl) rfl ?_; refine tl_nil ?_; ((refine hK2 ?_; try (clear hK2; clear K2)))
  all_goals refine tc_ret ?_; (repeat (first | refine tk_then_ret ?_))
  all_goals (refine tk_ret rfl rfl (.cons (.tmp rfl) .nil) ?_)
  all_goals (
   exact fun w' hw' => ⟨by rw [← idxF_any]; rfl, hw'.fr (by simp)⟩)
/-- The function literal in 'all': it turns the answer round. -/
theorem all1_c (g : FuncId) [GoFn Tryz.prog g] (first cap : Array Value) (p : Int → Bool) (x : Int) (b : Nat) (w : World) (hb : w.cell? ⟨b, 0, none⟩ = some (.func (.func g) first cap)) (ht : Tests Tryz.prog g first cap p w) :
    CnV Tryz.prog 157 #[vi x, .pointer (some ⟨b, 0, none⟩)] w (.bool (!(p x))) := by
  refine cnv (vs := [_, _]) Tryz.func157 rfl rfl ?_
  all_goals refine tc_seq fun K1 hK1 => ?_; refine tc_region ?_; refine tl_q (y_assign rfl) rfl ?_; refine tl_nil ?_; ((refine hK1 ?_; try (clear hK1; clear K1)))
  all_goals refine tc_seq fun K2 hK2 => ?_; refine tc_region ?_; refine tl_q (y_load1o rfl (fun w' hw' => (hw'.fr (S := []) (w0 := w) (by simp)).cell (by simp) hb)) rfl ?_; refine tl_q (y_move rfl) rfl ?_; refine tl_e (e_callVf rfl rfl (.cons rfl .nil) (fun w' hw' => ht _ w' (hw'.fr (by simp)))) rfl (fun _ _ => ?_); refine tl_q (y_not rfl) rfl ?_; refine tl_q (y_assign rfl) rfl ?_; refine tl_nil ?_; ((refine hK2 ?_; try (clear hK2; clear K2)))
  all_goals refine tc_ret ?_; (repeat (first | refine tk_then_ret ?_))
  all_goals (refine tk_ret rfl rfl (.cons (.tmp rfl) .nil) ?_)
  all_goals (
   exact fun w' hw' => ⟨rfl, hw'.fr (by simp)⟩)
theorem all_c (g : FuncId) [GoFn Tryz.prog g] (first cap : Array Value) (p : Int → Bool) (xs : List Int) (hx : (xs.length : Int) ≤ 9000000000000000000) (sl : Value) (w : World) (hr : RdI w sl xs) (ht : Tests Tryz.prog g first cap p w) :
    CnV Tryz.prog 121 #[sl, .func (.func g) first cap] w (.bool (xs.all p)) := by
  refine cnv (vs := [_, _]) Tryz.func121 rfl rfl ?_
  all_goals refine tc_seq fun K1 hK1 => ?_; refine tc_region ?_; refine tl_e (e_box rfl rfl rfl) rfl (fun b _ => ?_); refine tl_q (y_assign rfl) rfl ?_; refine tl_nil ?_; ((refine hK1 ?_; try (clear hK1; clear K1)))
  all_goals refine tc_seq fun K2 hK2 => ?_; refine tc_region ?_; refine tl_q (y_move rfl) rfl ?_; refine tl_q (y_fn .nil (.cons rfl .nil)) rfl ?_; refine tl_e (e_callV rfl (.cons rfl (.cons rfl .nil)) (fun w' hw' => containsFunc_c 157 #[] #[.pointer (some ⟨b, 0, none⟩)] (fun x => !(p x)) xs hx _ w' (hr.fr (hw'.fr (by simp))) (fun x w2 f => by simpa using all1_c g first cap p x b w2 (f.cell (by simp) (cellAt_cell? (hw'.heap _ (HM.mem (by repeat constructor))) rfl)) ((ht.fr (hw'.fr (by simp))).fr f)))) rfl (fun _ _ => ?_); refine tl_q (y_not rfl) rfl ?_; refine tl_q (y_assign rfl) rfl ?_; refine tl_nil ?_; ((refine hK2 ?_; try (clear hK2; clear K2)))
  all_goals refine tc_ret ?_; (repeat (first | refine tk_then_ret ?_))
  all_goals (refine tk_ret rfl rfl (.cons (.tmp rfl) .nil) ?_)
  all_goals (
   exact fun w' hw' => ⟨by simp [outV, List.all_eq_not_any_not], hw'.fr (by simp)⟩)
theorem weight_c (x : Int) (w : World) : CnV Tryz.prog 120 #[vi x] w (.bool (decide (1 ≤ x ∧ x ≤ 1000))) := by
  refine cnv (vs := [_]) Tryz.func120 rfl rfl ?_
  all_goals refine tc_seq fun K1 hK1 => ?_; refine tc_region ?_; refine tl_q (y_assign rfl) rfl ?_; refine tl_nil ?_; ((refine hK1 ?_; try (clear hK1; clear K1)))
  all_goals refine tc_seq fun K2 hK2 => ?_; refine tc_region ?_; refine tl_q (y_move rfl) rfl ?_; refine tl_e (e_callV rfl (.cons rfl (.cons rfl (.cons rfl .nil))) (fun w hw => within_c _ _ _ w)) rfl (fun _ _ => ?_); refine tl_q (y_assign rfl) rfl ?_; refine tl_nil ?_; ((refine hK2 ?_; try (clear hK2; clear K2)))
  all_goals refine tc_ret ?_; (repeat (first | refine tk_then_ret ?_))
  all_goals (refine tk_ret rfl rfl (.cons (.tmp rfl) .nil) ?_)
  all_goals (
   exact fun w' hw' => ⟨rfl, hw'.fr (by simp)⟩)
def okW (s : Sn) : Bool := s.weights.all fun x => decide (1 ≤ x ∧ x ≤ 1000)
def Ok1 (s : Sn) : Prop := (1 ≤ s.mass ∧ s.mass ≤ 5000) ∧ (1 ≤ s.volume ∧ s.volume ≤ 5000) ∧ (1 ≤ s.step ∧ s.step ≤ 100) ∧ (1 ≤ s.divisions ∧ s.divisions ≤ 20) ∧ (1 ≤ s.width ∧ s.width ≤ s.step) ∧ s.step ≤ 2 * s.width ∧ okW s = true
instance (s : Sn) : Decidable (Ok1 s) := by unfold Ok1; infer_instance
/-- The error of a spindle. -/
def chkF (s : Sn) : Int := if 6 < s.weights.length then 3 else if Ok1 s then 0 else 1
theorem chk3 {s : Sn} (h : 6 < (s.weights.length : Int)) : chkF s = 3 := by unfold chkF; rw [if_pos (by omega)]
theorem chk1 {s : Sn} (h : (s.weights.length : Int) ≤ 6) (h1 : ¬ Ok1 s) : chkF s = 1 := by unfold chkF; rw [if_neg (by omega), if_neg h1]
theorem chk0 {s : Sn} (h : (s.weights.length : Int) ≤ 6) (h1 : Ok1 s) : chkF s = 0 := by unfold chkF; rw [if_neg (by omega), if_pos h1]
theorem chkF_valid {s : Sn} : chkF s = 0 ↔ VS s := by
  unfold chkF
  constructor
  · intro h
    split at h
    · cases h
    · split at h
      · rename_i h1 h2
        obtain ⟨⟨a1, a2⟩, ⟨b1, b2⟩, ⟨c1, c2⟩, ⟨d1, d2⟩, ⟨e1, e2⟩, f, g⟩ := h2
        refine ⟨a1, a2, b1, b2, c1, c2, d1, d2, e1, e2, f, by omega, fun x hx => ?_⟩
        have := List.all_eq_true.1 g x hx
        simpa using this
      · cases h
  · intro h
    rw [if_neg (by have := h.n; omega), if_pos]
    exact ⟨⟨h.m1, h.m2⟩, ⟨h.v1, h.v2⟩, ⟨h.s1, h.s2⟩, ⟨h.d1, h.d2⟩, ⟨h.w1, h.w2⟩, h.w3, List.all_eq_true.2 fun x hx => by simpa using h.ws x hx⟩
theorem chk_c (s : Sn) (hn : (s.weights.length : Int) ≤ 9000000000000000000) (sl : Value) (w : World) (hr : RdI w sl s.weights) : CnV Tryz.prog 68 #[spV s sl] w (vi (chkF s)) := by
  obtain ⟨ad, cp, b0, o, rfl, had, hcell⟩ := hr.open
  refine cnv (vs := [_]) Tryz.func68 rfl rfl ?_
  all_goals refine tc_seq fun K1 hK1 => ?_; refine tc_region ?_; refine tl_e (e_box rfl rfl rfl) rfl (fun _ _ => ?_); refine tl_q (y_assign rfl) rfl ?_; refine tl_nil ?_; ((refine hK1 ?_; try (clear hK1; clear K1)))
  all_goals refine tc_seq fun K2 hK2 => ?_; refine tc_region ?_; refine tl_q (y_assign rfl) rfl ?_; refine tl_nil ?_; ((refine hK2 ?_; try (clear hK2; clear K2)))
  all_goals refine tc_seq fun K3 hK3 => ?_; refine tc_block ?_; refine tc_seq fun K4 hK4 => ?_; refine tc_region ?_; refine tl_q (y_field rfl) rfl ?_; refine tl_q (y_load1 rfl (by repeat constructor) (by rfl)) rfl ?_; refine tl_q (y_len rfl) rfl ?_; refine tl_q (y_gtr rfl rfl) rfl ?_; refine tl_q (y_assign rfl) rfl ?_; refine tl_nil ?_; ((refine hK4 ?_; try (clear hK4; clear K4)))
  all_goals (
   refine tc_cond rfl (fun hc => ?_) (fun hc => ?_)
   · try simp only [qn1, qn2, qn3, qn4, qn5, qn6, qn7, qn8] at hc
     all_goals refine tc_seq fun K5 hK5 => ?_; refine tc_region ?_; refine tl_q (y_assign rfl) rfl ?_; refine tl_nil ?_; ((refine hK5 ?_; try (clear hK5; clear K5)))
     all_goals refine tc_ret ?_; (repeat (first | refine tk_then_ret ?_ | refine tk_block_ret ?_))
     all_goals (refine tk_ret rfl rfl (.cons (.tmp rfl) .nil) ?_)
     all_goals (
      first | exact fun w' hw' => ⟨congrArg (fun n => Ending.returned (vi n)) (chk3 (by omega)).symm, hw'.fr (by simp)⟩ | exact fun w' hw' => ⟨congrArg (fun n => Ending.returned (vi n)) (chk0 (by omega) ⟨by omega, by omega, by omega, by omega, by omega, by omega, hc⟩).symm, hw'.fr (by simp)⟩ | exact fun w' hw' => ⟨congrArg (fun n => Ending.returned (vi n)) (chk1 (by omega) (fun h => by obtain ⟨h1, h2, h3, h4, h5, h6, h7⟩ := h; first | omega | (rw [show okW s = false from hc] at h7; cases h7))).symm, hw'.fr (by simp)⟩)
   · try simp only [qn1, qn2, qn3, qn4, qn5, qn6, qn7, qn8] at hc
     all_goals refine tc_seq fun K6 hK6 => ?_; refine tc_region ?_; refine tl_q (y_field rfl) rfl ?_; refine tl_q (y_load1 rfl (by repeat constructor) (by rfl)) rfl ?_; refine tl_e (e_callV rfl (.cons rfl (.cons rfl (.cons rfl .nil))) (fun w hw => within_c _ _ _ w)) rfl (fun _ _ => ?_); refine tl_q (y_not_dec rfl) rfl ?_; refine tl_q (y_move rfl) rfl ?_; ((refine tl_gs rfl rfl (fun hc => ?_) (fun hc => ?_) <;> (try simp only [qn1, qn2, qn3, qn4, qn5, qn6, qn7, qn8] at hc) <;> (first | refine tl_sk rfl rfl rfl rfl ?_ | refine tl_qg rfl rfl (y_field rfl) rfl ?_)))
     all_goals (first | refine tl_sk rfl rfl rfl rfl ?_ | refine tl_qg rfl rfl (y_load1 rfl (by repeat constructor) (by rfl)) rfl ?_); (first | refine tl_sk rfl rfl rfl rfl ?_ | refine tl_eg rfl rfl rfl (e_callV rfl (.cons rfl (.cons rfl (.cons rfl .nil))) (fun w hw => within_c _ _ _ w)) (fun _ _ => ?_)); (first | refine tl_sk rfl rfl rfl rfl ?_ | refine tl_qg rfl rfl (y_not_dec rfl) rfl ?_); (first | refine tl_q (y_pick_t rfl rfl) rfl ?_ | refine tl_q (y_pick_f rfl rfl) rfl ?_); refine tl_q (y_move rfl) rfl ?_; ((first | refine tl_sk rfl rfl rfl rfl ?_ | (refine tl_gs rfl rfl (fun hc => ?_) (fun hc => ?_) <;> (try simp only [qn1, qn2, qn3, qn4, qn5, qn6, qn7, qn8] at hc) <;> (first | refine tl_sk rfl rfl rfl rfl ?_ | refine tl_qg rfl rfl (y_field rfl) rfl ?_))))
     all_goals (first | refine tl_sk rfl rfl rfl rfl ?_ | refine tl_qg rfl rfl (y_load1 rfl (by repeat constructor) (by rfl)) rfl ?_); (first | refine tl_sk rfl rfl rfl rfl ?_ | refine tl_eg rfl rfl rfl (e_callV rfl (.cons rfl (.cons rfl (.cons rfl .nil))) (fun w hw => within_c _ _ _ w)) (fun _ _ => ?_)); (first | refine tl_sk rfl rfl rfl rfl ?_ | refine tl_qg rfl rfl (y_not_dec rfl) rfl ?_); (first | refine tl_q (y_pick_t rfl rfl) rfl ?_ | refine tl_q (y_pick_f rfl rfl) rfl ?_); refine tl_q (y_move rfl) rfl ?_; ((first | refine tl_sk rfl rfl rfl rfl ?_ | (refine tl_gs rfl rfl (fun hc => ?_) (fun hc => ?_) <;> (try simp only [qn1, qn2, qn3, qn4, qn5, qn6, qn7, qn8] at hc) <;> (first | refine tl_sk rfl rfl rfl rfl ?_ | refine tl_qg rfl rfl (y_field rfl) rfl ?_))))
     all_goals (first | refine tl_sk rfl rfl rfl rfl ?_ | refine tl_qg rfl rfl (y_load1 rfl (by repeat constructor) (by rfl)) rfl ?_); (first | refine tl_sk rfl rfl rfl rfl ?_ | refine tl_eg rfl rfl rfl (e_callV rfl (.cons rfl (.cons rfl (.cons rfl .nil))) (fun w hw => within_c _ _ _ w)) (fun _ _ => ?_)); (first | refine tl_sk rfl rfl rfl rfl ?_ | refine tl_qg rfl rfl (y_not_dec rfl) rfl ?_); (first | refine tl_q (y_pick_t rfl rfl) rfl ?_ | refine tl_q (y_pick_f rfl rfl) rfl ?_); refine tl_q (y_move rfl) rfl ?_; ((first | refine tl_sk rfl rfl rfl rfl ?_ | (refine tl_gs rfl rfl (fun hc => ?_) (fun hc => ?_) <;> (try simp only [qn1, qn2, qn3, qn4, qn5, qn6, qn7, qn8] at hc) <;> (first | refine tl_sk rfl rfl rfl rfl ?_ | refine tl_qg rfl rfl (y_field rfl) rfl ?_))))
     all_goals (first | refine tl_sk rfl rfl rfl rfl ?_ | refine tl_qg rfl rfl (y_load1 rfl (by repeat constructor) (by rfl)) rfl ?_); (first | refine tl_sk rfl rfl rfl rfl ?_ | refine tl_qg rfl rfl (y_field rfl) rfl ?_); (first | refine tl_sk rfl rfl rfl rfl ?_ | refine tl_qg rfl rfl (y_load1 rfl (by repeat constructor) (by rfl)) rfl ?_); (first | refine tl_sk rfl rfl rfl rfl ?_ | refine tl_eg rfl rfl rfl (e_callV rfl (.cons rfl (.cons rfl (.cons rfl .nil))) (fun w hw => within_c _ _ _ w)) (fun _ _ => ?_)); (first | refine tl_sk rfl rfl rfl rfl ?_ | refine tl_qg rfl rfl (y_not_dec rfl) rfl ?_); (first | refine tl_q (y_pick_t rfl rfl) rfl ?_ | refine tl_q (y_pick_f rfl rfl) rfl ?_); refine tl_q (y_move rfl) rfl ?_; ((first | refine tl_sk rfl rfl rfl rfl ?_ | (refine tl_gs rfl rfl (fun hc => ?_) (fun hc => ?_) <;> (try simp only [qn1, qn2, qn3, qn4, qn5, qn6, qn7, qn8] at hc) <;> (first | refine tl_sk rfl rfl rfl rfl ?_ | refine tl_qg rfl rfl (y_field rfl) rfl ?_))))
     all_goals (first | refine tl_sk rfl rfl rfl rfl ?_ | refine tl_qg rfl rfl (y_load1 rfl (by repeat constructor) (by rfl)) rfl ?_); (first | refine tl_sk rfl rfl rfl rfl ?_ | refine tl_qg rfl rfl (y_mul rfl rfl (by omega)) rfl ?_); (first | refine tl_sk rfl rfl rfl rfl ?_ | refine tl_qg rfl rfl (y_field rfl) rfl ?_); (first | refine tl_sk rfl rfl rfl rfl ?_ | refine tl_qg rfl rfl (y_load1 rfl (by repeat constructor) (by rfl)) rfl ?_); (first | refine tl_sk rfl rfl rfl rfl ?_ | refine tl_qg rfl rfl (y_lss rfl rfl) rfl ?_); (first | refine tl_q (y_pick_t rfl rfl) rfl ?_ | refine tl_q (y_pick_f rfl rfl) rfl ?_); refine tl_q (y_move rfl) rfl ?_; ((first | refine tl_sk rfl rfl rfl rfl ?_ | (refine tl_gs rfl rfl (fun hc => ?_) (fun hc => ?_) <;> (try simp only [qn1, qn2, qn3, qn4, qn5, qn6, qn7, qn8] at hc) <;> (first | refine tl_sk rfl rfl rfl rfl ?_ | refine tl_qg rfl rfl (y_field rfl) rfl ?_))))
     all_goals (first | refine tl_sk rfl rfl rfl rfl ?_ | refine tl_qg rfl rfl (y_load1 rfl (by repeat constructor) (by rfl)) rfl ?_); (first | refine tl_sk rfl rfl rfl rfl ?_ | refine tl_qg rfl rfl (y_move rfl) rfl ?_); (first | refine tl_sk rfl rfl rfl rfl ?_ | refine tl_eg rfl rfl rfl (e_callV rfl (.cons rfl (.cons rfl .nil)) (fun w' hw' => all_c 120 #[] #[] (fun x => decide (1 ≤ x ∧ x ≤ 1000)) s.weights hn _ w' (hr.fr (hw'.fr (by simp))) (fun x w2 f => by simpa using weight_c x w2))) (fun _ _ => ?_)); (first | refine tl_sk rfl rfl rfl rfl ?_ | refine tl_qg rfl rfl (y_not rfl) rfl ?_); (first | refine tl_q (y_pick_t rfl rfl) rfl ?_ | refine tl_q (y_pick_f rfl rfl) rfl ?_); refine tl_q (y_assign rfl) rfl ?_; refine tl_nil ?_; ((refine hK6 ?_; try (clear hK6; clear K6)))
     all_goals (
      refine tc_cond rfl (fun hc => ?_) (fun hc => ?_)
      · try simp only [qn1, qn2, qn3, qn4, qn5, qn6, qn7, qn8] at hc
        all_goals refine tc_seq fun K7 hK7 => ?_; refine tc_region ?_; refine tl_q (y_assign rfl) rfl ?_; refine tl_nil ?_; ((refine hK7 ?_; try (clear hK7; clear K7)))
        all_goals refine tc_ret ?_; (repeat (first | refine tk_then_ret ?_ | refine tk_block_ret ?_))
        all_goals (refine tk_ret rfl rfl (.cons (.tmp rfl) .nil) ?_)
        all_goals (
         first | exact fun w' hw' => ⟨congrArg (fun n => Ending.returned (vi n)) (chk3 (by omega)).symm, hw'.fr (by simp)⟩ | exact fun w' hw' => ⟨congrArg (fun n => Ending.returned (vi n)) (chk0 (by omega) ⟨by omega, by omega, by omega, by omega, by omega, by omega, hc⟩).symm, hw'.fr (by simp)⟩ | exact fun w' hw' => ⟨congrArg (fun n => Ending.returned (vi n)) (chk1 (by omega) (fun h => by obtain ⟨h1, h2, h3, h4, h5, h6, h7⟩ := h; first | omega | (rw [show okW s = false from hc] at h7; cases h7))).symm, hw'.fr (by simp)⟩)
      · try simp only [qn1, qn2, qn3, qn4, qn5, qn6, qn7, qn8] at hc
        all_goals ((first | (exfalso; with_reducible exact btf hc) | skip))
        all_goals refine tc_skip ?_; ((refine hK3 ?_; try (clear hK3; clear K3)))
        all_goals refine tc_seq fun K8 hK8 => ?_; refine tc_region ?_; refine tl_q (y_assign rfl) rfl ?_; refine tl_nil ?_; ((refine hK8 ?_; try (clear hK8; clear K8)))
        all_goals refine tc_ret ?_; (repeat (first | refine tk_then_ret ?_))
        all_goals (refine tk_ret rfl rfl (.cons (.tmp rfl) .nil) ?_)
        all_goals (
         first | exact fun w' hw' => ⟨congrArg (fun n => Ending.returned (vi n)) (chk3 (by omega)).symm, hw'.fr (by simp)⟩ | exact fun w' hw' => ⟨congrArg (fun n => Ending.returned (vi n)) (chk0 (by omega) ⟨by omega, by omega, by omega, by omega, by omega, by omega, hc⟩).symm, hw'.fr (by simp)⟩ | exact fun w' hw' => ⟨congrArg (fun n => Ending.returned (vi n)) (chk1 (by omega) (fun h => by obtain ⟨h1, h2, h3, h4, h5, h6, h7⟩ := h; first | omega | (rw [show okW s = false from hc] at h7; cases h7))).symm, hw'.fr (by simp)⟩)))
end Go.Sp
/-
  A spindle at work: what a reading means, what floats, what is seen.
-/
namespace Go.Sp
open Go Go.Proofs
abbrev rV (r : Int × Int) : Value := .agg #[vi r.1, vi r.2]
abbrev ptr (b : Nat) : Value := .pointer (some ⟨b, 0, none⟩)
def meetF (a b : Int × Int) : Int × Int := (max a.1 b.1, min a.2 b.2)
/-- The densities that fit a reading. -/
def meanF (s : Sn) (k : Int) (seen : Int) : Int × Int :=
  if seen = -1 then meetF (1, 2000) (1, fromF (massF s k) (s.volume + s.divisions * s.step) - 1)
  else if seen = -2 then meetF (1, 2000) (belowF (massF s k) s.volume + 1, 2000)
  else if s.width < s.volume + seen * s.step then meetF (meetF (floF s k) (fromF (massF s k) (s.volume + seen * s.step + s.width), 2000)) (1, belowF (massF s k) (s.volume + seen * s.step - s.width))
  else meetF (floF s k) (fromF (massF s k) (s.volume + seen * s.step + s.width), 2000)
def meanV (s : Sn) (a b : Int) : Value := rV (meanF s a b)
/-- The block of a spindle at work. -/
abbrev wkO (s : Sn) (sl : Value) (bm : Nat) : Obj := .cells #[vi s.mass, vi s.volume, vi s.step, vi s.divisions, vi s.width, sl, .map (some bm)] 199 (0, 0)
theorem RdI.frM {w w' : World} {sl : Value} {xs : List Int} {bm : Nat} {es : Array MapEntry} {ck : Nat} {S : List Nat} (h : RdI w sl xs) (f : Fr S w w') (hS : ∀ x ∈ S, ∃ es ck, w.heap[x]? = some (.map es ck)) : RdI w' sl xs := by
  obtain ⟨h1, ad, cap, h2, h3⟩ := h
  refine ⟨h1, ad, cap, h2, fun hn => ?_⟩
  obtain ⟨b, o, h4, h5⟩ := h3 hn
  refine ⟨b, o, h4, ?_⟩
  clear h1 h2 h3 h4 hn
  generalize xs.map vi = vs at h5
  generalize xs.length * 1 = n at h5
  induction h5 with
  | nil => exact .nil
  | @cons o n v vs hv _ ih =>
    refine .cons (f.cell (p := ⟨b, o, none⟩) (fun hb => ?_) hv) ih
    obtain ⟨es, ck, he⟩ := hS b hb
    simp [World.cell?, he] at hv
theorem dv_bd {s : Sn} (h : VS s) {n : Int} (h0 : 0 ≤ n) (h1 : n ≤ s.divisions) : 0 ≤ n * s.step ∧ n * s.step ≤ 2000 := by
  have := h.s1; have := h.s2; have := h.d1; have := h.d2
  constructor
  · exact Int.mul_nonneg h0 (by omega)
  · have := Int.mul_le_mul (a := n) (c := 20) (b := s.step) (d := 100) (by omega) (by omega) (by omega) (by omega); omega
theorem from_bd {m v : Int} (h1 : 1 ≤ m) (h2 : m ≤ 6000) (h3 : 1 ≤ v) : 1 ≤ fromF m v ∧ fromF m v ≤ 6000000 := by
  unfold fromF
  constructor
  · exact Int.le_ediv_of_mul_le (by omega) (by omega)
  · have : (1000 * m + v - 1) / v ≤ (1000 * m * v) / v := Int.ediv_le_ediv (by omega) (by
      have := Int.mul_le_mul (a := 1000 * m - 1) (c := 1000 * m - 1) (b := 1) (d := v) (by omega) (by omega) (by omega) (by omega)
      have e : 1000 * m * v = (1000 * m - 1) * v + v := by rw [Int.sub_mul]; omega
      omega)
    rw [Int.mul_ediv_cancel _ (by omega)] at this
    omega
theorem below_bd {m v : Int} (h1 : 1 ≤ m) (h2 : m ≤ 6000) (h3 : 1 ≤ v) : 0 ≤ belowF m v ∧ belowF m v ≤ 6000000 := by
  unfold belowF
  constructor
  · exact Int.ediv_nonneg (by omega) (by omega)
  · have := Int.ediv_le_self (a := 1000 * m) v (by omega); omega
theorem work_c (s : Sn) (sl : Value) (hsl : sl.oneCell' = true) (w : World) : CnX Tryz.prog 102 #[spV s sl] w [] (fun x : Nat × Nat => ptr x.1)
    (fun x w' => True ∧ (∀ q ∈ [(x.1, wkO s sl x.2), (x.2, .map #[] 0)], w.heap.size ≤ q.1 ∧ w'.heap[q.1]? = some q.2) ∧ (([(x.1, wkO s sl x.2), (x.2, .map #[] 0)] : List (Nat × Obj)).map Prod.fst).Nodup) := by
  refine cnx0 (vs := [_]) Tryz.func102 rfl rfl ?_
  all_goals refine tc_seq fun K1 hK1 => ?_; refine tc_region ?_; refine tl_e (e_box rfl rfl rfl) rfl (fun _ _ => ?_); refine tl_q (y_assign rfl) rfl ?_; refine tl_nil ?_; ((refine hK1 ?_; try (clear hK1; clear K1)))
  all_goals refine tc_seq fun K2 hK2 => ?_; refine tc_region ?_; refine tl_q (y_loadW rfl (by repeat constructor) (by rfl)) rfl ?_; refine tl_e (e_makeMap rfl) rfl (fun bm _ => ?_); refine tl_q (y_build_w rfl rfl rfl) rfl ?_; refine tl_e (e_box rfl rfl rfl) rfl (fun bw _ => ?_); refine tl_q (y_assign rfl) rfl ?_; refine tl_nil ?_; ((refine hK2 ?_; try (clear hK2; clear K2)))
  all_goals refine tc_ret ?_; (repeat (first | refine tk_then_ret ?_))
  all_goals (refine tk_ret rfl rfl (.cons (.tmp rfl) .nil) ?_)
  all_goals (
   exact fun w' hw' => ⟨(bw, bm), rfl, hw'.fr (by simp), trivial, fun q hq => by
       simp only [List.mem_cons, List.not_mem_nil, or_false] at hq
       have hn := hw'.own
       have hh := hw'.heap
       rcases hq with rfl | rfl
       · exact ⟨by simpa using hn _ (HM.mem (b := bw) (o := wkO s sl bm) (by repeat constructor)) _ List.mem_cons_self, hh _ (HM.mem (by repeat constructor))⟩
       · exact ⟨by simpa using hn _ (HM.mem (b := bm) (o := .map #[] 0) (by repeat constructor)) _ List.mem_cons_self, hh _ (HM.mem (by repeat constructor))⟩, by
       have := hw'.nodup
       simp only [List.map_cons, List.nodup_cons, List.mem_cons, not_or] at this
       simp only [List.map_cons, List.map_nil, List.nodup_cons, List.mem_singleton]
       simp
       exact this.1.1⟩)
theorem mean_c (s : Sn) (hs : VS s) (k seen : Int) (h0 : 0 ≤ k) (h1 : k ≤ s.weights.length) (h2 : -2 ≤ seen) (h3 : seen ≤ s.divisions) (sl : Value) (hsl : sl.oneCell' = true) (w : World) (hr : RdI w sl s.weights) (bw bm : Nat) (es : Array MapEntry) (ck : Nat)
    (hbw : w.heap[bw]? = some (wkO s sl bm)) (hbm : w.heap[bm]? = some (.map es ck)) (hc0 : Cache (meanV s) es.toList) :
    CnX Tryz.prog 103 #[ptr bw, .agg #[vi k, vi seen]] w [bm] (fun _ : Array MapEntry × Nat => rV (meanF s k seen)) (fun x w' => Cache (meanV s) x.1.toList ∧ w'.heap[bm]? = some (.map x.1 x.2)) := by
  have hne : bw ≠ bm := by rintro rfl; rw [hbw] at hbm; simp at hbm
  have hbd := massF_bd hs h0 h1
  have hds := ds_bd hs
  have hv1 := hs.v1
  have hv2 := hs.v2
  have hw1 := hs.w1
  have hw2 := hs.w2
  have hs1 := hs.s1
  have hs2 := hs.s2
  have hfb := from_bd hbd.1 hbd.2 (v := s.volume + s.divisions * s.step) (by omega)
  have hbb := below_bd hbd.1 hbd.2 hv1
  have hrM : ∀ w', Fr [bw, bm] w w' → w'.heap[bw]? = some (wkO s sl bm) → RdI w' sl s.weights := fun w' f hb => by
    refine RdI.frM (bm := bm) (es := es) (ck := ck) (S := [bm]) hr (Fr.but f (by rw [hb, hbw])) (fun x hx => ?_)
    obtain rfl : x = bm := by simpa using hx
    exact ⟨es, ck, hbm⟩
  cases hh : hasL es.toList k seen
  all_goals refine cnxS (vs := [_, _]) (S := [bw, bm]) [(bw, wkO s sl bm), (bm, .map es ck)] Tryz.func103 rfl rfl ⟨by simp [hbw, hbm], by simp [hne], by simp⟩ ?_; refine tc_seq fun K1 hK1 => ?_; refine tc_region ?_; refine tl_e (e_box rfl rfl rfl) rfl (fun _ _ => ?_); refine tl_e (e_allocN rfl) rfl (fun _ _ => ?_); refine tl_nil ?_; ((refine hK1 ?_; try (clear hK1; clear K1)))
  all_goals refine tc_seq fun K2 hK2 => ?_; refine tc_draw (by kernel_rfl) ?_; refine tx_p 0 rfl (by kernel_rfl) (y_move rfl) rfl (fun _ _ _ h => h) (fun _ h => h) ?_; refine tx_p 1 rfl (by kernel_rfl) (y_nil rfl) rfl (fun _ _ _ h => h) (fun _ h => h) ?_; refine tx_p 2 rfl (by kernel_rfl) (y_field rfl) rfl (fun _ _ _ h => h) (fun _ h => h) ?_; refine tx_q 3 rfl (by kernel_rfl) (y_load1 rfl (by repeat constructor) (by rfl)) rfl (fun _ _ _ h => h) (fun _ h => h) ?_; refine tx_q 4 rfl (by kernel_rfl) (y_loadW rfl (by repeat constructor) (by rfl)) rfl (fun _ _ _ h => h) (fun _ h => h) ?_; (first | refine tx_q 5 rfl (by kernel_rfl) (y_lookup_hit hh rfl rfl (by repeat constructor) hc0) rfl (fun _ _ _ h => h) (fun _ h => h) ?_ | refine tx_q 5 rfl (by kernel_rfl) (y_lookup_miss hh rfl rfl (by repeat constructor) hc0) rfl (fun _ _ _ h => h) (fun _ h => h) ?_); refine tx_p 6 rfl (by kernel_rfl) (y_move rfl) rfl (fun _ _ _ h => h) (fun _ h => h) ?_; refine tx_p 7 rfl (by kernel_rfl) (y_extract rfl rfl) rfl (fun _ _ _ h => h) (fun _ h => h) ?_; refine tx_p 8 rfl (by kernel_rfl) (y_extract rfl rfl) rfl (fun _ _ _ h => h) (fun _ h => h) ?_; refine tx_e 9 rfl (by kernel_rfl) rfl (e_allocN rfl) (.inr qq1) (fun _ _ => ?_); refine tx_e 10 rfl (by kernel_rfl) rfl (e_storeW rfl rfl (by repeat constructor) (by rfl) (by rfl) (by simp [Value.oneCell'])) (.inl (by kernel_rfl)) (fun _ _ => ?_); refine tx_p 11 rfl (by kernel_rfl) (y_assign rfl) rfl (fun _ _ _ h => h) (fun _ h => h) ?_; refine tx_done (by kernel_rfl) ?_; ((refine hK2 ?_; try (clear hK2; clear K2)))
  all_goals refine tc_seq fun K3 hK3 => ?_; refine tc_seq fun K4 hK4 => ?_; refine tc_region ?_; refine tl_q (y_move rfl) rfl ?_; refine tl_nil ?_; ((refine hK4 ?_; try (clear hK4; clear K4)))
  all_goals (
   refine tc_cond rfl (fun hc => ?_) (fun hc => ?_)
   · try simp only [qn1, qn2, qn3, qn4, qn5, qn6, qn7, qn8] at hc
     all_goals ((first | (exfalso; with_reducible exact bft hc) | skip))
     all_goals refine tc_seq fun K5 hK5 => ?_; refine tc_region ?_; refine tl_q (y_loadW rfl (by repeat constructor) (by rfl)) rfl ?_; refine tl_e (e_storeW rfl rfl (by repeat constructor) (by rfl) (by rfl) (by simp [Value.oneCell'])) rfl (fun _ _ => ?_); refine tl_nil ?_; ((refine hK5 ?_; try (clear hK5; clear K5)))
     all_goals refine tc_ret ?_; (repeat (refine tk_then_ret ?_))
     all_goals (refine tk_ret rfl rfl (.cons (.agg inferInstance rfl (by repeat constructor) (by rfl)) .nil) ?_)
     all_goals (
      refine fun w' hw' => ?_
      have hb2 := hw'.heap (bw, wkO s sl bm) (HM.mem (by repeat constructor))
      have hb1 := hw'.heap _ (HM.mem (b := bm) (by repeat constructor))
      first
      | exact ⟨(es, ck), rfl, Fr.but (hw'.fr (S := [bw, bm]) (by simp)) (by rw [hb2, hbw]), hc0, hb1⟩
      | (have hm : meanF s k seen = meetF (1, 2000) (1, fromF (massF s k) (s.volume + s.divisions * s.step) - 1) := by unfold meanF; rw [if_pos (by omega)]
         exact ⟨(es.push { key := kv k seen, val := rV (meanF s k seen), born := ck }, ck + 1), by rw [hm]; rfl, Fr.but (hw'.fr (S := [bw, bm]) (by simp)) (by rw [hb2, hbw]), Cache.push hc0 k seen ck, by rw [hm]; exact hb1⟩)
      | (have hm : meanF s k seen = meetF (1, 2000) (belowF (massF s k) s.volume + 1, 2000) := by unfold meanF; rw [if_neg (by omega), if_pos (by omega)]
         exact ⟨(es.push { key := kv k seen, val := rV (meanF s k seen), born := ck }, ck + 1), by rw [hm]; rfl, Fr.but (hw'.fr (S := [bw, bm]) (by simp)) (by rw [hb2, hbw]), Cache.push hc0 k seen ck, by rw [hm]; exact hb1⟩)
      | (have hm : meanF s k seen = meetF (meetF (floF s k) (fromF (massF s k) (s.volume + seen * s.step + s.width), 2000)) (1, belowF (massF s k) (s.volume + seen * s.step - s.width)) := by unfold meanF; rw [if_neg (by omega), if_neg (by omega), if_pos (by omega)]
         exact ⟨(es.push { key := kv k seen, val := rV (meanF s k seen), born := ck }, ck + 1), by rw [hm]; rfl, Fr.but (hw'.fr (S := [bw, bm]) (by simp)) (by rw [hb2, hbw]), Cache.push hc0 k seen ck, by rw [hm]; exact hb1⟩)
      | (have hm : meanF s k seen = meetF (floF s k) (fromF (massF s k) (s.volume + seen * s.step + s.width), 2000) := by unfold meanF; rw [if_neg (by omega), if_neg (by omega), if_neg (by omega)]
         exact ⟨(es.push { key := kv k seen, val := rV (meanF s k seen), born := ck }, ck + 1), by rw [hm]; rfl, Fr.but (hw'.fr (S := [bw, bm]) (by simp)) (by rw [hb2, hbw]), Cache.push hc0 k seen ck, by rw [hm]; exact hb1⟩))
   · try simp only [qn1, qn2, qn3, qn4, qn5, qn6, qn7, qn8] at hc
     all_goals ((first | (exfalso; with_reducible exact btf hc) | skip))
     all_goals refine tc_skip ?_; ((refine hK3 ?_; try (clear hK3; clear K3)))
     all_goals refine tc_seq fun K6 hK6 => ?_; refine tc_draw (by kernel_rfl) ?_; refine tx_p 0 rfl (by kernel_rfl) (y_move rfl) rfl (fun _ _ _ h => h) (fun _ h => h) ?_; refine tx_p 1 rfl (by kernel_rfl) (y_nil rfl) rfl (fun _ _ _ h => h) (fun _ h => h) ?_; refine tx_p 2 rfl (by kernel_rfl) (y_field rfl) rfl (fun _ _ _ h => h) (fun _ h => h) ?_; ((refine tx_q 3 rfl (by kernel_rfl) (y_loadN rfl (by repeat constructor) (by (repeat (first | exact .nil | apply CA.cons rfl)); done)) rfl (fun _ _ _ h => h) (fun _ h => h) ?_))
     all_goals refine tx_p 4 rfl (by kernel_rfl) (y_field rfl) rfl (fun _ _ _ h => h) (fun _ h => h) ?_; refine tx_q 5 rfl (by kernel_rfl) (y_load1 rfl (by repeat constructor) (by rfl)) rfl (fun _ _ _ h => h) (fun _ h => h) ?_; refine tx_e 6 rfl (by kernel_rfl) rfl (e_callV rfl (.cons rfl (.cons rfl .nil)) (fun w' hw' => mass_c s hs k h0 h1 _ w' (hrM w' (hw'.fr (by simp)) (hw'.heap _ (HM.mem (by repeat constructor)))))) (.inr fun _ _ h => h) (fun _ _ => ?_); refine tx_p 7 rfl (by kernel_rfl) (y_assign rfl) rfl (fun _ _ _ h => h) (fun _ h => h) ?_; refine tx_done (by kernel_rfl) ?_; ((refine hK6 ?_; try (clear hK6; clear K6)))
     all_goals refine tc_seq fun K7 hK7 => ?_; refine tc_seq fun K8 hK8 => ?_; refine tc_region ?_; refine tl_q (y_field rfl) rfl ?_; refine tl_q (y_load1 rfl (by repeat constructor) (by rfl)) rfl ?_; refine tl_nil ?_; ((refine hK8 ?_; try (clear hK8; clear K8)))
     all_goals refine tc_block ?_; refine tc_seq fun K9 hK9 => ?_; refine tc_region ?_; refine tl_q (y_eql rfl rfl) rfl ?_; refine tl_q (y_assign rfl) rfl ?_; refine tl_nil ?_; ((refine hK9 ?_; try (clear hK9; clear K9)))
     all_goals (
      refine tc_cond rfl (fun hc => ?_) (fun hc => ?_)
      · try simp only [qn1, qn2, qn3, qn4, qn5, qn6, qn7, qn8] at hc
        all_goals refine tc_draw (by kernel_rfl) ?_; refine tx_p 1 rfl (by kernel_rfl) (y_move rfl) rfl (fun _ _ _ h => h) (fun _ h => h) ?_; refine tx_p 2 rfl (by kernel_rfl) (y_move rfl) rfl (fun _ _ _ h => h) (fun _ h => h) ?_; refine tx_p 3 rfl (by kernel_rfl) (y_nil rfl) rfl (fun _ _ _ h => h) (fun _ h => h) ?_; refine tx_p 4 rfl (by kernel_rfl) (y_field rfl) rfl (fun _ _ _ h => h) (fun _ h => h) ?_; refine tx_p 5 rfl (by kernel_rfl) (y_field rfl) rfl (fun _ _ _ h => h) (fun _ h => h) ?_; refine tx_q 6 rfl (by kernel_rfl) (y_load1 rfl (by repeat constructor) (by rfl)) rfl (fun _ _ _ h => h) (fun _ h => h) ?_; refine tx_p 7 rfl (by kernel_rfl) (y_move rfl) rfl (fun _ _ _ h => h) (fun _ h => h) ?_; refine tx_p 8 rfl (by kernel_rfl) (y_nil rfl) rfl (fun _ _ _ h => h) (fun _ h => h) ?_; refine tx_p 9 rfl (by kernel_rfl) (y_field rfl) rfl (fun _ _ _ h => h) (fun _ h => h) ?_; refine tx_p 10 rfl (by kernel_rfl) (y_field rfl) rfl (fun _ _ _ h => h) (fun _ h => h) ?_; refine tx_q 11 rfl (by kernel_rfl) (y_load1 rfl (by repeat constructor) (by rfl)) rfl (fun _ _ _ h => h) (fun _ h => h) ?_; refine tx_p 12 rfl (by kernel_rfl) (y_move rfl) rfl (fun _ _ _ h => h) (fun _ h => h) ?_; refine tx_p 13 rfl (by kernel_rfl) (y_nil rfl) rfl (fun _ _ _ h => h) (fun _ h => h) ?_; refine tx_p 14 rfl (by kernel_rfl) (y_field rfl) rfl (fun _ _ _ h => h) (fun _ h => h) ?_; refine tx_p 15 rfl (by kernel_rfl) (y_field rfl) rfl (fun _ _ _ h => h) (fun _ h => h) ?_; refine tx_q 16 rfl (by kernel_rfl) (y_load1 rfl (by repeat constructor) (by rfl)) rfl (fun _ _ _ h => h) (fun _ h => h) ?_; refine tx_p 17 rfl (by kernel_rfl) (y_mul rfl rfl (by omega)) rfl (fun _ _ _ h => h) (fun _ h => h) ?_; refine tx_p 18 rfl (by kernel_rfl) (y_add rfl rfl (by omega)) rfl (fun _ _ _ h => h) (fun _ h => h) ?_; refine tx_e 0 rfl (by kernel_rfl) rfl (e_callV rfl .nil (fun w' _ => every_c w')) (.inr fun _ _ h => h) (fun _ _ => ?_); refine tx_e 19 rfl (by kernel_rfl) rfl (e_callV rfl (.cons rfl (.cons rfl .nil)) (fun w' _ => from_c _ _ (by omega) (by omega) (by omega) (by omega) w')) (.inr fun _ _ h => h) (fun _ _ => ?_); refine tx_p 20 rfl (by kernel_rfl) (y_sub rfl rfl (by omega)) rfl (fun _ _ _ h => h) (fun _ h => h) ?_; refine tx_p 21 rfl (by kernel_rfl) (y_build_2 rfl rfl rfl rfl) rfl (fun _ _ _ h => h) (fun _ h => h) ?_; refine tx_e 22 rfl (by kernel_rfl) rfl (e_callV rfl (.cons rfl (.cons rfl .nil)) (fun w' _ => meet_c _ _ _ _ w')) (.inr fun _ _ h => h) (fun _ _ => ?_); refine tx_e 23 rfl (by kernel_rfl) rfl (e_storeW rfl rfl (by repeat constructor) (by rfl) (by rfl) (by simp [Value.oneCell'])) (.inl (by kernel_rfl)) (fun _ _ => ?_); refine tx_done (by kernel_rfl) ?_; ((refine hK7 ?_; try (clear hK7; clear K7)))
        all_goals refine tc_seq fun K10 hK10 => ?_; refine tc_draw (by kernel_rfl) ?_; refine tx_p 0 rfl (by kernel_rfl) (y_move rfl) rfl (fun _ _ _ h => h) (fun _ h => h) ?_; refine tx_p 1 rfl (by kernel_rfl) (y_nil rfl) rfl (fun _ _ _ h => h) (fun _ h => h) ?_; refine tx_p 2 rfl (by kernel_rfl) (y_field rfl) rfl (fun _ _ _ h => h) (fun _ h => h) ?_; refine tx_q 3 rfl (by kernel_rfl) (y_load1 rfl (by repeat constructor) (by rfl)) rfl (fun _ _ _ h => h) (fun _ h => h) ?_; refine tx_q 4 rfl (by kernel_rfl) (y_loadW rfl (by repeat constructor) (by rfl)) rfl (fun _ _ _ h => h) (fun _ h => h) ?_; refine tx_q 5 rfl (by kernel_rfl) (y_loadW rfl (by repeat constructor) (by rfl)) rfl (fun _ _ _ h => h) (fun _ h => h) ?_; refine tx_e 6 rfl (by kernel_rfl) rfl (e_mapUpdate_new hh hc0 rfl rfl rfl (by repeat constructor)) (.inl (by kernel_rfl)) (fun _ _ => ?_); refine tx_done (by kernel_rfl) ?_; ((refine hK10 ?_; try (clear hK10; clear K10)))
        all_goals refine tc_seq fun K11 hK11 => ?_; refine tc_region ?_; refine tl_q (y_loadW rfl (by repeat constructor) (by rfl)) rfl ?_; refine tl_e (e_storeW rfl rfl (by repeat constructor) (by rfl) (by rfl) (by simp [Value.oneCell'])) rfl (fun _ _ => ?_); refine tl_nil ?_; ((refine hK11 ?_; try (clear hK11; clear K11)))
        all_goals refine tc_ret ?_; (repeat (first | refine tk_then_ret ?_))
        all_goals (refine tk_ret rfl rfl (.cons (.agg inferInstance rfl (by repeat constructor) (by rfl)) .nil) ?_)
        all_goals (
         refine fun w' hw' => ?_
         have hb2 := hw'.heap (bw, wkO s sl bm) (HM.mem (by repeat constructor))
         have hb1 := hw'.heap _ (HM.mem (b := bm) (by repeat constructor))
         first
         | exact ⟨(es, ck), rfl, Fr.but (hw'.fr (S := [bw, bm]) (by simp)) (by rw [hb2, hbw]), hc0, hb1⟩
         | (have hm : meanF s k seen = meetF (1, 2000) (1, fromF (massF s k) (s.volume + s.divisions * s.step) - 1) := by unfold meanF; rw [if_pos (by omega)]
            exact ⟨(es.push { key := kv k seen, val := rV (meanF s k seen), born := ck }, ck + 1), by rw [hm]; rfl, Fr.but (hw'.fr (S := [bw, bm]) (by simp)) (by rw [hb2, hbw]), Cache.push hc0 k seen ck, by rw [hm]; exact hb1⟩)
         | (have hm : meanF s k seen = meetF (1, 2000) (belowF (massF s k) s.volume + 1, 2000) := by unfold meanF; rw [if_neg (by omega), if_pos (by omega)]
            exact ⟨(es.push { key := kv k seen, val := rV (meanF s k seen), born := ck }, ck + 1), by rw [hm]; rfl, Fr.but (hw'.fr (S := [bw, bm]) (by simp)) (by rw [hb2, hbw]), Cache.push hc0 k seen ck, by rw [hm]; exact hb1⟩)
         | (have hm : meanF s k seen = meetF (meetF (floF s k) (fromF (massF s k) (s.volume + seen * s.step + s.width), 2000)) (1, belowF (massF s k) (s.volume + seen * s.step - s.width)) := by unfold meanF; rw [if_neg (by omega), if_neg (by omega), if_pos (by omega)]
            exact ⟨(es.push { key := kv k seen, val := rV (meanF s k seen), born := ck }, ck + 1), by rw [hm]; rfl, Fr.but (hw'.fr (S := [bw, bm]) (by simp)) (by rw [hb2, hbw]), Cache.push hc0 k seen ck, by rw [hm]; exact hb1⟩)
         | (have hm : meanF s k seen = meetF (floF s k) (fromF (massF s k) (s.volume + seen * s.step + s.width), 2000) := by unfold meanF; rw [if_neg (by omega), if_neg (by omega), if_neg (by omega)]
            exact ⟨(es.push { key := kv k seen, val := rV (meanF s k seen), born := ck }, ck + 1), by rw [hm]; rfl, Fr.but (hw'.fr (S := [bw, bm]) (by simp)) (by rw [hb2, hbw]), Cache.push hc0 k seen ck, by rw [hm]; exact hb1⟩))
      · try simp only [qn1, qn2, qn3, qn4, qn5, qn6, qn7, qn8] at hc
        all_goals refine tc_seq fun K12 hK12 => ?_; refine tc_region ?_; refine tl_q (y_eql rfl rfl) rfl ?_; refine tl_q (y_assign rfl) rfl ?_; refine tl_nil ?_; ((refine hK12 ?_; try (clear hK12; clear K12)))
        all_goals (
         refine tc_cond rfl (fun hc => ?_) (fun hc => ?_)
         · try simp only [qn1, qn2, qn3, qn4, qn5, qn6, qn7, qn8] at hc
           all_goals refine tc_draw (by kernel_rfl) ?_; refine tx_p 1 rfl (by kernel_rfl) (y_move rfl) rfl (fun _ _ _ h => h) (fun _ h => h) ?_; refine tx_p 2 rfl (by kernel_rfl) (y_move rfl) rfl (fun _ _ _ h => h) (fun _ h => h) ?_; refine tx_p 3 rfl (by kernel_rfl) (y_nil rfl) rfl (fun _ _ _ h => h) (fun _ h => h) ?_; refine tx_p 4 rfl (by kernel_rfl) (y_field rfl) rfl (fun _ _ _ h => h) (fun _ h => h) ?_; refine tx_p 5 rfl (by kernel_rfl) (y_field rfl) rfl (fun _ _ _ h => h) (fun _ h => h) ?_; refine tx_q 6 rfl (by kernel_rfl) (y_load1 rfl (by repeat constructor) (by rfl)) rfl (fun _ _ _ h => h) (fun _ h => h) ?_; refine tx_e 0 rfl (by kernel_rfl) rfl (e_callV rfl .nil (fun w' _ => every_c w')) (.inr fun _ _ h => h) (fun _ _ => ?_); refine tx_e 7 rfl (by kernel_rfl) rfl (e_callV rfl (.cons rfl (.cons rfl .nil)) (fun w' _ => below_c _ _ (by omega) (by omega) (by omega) (by omega) w')) (.inr fun _ _ h => h) (fun _ _ => ?_); refine tx_p 8 rfl (by kernel_rfl) (y_add rfl rfl (by omega)) rfl (fun _ _ _ h => h) (fun _ h => h) ?_; refine tx_p 9 rfl (by kernel_rfl) (y_build_2 rfl rfl rfl rfl) rfl (fun _ _ _ h => h) (fun _ h => h) ?_; refine tx_e 10 rfl (by kernel_rfl) rfl (e_callV rfl (.cons rfl (.cons rfl .nil)) (fun w' _ => meet_c _ _ _ _ w')) (.inr fun _ _ h => h) (fun _ _ => ?_); refine tx_e 11 rfl (by kernel_rfl) rfl (e_storeW rfl rfl (by repeat constructor) (by rfl) (by rfl) (by simp [Value.oneCell'])) (.inl (by kernel_rfl)) (fun _ _ => ?_); refine tx_done (by kernel_rfl) ?_; ((refine hK7 ?_; try (clear hK7; clear K7)))
           all_goals refine tc_seq fun K13 hK13 => ?_; refine tc_draw (by kernel_rfl) ?_; refine tx_p 0 rfl (by kernel_rfl) (y_move rfl) rfl (fun _ _ _ h => h) (fun _ h => h) ?_; refine tx_p 1 rfl (by kernel_rfl) (y_nil rfl) rfl (fun _ _ _ h => h) (fun _ h => h) ?_; refine tx_p 2 rfl (by kernel_rfl) (y_field rfl) rfl (fun _ _ _ h => h) (fun _ h => h) ?_; refine tx_q 3 rfl (by kernel_rfl) (y_load1 rfl (by repeat constructor) (by rfl)) rfl (fun _ _ _ h => h) (fun _ h => h) ?_; refine tx_q 4 rfl (by kernel_rfl) (y_loadW rfl (by repeat constructor) (by rfl)) rfl (fun _ _ _ h => h) (fun _ h => h) ?_; refine tx_q 5 rfl (by kernel_rfl) (y_loadW rfl (by repeat constructor) (by rfl)) rfl (fun _ _ _ h => h) (fun _ h => h) ?_; refine tx_e 6 rfl (by kernel_rfl) rfl (e_mapUpdate_new hh hc0 rfl rfl rfl (by repeat constructor)) (.inl (by kernel_rfl)) (fun _ _ => ?_); refine tx_done (by kernel_rfl) ?_; ((refine hK13 ?_; try (clear hK13; clear K13)))
           all_goals refine tc_seq fun K14 hK14 => ?_; refine tc_region ?_; refine tl_q (y_loadW rfl (by repeat constructor) (by rfl)) rfl ?_; refine tl_e (e_storeW rfl rfl (by repeat constructor) (by rfl) (by rfl) (by simp [Value.oneCell'])) rfl (fun _ _ => ?_); refine tl_nil ?_; ((refine hK14 ?_; try (clear hK14; clear K14)))
           all_goals refine tc_ret ?_; (repeat (first | refine tk_then_ret ?_))
           all_goals (refine tk_ret rfl rfl (.cons (.agg inferInstance rfl (by repeat constructor) (by rfl)) .nil) ?_)
           all_goals (
            refine fun w' hw' => ?_
            have hb2 := hw'.heap (bw, wkO s sl bm) (HM.mem (by repeat constructor))
            have hb1 := hw'.heap _ (HM.mem (b := bm) (by repeat constructor))
            first
            | exact ⟨(es, ck), rfl, Fr.but (hw'.fr (S := [bw, bm]) (by simp)) (by rw [hb2, hbw]), hc0, hb1⟩
            | (have hm : meanF s k seen = meetF (1, 2000) (1, fromF (massF s k) (s.volume + s.divisions * s.step) - 1) := by unfold meanF; rw [if_pos (by omega)]
               exact ⟨(es.push { key := kv k seen, val := rV (meanF s k seen), born := ck }, ck + 1), by rw [hm]; rfl, Fr.but (hw'.fr (S := [bw, bm]) (by simp)) (by rw [hb2, hbw]), Cache.push hc0 k seen ck, by rw [hm]; exact hb1⟩)
            | (have hm : meanF s k seen = meetF (1, 2000) (belowF (massF s k) s.volume + 1, 2000) := by unfold meanF; rw [if_neg (by omega), if_pos (by omega)]
               exact ⟨(es.push { key := kv k seen, val := rV (meanF s k seen), born := ck }, ck + 1), by rw [hm]; rfl, Fr.but (hw'.fr (S := [bw, bm]) (by simp)) (by rw [hb2, hbw]), Cache.push hc0 k seen ck, by rw [hm]; exact hb1⟩)
            | (have hm : meanF s k seen = meetF (meetF (floF s k) (fromF (massF s k) (s.volume + seen * s.step + s.width), 2000)) (1, belowF (massF s k) (s.volume + seen * s.step - s.width)) := by unfold meanF; rw [if_neg (by omega), if_neg (by omega), if_pos (by omega)]
               exact ⟨(es.push { key := kv k seen, val := rV (meanF s k seen), born := ck }, ck + 1), by rw [hm]; rfl, Fr.but (hw'.fr (S := [bw, bm]) (by simp)) (by rw [hb2, hbw]), Cache.push hc0 k seen ck, by rw [hm]; exact hb1⟩)
            | (have hm : meanF s k seen = meetF (floF s k) (fromF (massF s k) (s.volume + seen * s.step + s.width), 2000) := by unfold meanF; rw [if_neg (by omega), if_neg (by omega), if_neg (by omega)]
               exact ⟨(es.push { key := kv k seen, val := rV (meanF s k seen), born := ck }, ck + 1), by rw [hm]; rfl, Fr.but (hw'.fr (S := [bw, bm]) (by simp)) (by rw [hb2, hbw]), Cache.push hc0 k seen ck, by rw [hm]; exact hb1⟩))
         · try simp only [qn1, qn2, qn3, qn4, qn5, qn6, qn7, qn8] at hc
           all_goals refine tc_seq fun K15 hK15 => ?_
           have hdv := dv_bd hs (n := seen) (by omega) h3
           all_goals refine tc_draw (by kernel_rfl) ?_; refine tx_p 0 rfl (by kernel_rfl) (y_move rfl) rfl (fun _ _ _ h => h) (fun _ h => h) ?_; refine tx_p 1 rfl (by kernel_rfl) (y_nil rfl) rfl (fun _ _ _ h => h) (fun _ h => h) ?_; refine tx_p 2 rfl (by kernel_rfl) (y_field rfl) rfl (fun _ _ _ h => h) (fun _ h => h) ?_; refine tx_p 3 rfl (by kernel_rfl) (y_field rfl) rfl (fun _ _ _ h => h) (fun _ h => h) ?_; refine tx_q 4 rfl (by kernel_rfl) (y_load1 rfl (by repeat constructor) (by rfl)) rfl (fun _ _ _ h => h) (fun _ h => h) ?_; refine tx_p 5 rfl (by kernel_rfl) (y_field rfl) rfl (fun _ _ _ h => h) (fun _ h => h) ?_; refine tx_q 6 rfl (by kernel_rfl) (y_load1 rfl (by repeat constructor) (by rfl)) rfl (fun _ _ _ h => h) (fun _ h => h) ?_; refine tx_p 7 rfl (by kernel_rfl) (y_move rfl) rfl (fun _ _ _ h => h) (fun _ h => h) ?_; refine tx_p 8 rfl (by kernel_rfl) (y_nil rfl) rfl (fun _ _ _ h => h) (fun _ h => h) ?_; refine tx_p 9 rfl (by kernel_rfl) (y_field rfl) rfl (fun _ _ _ h => h) (fun _ h => h) ?_; refine tx_p 10 rfl (by kernel_rfl) (y_field rfl) rfl (fun _ _ _ h => h) (fun _ h => h) ?_; refine tx_q 11 rfl (by kernel_rfl) (y_load1 rfl (by repeat constructor) (by rfl)) rfl (fun _ _ _ h => h) (fun _ h => h) ?_; refine tx_p 12 rfl (by kernel_rfl) (y_mul rfl rfl (by omega)) rfl (fun _ _ _ h => h) (fun _ h => h) ?_; refine tx_p 13 rfl (by kernel_rfl) (y_add rfl rfl (by omega)) rfl (fun _ _ _ h => h) (fun _ h => h) ?_; refine tx_p 14 rfl (by kernel_rfl) (y_assign rfl) rfl (fun _ _ _ h => h) (fun _ h => h) ?_; refine tx_done (by kernel_rfl) ?_; ((refine hK15 ?_; try (clear hK15; clear K15)))
           all_goals refine tc_seq fun K16 hK16 => ?_; refine tc_draw (by kernel_rfl) ?_; refine tx_p 0 rfl (by kernel_rfl) (y_move rfl) rfl (fun _ _ _ h => h) (fun _ h => h) ?_; refine tx_p 1 rfl (by kernel_rfl) (y_nil rfl) rfl (fun _ _ _ h => h) (fun _ h => h) ?_; refine tx_p 2 rfl (by kernel_rfl) (y_field rfl) rfl (fun _ _ _ h => h) (fun _ h => h) ?_; ((refine tx_q 3 rfl (by kernel_rfl) (y_loadN rfl (by repeat constructor) (by (repeat (first | exact .nil | apply CA.cons rfl)); done)) rfl (fun _ _ _ h => h) (fun _ h => h) ?_))
           all_goals refine tx_p 4 rfl (by kernel_rfl) (y_field rfl) rfl (fun _ _ _ h => h) (fun _ h => h) ?_; refine tx_q 5 rfl (by kernel_rfl) (y_load1 rfl (by repeat constructor) (by rfl)) rfl (fun _ _ _ h => h) (fun _ h => h) ?_; refine tx_p 7 rfl (by kernel_rfl) (y_move rfl) rfl (fun _ _ _ h => h) (fun _ h => h) ?_; refine tx_p 8 rfl (by kernel_rfl) (y_move rfl) rfl (fun _ _ _ h => h) (fun _ h => h) ?_; refine tx_p 9 rfl (by kernel_rfl) (y_move rfl) rfl (fun _ _ _ h => h) (fun _ h => h) ?_; refine tx_p 10 rfl (by kernel_rfl) (y_nil rfl) rfl (fun _ _ _ h => h) (fun _ h => h) ?_; refine tx_p 11 rfl (by kernel_rfl) (y_field rfl) rfl (fun _ _ _ h => h) (fun _ h => h) ?_; refine tx_p 12 rfl (by kernel_rfl) (y_field rfl) rfl (fun _ _ _ h => h) (fun _ h => h) ?_; refine tx_q 13 rfl (by kernel_rfl) (y_load1 rfl (by repeat constructor) (by rfl)) rfl (fun _ _ _ h => h) (fun _ h => h) ?_; refine tx_p 14 rfl (by kernel_rfl) (y_add rfl rfl (by omega)) rfl (fun _ _ _ h => h) (fun _ h => h) ?_; refine tx_e 6 rfl (by kernel_rfl) rfl (e_callV rfl (.cons rfl (.cons rfl .nil)) (fun w' hw' => floating_c s hs k h0 h1 _ w' (hrM w' (hw'.fr (by simp)) (hw'.heap _ (HM.mem (by repeat constructor)))))) (.inr fun _ _ h => h) (fun _ _ => ?_); refine tx_e 15 rfl (by kernel_rfl) rfl (e_callV rfl (.cons rfl (.cons rfl .nil)) (fun w' _ => from_c _ _ (by omega) (by omega) (by omega) (by omega) w')) (.inr fun _ _ h => h) (fun _ _ => ?_); refine tx_p 16 rfl (by kernel_rfl) (y_build_2 rfl rfl rfl rfl) rfl (fun _ _ _ h => h) (fun _ h => h) ?_; refine tx_e 17 rfl (by kernel_rfl) rfl (e_callV rfl (.cons rfl (.cons rfl .nil)) (fun w' _ => meet_c _ _ _ _ w')) (.inr fun _ _ h => h) (fun _ _ => ?_); refine tx_e 18 rfl (by kernel_rfl) rfl (e_storeW rfl rfl (by repeat constructor) (by rfl) (by rfl) (by simp [Value.oneCell'])) (.inl (by kernel_rfl)) (fun _ _ => ?_); refine tx_done (by kernel_rfl) ?_; ((refine hK16 ?_; try (clear hK16; clear K16)))
           all_goals refine tc_seq fun K17 hK17 => ?_; refine tc_region ?_; refine tl_q (y_move rfl) rfl ?_; refine tl_q (y_move rfl) rfl ?_; refine tl_q (y_nil rfl) rfl ?_; refine tl_q (y_field rfl) rfl ?_; refine tl_q (y_field rfl) rfl ?_; refine tl_q (y_load1 rfl (by repeat constructor) (by rfl)) rfl ?_; refine tl_q (y_gtr rfl rfl) rfl ?_; refine tl_nil ?_; ((refine hK17 ?_; try (clear hK17; clear K17)))
           all_goals (
            refine tc_cond rfl (fun hc => ?_) (fun hc => ?_)
            · try simp only [qn1, qn2, qn3, qn4, qn5, qn6, qn7, qn8] at hc
              all_goals refine tc_draw (by kernel_rfl) ?_; refine tx_q 0 rfl (by kernel_rfl) (y_loadW rfl (by repeat constructor) (by rfl)) rfl (fun _ _ _ h => h) (fun _ h => h) ?_; refine tx_p 1 rfl (by kernel_rfl) (y_move rfl) rfl (fun _ _ _ h => h) (fun _ h => h) ?_; refine tx_p 2 rfl (by kernel_rfl) (y_move rfl) rfl (fun _ _ _ h => h) (fun _ h => h) ?_; refine tx_p 3 rfl (by kernel_rfl) (y_move rfl) rfl (fun _ _ _ h => h) (fun _ h => h) ?_; refine tx_p 4 rfl (by kernel_rfl) (y_nil rfl) rfl (fun _ _ _ h => h) (fun _ h => h) ?_; refine tx_p 5 rfl (by kernel_rfl) (y_field rfl) rfl (fun _ _ _ h => h) (fun _ h => h) ?_; refine tx_p 6 rfl (by kernel_rfl) (y_field rfl) rfl (fun _ _ _ h => h) (fun _ h => h) ?_; refine tx_q 7 rfl (by kernel_rfl) (y_load1 rfl (by repeat constructor) (by rfl)) rfl (fun _ _ _ h => h) (fun _ h => h) ?_; refine tx_p 8 rfl (by kernel_rfl) (y_sub rfl rfl (by omega)) rfl (fun _ _ _ h => h) (fun _ h => h) ?_; refine tx_e 9 rfl (by kernel_rfl) rfl (e_callV rfl (.cons rfl (.cons rfl .nil)) (fun w' _ => below_c _ _ (by omega) (by omega) (by omega) (by omega) w')) (.inr fun _ _ h => h) (fun _ _ => ?_); refine tx_p 10 rfl (by kernel_rfl) (y_build_2 rfl rfl rfl rfl) rfl (fun _ _ _ h => h) (fun _ h => h) ?_; refine tx_e 11 rfl (by kernel_rfl) rfl (e_callV rfl (.cons rfl (.cons rfl .nil)) (fun w' _ => meet_c _ _ _ _ w')) (.inr fun _ _ h => h) (fun _ _ => ?_); refine tx_e 12 rfl (by kernel_rfl) rfl (e_storeW rfl rfl (by repeat constructor) (by rfl) (by rfl) (by simp [Value.oneCell'])) (.inl (by kernel_rfl)) (fun _ _ => ?_); refine tx_done (by kernel_rfl) ?_; ((refine hK7 ?_; try (clear hK7; clear K7)))
              all_goals refine tc_seq fun K18 hK18 => ?_; refine tc_draw (by kernel_rfl) ?_; refine tx_p 0 rfl (by kernel_rfl) (y_move rfl) rfl (fun _ _ _ h => h) (fun _ h => h) ?_; refine tx_p 1 rfl (by kernel_rfl) (y_nil rfl) rfl (fun _ _ _ h => h) (fun _ h => h) ?_; refine tx_p 2 rfl (by kernel_rfl) (y_field rfl) rfl (fun _ _ _ h => h) (fun _ h => h) ?_; refine tx_q 3 rfl (by kernel_rfl) (y_load1 rfl (by repeat constructor) (by rfl)) rfl (fun _ _ _ h => h) (fun _ h => h) ?_; refine tx_q 4 rfl (by kernel_rfl) (y_loadW rfl (by repeat constructor) (by rfl)) rfl (fun _ _ _ h => h) (fun _ h => h) ?_; refine tx_q 5 rfl (by kernel_rfl) (y_loadW rfl (by repeat constructor) (by rfl)) rfl (fun _ _ _ h => h) (fun _ h => h) ?_; refine tx_e 6 rfl (by kernel_rfl) rfl (e_mapUpdate_new hh hc0 rfl rfl rfl (by repeat constructor)) (.inl (by kernel_rfl)) (fun _ _ => ?_); refine tx_done (by kernel_rfl) ?_; ((refine hK18 ?_; try (clear hK18; clear K18)))
              all_goals refine tc_seq fun K19 hK19 => ?_; refine tc_region ?_; refine tl_q (y_loadW rfl (by repeat constructor) (by rfl)) rfl ?_; refine tl_e (e_storeW rfl rfl (by repeat constructor) (by rfl) (by rfl) (by simp [Value.oneCell'])) rfl (fun _ _ => ?_); refine tl_nil ?_; ((refine hK19 ?_; try (clear hK19; clear K19)))
              all_goals refine tc_ret ?_; (repeat (first | refine tk_then_ret ?_))
              all_goals (refine tk_ret rfl rfl (.cons (.agg inferInstance rfl (by repeat constructor) (by rfl)) .nil) ?_)
              all_goals (
               refine fun w' hw' => ?_
               have hb2 := hw'.heap (bw, wkO s sl bm) (HM.mem (by repeat constructor))
               have hb1 := hw'.heap _ (HM.mem (b := bm) (by repeat constructor))
               first
               | exact ⟨(es, ck), rfl, Fr.but (hw'.fr (S := [bw, bm]) (by simp)) (by rw [hb2, hbw]), hc0, hb1⟩
               | (have hm : meanF s k seen = meetF (1, 2000) (1, fromF (massF s k) (s.volume + s.divisions * s.step) - 1) := by unfold meanF; rw [if_pos (by omega)]
                  exact ⟨(es.push { key := kv k seen, val := rV (meanF s k seen), born := ck }, ck + 1), by rw [hm]; rfl, Fr.but (hw'.fr (S := [bw, bm]) (by simp)) (by rw [hb2, hbw]), Cache.push hc0 k seen ck, by rw [hm]; exact hb1⟩)
               | (have hm : meanF s k seen = meetF (1, 2000) (belowF (massF s k) s.volume + 1, 2000) := by unfold meanF; rw [if_neg (by omega), if_pos (by omega)]
                  exact ⟨(es.push { key := kv k seen, val := rV (meanF s k seen), born := ck }, ck + 1), by rw [hm]; rfl, Fr.but (hw'.fr (S := [bw, bm]) (by simp)) (by rw [hb2, hbw]), Cache.push hc0 k seen ck, by rw [hm]; exact hb1⟩)
               | (have hm : meanF s k seen = meetF (meetF (floF s k) (fromF (massF s k) (s.volume + seen * s.step + s.width), 2000)) (1, belowF (massF s k) (s.volume + seen * s.step - s.width)) := by unfold meanF; rw [if_neg (by omega), if_neg (by omega), if_pos (by omega)]
                  exact ⟨(es.push { key := kv k seen, val := rV (meanF s k seen), born := ck }, ck + 1), by rw [hm]; rfl, Fr.but (hw'.fr (S := [bw, bm]) (by simp)) (by rw [hb2, hbw]), Cache.push hc0 k seen ck, by rw [hm]; exact hb1⟩)
               | (have hm : meanF s k seen = meetF (floF s k) (fromF (massF s k) (s.volume + seen * s.step + s.width), 2000) := by unfold meanF; rw [if_neg (by omega), if_neg (by omega), if_neg (by omega)]
                  exact ⟨(es.push { key := kv k seen, val := rV (meanF s k seen), born := ck }, ck + 1), by rw [hm]; rfl, Fr.but (hw'.fr (S := [bw, bm]) (by simp)) (by rw [hb2, hbw]), Cache.push hc0 k seen ck, by rw [hm]; exact hb1⟩))
            · try simp only [qn1, qn2, qn3, qn4, qn5, qn6, qn7, qn8] at hc
              all_goals refine tc_skip ?_; ((refine hK7 ?_; try (clear hK7; clear K7)))
              all_goals refine tc_seq fun K20 hK20 => ?_; refine tc_draw (by kernel_rfl) ?_; refine tx_p 0 rfl (by kernel_rfl) (y_move rfl) rfl (fun _ _ _ h => h) (fun _ h => h) ?_; refine tx_p 1 rfl (by kernel_rfl) (y_nil rfl) rfl (fun _ _ _ h => h) (fun _ h => h) ?_; refine tx_p 2 rfl (by kernel_rfl) (y_field rfl) rfl (fun _ _ _ h => h) (fun _ h => h) ?_; refine tx_q 3 rfl (by kernel_rfl) (y_load1 rfl (by repeat constructor) (by rfl)) rfl (fun _ _ _ h => h) (fun _ h => h) ?_; refine tx_q 4 rfl (by kernel_rfl) (y_loadW rfl (by repeat constructor) (by rfl)) rfl (fun _ _ _ h => h) (fun _ h => h) ?_; refine tx_q 5 rfl (by kernel_rfl) (y_loadW rfl (by repeat constructor) (by rfl)) rfl (fun _ _ _ h => h) (fun _ h => h) ?_; refine tx_e 6 rfl (by kernel_rfl) rfl (e_mapUpdate_new hh hc0 rfl rfl rfl (by repeat constructor)) (.inl (by kernel_rfl)) (fun _ _ => ?_); refine tx_done (by kernel_rfl) ?_; ((refine hK20 ?_; try (clear hK20; clear K20)))
              all_goals refine tc_seq fun K21 hK21 => ?_; refine tc_region ?_; refine tl_q (y_loadW rfl (by repeat constructor) (by rfl)) rfl ?_; refine tl_e (e_storeW rfl rfl (by repeat constructor) (by rfl) (by rfl) (by simp [Value.oneCell'])) rfl (fun _ _ => ?_); refine tl_nil ?_; ((refine hK21 ?_; try (clear hK21; clear K21)))
              all_goals refine tc_ret ?_; (repeat (first | refine tk_then_ret ?_))
              all_goals (refine tk_ret rfl rfl (.cons (.agg inferInstance rfl (by repeat constructor) (by rfl)) .nil) ?_)
              all_goals (
               refine fun w' hw' => ?_
               have hb2 := hw'.heap (bw, wkO s sl bm) (HM.mem (by repeat constructor))
               have hb1 := hw'.heap _ (HM.mem (b := bm) (by repeat constructor))
               first
               | exact ⟨(es, ck), rfl, Fr.but (hw'.fr (S := [bw, bm]) (by simp)) (by rw [hb2, hbw]), hc0, hb1⟩
               | (have hm : meanF s k seen = meetF (1, 2000) (1, fromF (massF s k) (s.volume + s.divisions * s.step) - 1) := by unfold meanF; rw [if_pos (by omega)]
                  exact ⟨(es.push { key := kv k seen, val := rV (meanF s k seen), born := ck }, ck + 1), by rw [hm]; rfl, Fr.but (hw'.fr (S := [bw, bm]) (by simp)) (by rw [hb2, hbw]), Cache.push hc0 k seen ck, by rw [hm]; exact hb1⟩)
               | (have hm : meanF s k seen = meetF (1, 2000) (belowF (massF s k) s.volume + 1, 2000) := by unfold meanF; rw [if_neg (by omega), if_pos (by omega)]
                  exact ⟨(es.push { key := kv k seen, val := rV (meanF s k seen), born := ck }, ck + 1), by rw [hm]; rfl, Fr.but (hw'.fr (S := [bw, bm]) (by simp)) (by rw [hb2, hbw]), Cache.push hc0 k seen ck, by rw [hm]; exact hb1⟩)
               | (have hm : meanF s k seen = meetF (meetF (floF s k) (fromF (massF s k) (s.volume + seen * s.step + s.width), 2000)) (1, belowF (massF s k) (s.volume + seen * s.step - s.width)) := by unfold meanF; rw [if_neg (by omega), if_neg (by omega), if_pos (by omega)]
                  exact ⟨(es.push { key := kv k seen, val := rV (meanF s k seen), born := ck }, ck + 1), by rw [hm]; rfl, Fr.but (hw'.fr (S := [bw, bm]) (by simp)) (by rw [hb2, hbw]), Cache.push hc0 k seen ck, by rw [hm]; exact hb1⟩)
               | (have hm : meanF s k seen = meetF (floF s k) (fromF (massF s k) (s.volume + seen * s.step + s.width), 2000) := by unfold meanF; rw [if_neg (by omega), if_neg (by omega), if_neg (by omega)]
                  exact ⟨(es.push { key := kv k seen, val := rV (meanF s k seen), born := ck }, ck + 1), by rw [hm]; rfl, Fr.but (hw'.fr (S := [bw, bm]) (by simp)) (by rw [hb2, hbw]), Cache.push hc0 k seen ck, by rw [hm]; exact hb1⟩))))))
end Go.Sp
/-
  Floats, See, Mean.
-/
namespace Go.Sp
open Go Go.Proofs
def atF (s : Sn) (k d : Int) : Int := if (floF s k).1 ≤ d ∧ d ≤ (floF s k).2 then 0 else if 1000 * massF s k < d * s.volume then -2 else -1
def askF (s : Sn) (k d : Int) : Int := if ¬ chkF s = 0 then chkF s else if (0 ≤ k ∧ k ≤ s.weights.length) ∧ (1 ≤ d ∧ d ≤ 2000) then 0 else 2
theorem askF_0 {s : Sn} {k d : Int} (h : askF s k d = 0) : VS s ∧ 0 ≤ k ∧ k ≤ s.weights.length ∧ 1 ≤ d ∧ d ≤ 2000 := by
  unfold askF at h
  split at h
  · rename_i h1; exact absurd h h1
  · rename_i h1
    split at h
    · rename_i h2; exact ⟨chkF_valid.1 (by simpa using h1), h2.1.1, h2.1.2, h2.2.1, h2.2.2⟩
    · cases h
def seeStep (s : Sn) (k d : Int) (r : Int × Int) (x : Nat) : Int × Int := if (meanF s k x).1 ≤ d ∧ d ≤ (meanF s k x).2 then (min r.1 x, max r.2 x) else r
def seeAcc (s : Sn) (k d : Int) (n : Nat) : Int × Int := (List.range n).foldl (seeStep s k d) (s.divisions, 0)
theorem seeAcc_succ (s : Sn) (k d : Int) (n : Nat) : seeAcc s k d (n + 1) = seeStep s k d (seeAcc s k d n) n := by simp [seeAcc, List.range_succ]
def seeF (s : Sn) (k d : Int) : (Int × Int) × Int := if ¬ askF s k d = 0 then ((0, 0), askF s k d) else if ¬ atF s k d = 0 then ((0, 0), 10) else (seeAcc s k d (s.divisions.toNat + 1), 0)
def meanE (s : Sn) (k seen : Int) : (Int × Int) × Int := if ¬ chkF s = 0 then ((0, 0), chkF s) else if ¬ ((0 ≤ k ∧ k ≤ s.weights.length) ∧ (-2 ≤ seen ∧ seen ≤ s.divisions)) then ((0, 0), 2)
  else if (meanF s k seen).2 < (meanF s k seen).1 then ((0, 0), 7) else (meanF s k seen, 0)
theorem RdI.one {w : World} {sl : Value} {xs : List Int} (h : RdI w sl xs) : sl.oneCell' = true := by obtain ⟨_, ad, cap, rfl, _⟩ := h; rfl
def NB (s : Sn) : Prop := (s.weights.length : Int) ≤ 9000000000000000000
theorem asked_c (s : Sn) (hn : NB s) (k d : Int) (sl : Value) (w : World) (hr : RdI w sl s.weights) : CnV Tryz.prog 100 #[spV s sl, vi k, vi d] w (vi (askF s k d)) := by
  refine cnv (vs := [_, _, _]) Tryz.func100 rfl rfl ?_
  all_goals refine tc_seq fun K1 hK1 => ?_; refine tc_region ?_; refine tl_e (e_box rfl rfl rfl) rfl (fun _ _ => ?_); refine tl_q (y_assign rfl) rfl ?_; refine tl_nil ?_; ((refine hK1 ?_; try (clear hK1; clear K1)))
  all_goals refine tc_seq fun K2 hK2 => ?_; refine tc_seq fun K3 hK3 => ?_; refine tc_region ?_; refine tl_q (y_loadW rfl (by repeat constructor) (by rfl)) rfl ?_; refine tl_e (e_callV rfl (.cons rfl .nil) (fun w' hw' => chk_c s hn _ w' (hr.fr (hw'.fr (by simp))))) rfl (fun _ _ => ?_); refine tl_q (y_assign rfl) rfl ?_; refine tl_nil ?_; ((refine hK3 ?_; try (clear hK3; clear K3)))
  all_goals refine tc_seq fun K4 hK4 => ?_; refine tc_region ?_; refine tl_q (y_move rfl) rfl ?_; refine tl_q (y_neq rfl rfl) rfl ?_; refine tl_nil ?_; ((refine hK4 ?_; try (clear hK4; clear K4)))
  all_goals (
   refine tc_cond rfl (fun hc => ?_) (fun hc => ?_)
   · try simp only [qn1, qn2, qn3, qn4, qn5, qn6, qn7, qn8] at hc
     all_goals refine tc_seq fun K5 hK5 => ?_; refine tc_region ?_; refine tl_q (y_move rfl) rfl ?_; refine tl_q (y_assign rfl) rfl ?_; refine tl_nil ?_; ((refine hK5 ?_; try (clear hK5; clear K5)))
     all_goals refine tc_ret ?_; (repeat (refine tk_then_ret ?_))
     all_goals (refine tk_ret rfl rfl (.cons (.tmp rfl) .nil) ?_)
     all_goals (
      refine fun w' hw' => ⟨congrArg (fun n => Ending.returned (vi n)) ?_, hw'.fr (by simp)⟩
      unfold askF
      first | rw [if_pos (by omega)] | rw [if_neg (by omega), if_neg (by omega)] | rw [if_neg (by omega), if_pos (by omega)])
   · try simp only [qn1, qn2, qn3, qn4, qn5, qn6, qn7, qn8] at hc
     all_goals refine tc_skip ?_; ((refine hK2 ?_; try (clear hK2; clear K2)))
     all_goals refine tc_seq fun K6 hK6 => ?_; refine tc_seq fun K7 hK7 => ?_; refine tc_region ?_; refine tl_q (y_loadW rfl (by repeat constructor) (by rfl)) rfl ?_; refine tl_q (y_move rfl) rfl ?_; refine tl_e (e_callV rfl (.cons rfl (.cons rfl .nil)) (fun w' hw' => load_c s _ _ w' (hr.fr (hw'.fr (by simp))))) rfl (fun _ _ => ?_); refine tl_q (y_not_dec rfl) rfl ?_; refine tl_q (y_move rfl) rfl ?_; ((refine tl_gs rfl rfl (fun hc => ?_) (fun hc => ?_) <;> (try simp only [qn1, qn2, qn3, qn4, qn5, qn6, qn7, qn8] at hc) <;> (first | refine tl_sk rfl rfl rfl rfl ?_ | refine tl_qg rfl rfl (y_move rfl) rfl ?_)))
     all_goals (first | refine tl_sk rfl rfl rfl rfl ?_ | refine tl_eg rfl rfl rfl (e_callV rfl (.cons rfl .nil) (fun w' hw' => density_c _ w')) (fun _ _ => ?_)); (first | refine tl_sk rfl rfl rfl rfl ?_ | refine tl_qg rfl rfl (y_not_dec rfl) rfl ?_); (first | refine tl_q (y_pick_t rfl rfl) rfl ?_ | refine tl_q (y_pick_f rfl rfl) rfl ?_); refine tl_nil ?_; ((refine hK7 ?_; try (clear hK7; clear K7)))
     all_goals (
      refine tc_cond rfl (fun hc => ?_) (fun hc => ?_)
      · try simp only [qn1, qn2, qn3, qn4, qn5, qn6, qn7, qn8] at hc
        all_goals refine tc_seq fun K8 hK8 => ?_; refine tc_region ?_; refine tl_q (y_assign rfl) rfl ?_; refine tl_nil ?_; ((refine hK8 ?_; try (clear hK8; clear K8)))
        all_goals refine tc_ret ?_; (repeat (refine tk_then_ret ?_))
        all_goals (refine tk_ret rfl rfl (.cons (.tmp rfl) .nil) ?_)
        all_goals (
         refine fun w' hw' => ⟨congrArg (fun n => Ending.returned (vi n)) ?_, hw'.fr (by simp)⟩
         unfold askF
         first | rw [if_pos (by omega)] | rw [if_neg (by omega), if_neg (by omega)] | rw [if_neg (by omega), if_pos (by omega)])
      · try simp only [qn1, qn2, qn3, qn4, qn5, qn6, qn7, qn8] at hc
        all_goals ((first | (exfalso; with_reducible exact btf hc) | skip))
        all_goals refine tc_skip ?_; ((refine hK6 ?_; try (clear hK6; clear K6)))
        all_goals refine tc_seq fun K9 hK9 => ?_; refine tc_region ?_; refine tl_q (y_assign rfl) rfl ?_; refine tl_nil ?_; ((refine hK9 ?_; try (clear hK9; clear K9)))
        all_goals refine tc_ret ?_; (repeat (first | refine tk_then_ret ?_))
        all_goals (refine tk_ret rfl rfl (.cons (.tmp rfl) .nil) ?_)
        all_goals (
         refine fun w' hw' => ⟨congrArg (fun n => Ending.returned (vi n)) ?_, hw'.fr (by simp)⟩
         unfold askF
         first | rw [if_pos (by omega)] | rw [if_neg (by omega), if_neg (by omega)] | rw [if_neg (by omega), if_pos (by omega)])))
theorem at_c (s : Sn) (hs : VS s) (k d : Int) (h0 : 0 ≤ k) (h1 : k ≤ s.weights.length) (h2 : 1 ≤ d) (h3 : d ≤ 2000) (sl : Value) (w : World) (hr : RdI w sl s.weights) : CnV Tryz.prog 101 #[spV s sl, vi k, vi d] w (vi (atF s k d)) := by
  have hbd := massF_bd hs h0 h1
  have hv1 := hs.v1
  have hv2 := hs.v2
  have hdv : 0 ≤ d * s.volume ∧ d * s.volume ≤ 10000000 := ⟨Int.mul_nonneg (by omega) (by omega), by have := Int.mul_le_mul (a := d) (c := 2000) (b := s.volume) (d := 5000) (by omega) (by omega) (by omega) (by omega); omega⟩
  refine cnv (vs := [_, _, _]) Tryz.func101 rfl rfl ?_
  all_goals refine tc_seq fun K1 hK1 => ?_; refine tc_region ?_; refine tl_e (e_box rfl rfl rfl) rfl (fun _ _ => ?_); refine tl_q (y_assign rfl) rfl ?_; refine tl_nil ?_; ((refine hK1 ?_; try (clear hK1; clear K1)))
  all_goals refine tc_seq fun K2 hK2 => ?_; refine tc_region ?_; refine tl_q (y_loadW rfl (by repeat constructor) (by rfl)) rfl ?_; refine tl_q (y_move rfl) rfl ?_; refine tl_e (e_callV rfl (.cons rfl (.cons rfl .nil)) (fun w' hw' => floating_c s hs k h0 h1 _ w' (hr.fr (hw'.fr (by simp))))) rfl (fun _ _ => ?_); refine tl_e (e_allocN rfl) rfl (fun _ _ => ?_); refine tl_e (e_storeW rfl rfl (by repeat constructor) (by rfl) (by rfl) (by simp [Value.oneCell'])) rfl (fun _ _ => ?_); refine tl_nil ?_; ((refine hK2 ?_; try (clear hK2; clear K2)))
  all_goals refine tc_seq fun K3 hK3 => ?_; refine tc_region ?_; refine tl_q (y_loadW rfl (by repeat constructor) (by rfl)) rfl ?_; refine tl_q (y_move rfl) rfl ?_; refine tl_e (e_callV rfl (.cons rfl (.cons rfl .nil)) (fun w' hw' => mass_c s hs k h0 h1 _ w' (hr.fr (hw'.fr (by simp))))) rfl (fun _ _ => ?_); refine tl_q (y_mul rfl rfl (by omega)) rfl ?_; refine tl_q (y_assign rfl) rfl ?_; refine tl_nil ?_; ((refine hK3 ?_; try (clear hK3; clear K3)))
  all_goals refine tc_seq fun K4 hK4 => ?_; refine tc_block ?_; refine tc_seq fun K5 hK5 => ?_; refine tc_region ?_; refine tl_q (y_move rfl) rfl ?_; refine tl_q (y_field rfl) rfl ?_; refine tl_q (y_load1 rfl (by repeat constructor) (by rfl)) rfl ?_; refine tl_q (y_field rfl) rfl ?_; refine tl_q (y_load1 rfl (by repeat constructor) (by rfl)) rfl ?_; refine tl_e (e_callV rfl (.cons rfl (.cons rfl (.cons rfl .nil))) (fun w hw => within_c _ _ _ w)) rfl (fun _ _ => ?_); refine tl_q (y_assign rfl) rfl ?_; refine tl_nil ?_; ((refine hK5 ?_; try (clear hK5; clear K5)))
  all_goals (
   refine tc_cond rfl (fun hc => ?_) (fun hc => ?_)
   · try simp only [qn1, qn2, qn3, qn4, qn5, qn6, qn7, qn8] at hc
     all_goals refine tc_seq fun K6 hK6 => ?_; refine tc_region ?_; refine tl_q (y_assign rfl) rfl ?_; refine tl_nil ?_; ((refine hK6 ?_; try (clear hK6; clear K6)))
     all_goals refine tc_ret ?_; (repeat (first | refine tk_then_ret ?_ | refine tk_block_ret ?_))
     all_goals (refine tk_ret rfl rfl (.cons (.tmp rfl) .nil) ?_)
     all_goals (
      refine fun w' hw' => ⟨congrArg (fun n => Ending.returned (vi n)) ?_, hw'.fr (by simp)⟩
      unfold atF
      first | rw [if_pos (by omega)] | rw [if_neg (by omega), if_pos (by omega)] | rw [if_neg (by omega), if_neg (by omega)])
   · try simp only [qn1, qn2, qn3, qn4, qn5, qn6, qn7, qn8] at hc
     all_goals refine tc_seq fun K7 hK7 => ?_; refine tc_region ?_; refine tl_q (y_move rfl) rfl ?_; refine tl_q (y_move rfl) rfl ?_; refine tl_q (y_field rfl) rfl ?_; refine tl_q (y_load1 rfl (by repeat constructor) (by rfl)) rfl ?_; refine tl_q (y_mul rfl rfl (by omega)) rfl ?_; refine tl_q (y_lss rfl rfl) rfl ?_; refine tl_q (y_assign rfl) rfl ?_; refine tl_nil ?_; ((refine hK7 ?_; try (clear hK7; clear K7)))
     all_goals (
      refine tc_cond rfl (fun hc => ?_) (fun hc => ?_)
      · try simp only [qn1, qn2, qn3, qn4, qn5, qn6, qn7, qn8] at hc
        all_goals refine tc_seq fun K8 hK8 => ?_; refine tc_region ?_; refine tl_q (y_assign rfl) rfl ?_; refine tl_nil ?_; ((refine hK8 ?_; try (clear hK8; clear K8)))
        all_goals refine tc_ret ?_; (repeat (first | refine tk_then_ret ?_ | refine tk_block_ret ?_))
        all_goals (refine tk_ret rfl rfl (.cons (.tmp rfl) .nil) ?_)
        all_goals (
         refine fun w' hw' => ⟨congrArg (fun n => Ending.returned (vi n)) ?_, hw'.fr (by simp)⟩
         unfold atF
         first | rw [if_pos (by omega)] | rw [if_neg (by omega), if_pos (by omega)] | rw [if_neg (by omega), if_neg (by omega)])
      · try simp only [qn1, qn2, qn3, qn4, qn5, qn6, qn7, qn8] at hc
        all_goals refine tc_skip ?_; ((refine hK4 ?_; try (clear hK4; clear K4)))
        all_goals refine tc_seq fun K9 hK9 => ?_; refine tc_region ?_; refine tl_q (y_assign rfl) rfl ?_; refine tl_nil ?_; ((refine hK9 ?_; try (clear hK9; clear K9)))
        all_goals refine tc_ret ?_; (repeat (first | refine tk_then_ret ?_))
        all_goals (refine tk_ret rfl rfl (.cons (.tmp rfl) .nil) ?_)
        all_goals (
         refine fun w' hw' => ⟨congrArg (fun n => Ending.returned (vi n)) ?_, hw'.fr (by simp)⟩
         unfold atF
         first | rw [if_pos (by omega)] | rw [if_neg (by omega), if_pos (by omega)] | rw [if_neg (by omega), if_neg (by omega)])))
theorem mean_e (s : Sn) (hn : NB s) (k seen : Int) (sl : Value) (w : World) (hr : RdI w sl s.weights) : CnV Tryz.prog 78 #[spV s sl, vi k, vi seen] w (.tuple #[rV (meanE s k seen).1, vi (meanE s k seen).2]) := by
  refine cnv (vs := [_, _, _]) Tryz.func78 rfl rfl ?_
  all_goals refine tc_seq fun K1 hK1 => ?_; refine tc_region ?_; refine tl_e (e_box rfl rfl rfl) rfl (fun _ _ => ?_); refine tl_e (e_allocN rfl) rfl (fun _ _ => ?_); refine tl_q (y_assign rfl) rfl ?_; refine tl_nil ?_; ((refine hK1 ?_; try (clear hK1; clear K1)))
  all_goals refine tc_seq fun K2 hK2 => ?_; refine tc_seq fun K3 hK3 => ?_; refine tc_region ?_; refine tl_q (y_loadW rfl (by repeat constructor) (by rfl)) rfl ?_; refine tl_e (e_callV rfl (.cons rfl .nil) (fun w' hw' => chk_c s hn _ w' (hr.fr (hw'.fr (by simp))))) rfl (fun _ _ => ?_); refine tl_q (y_assign rfl) rfl ?_; refine tl_nil ?_; ((refine hK3 ?_; try (clear hK3; clear K3)))
  all_goals refine tc_seq fun K4 hK4 => ?_; refine tc_region ?_; refine tl_q (y_move rfl) rfl ?_; refine tl_q (y_neq rfl rfl) rfl ?_; refine tl_nil ?_; ((refine hK4 ?_; try (clear hK4; clear K4)))
  all_goals (
   refine tc_cond rfl (fun hc => ?_) (fun hc => ?_)
   · try simp only [qn1, qn2, qn3, qn4, qn5, qn6, qn7, qn8] at hc
     all_goals refine tc_seq fun K5 hK5 => ?_; refine tc_region ?_; refine tl_q (y_build_0) rfl ?_; refine tl_q (y_move rfl) rfl ?_; refine tl_e (e_storeW rfl rfl (by repeat constructor) (by rfl) (by rfl) (by simp [Value.oneCell'])) rfl (fun _ _ => ?_); refine tl_q (y_assign rfl) rfl ?_; refine tl_nil ?_; ((refine hK5 ?_; try (clear hK5; clear K5)))
     all_goals refine tc_ret ?_; (repeat (refine tk_then_ret ?_))
     all_goals (refine tk_ret rfl rfl (.cons (.agg inferInstance rfl (by repeat constructor) (by rfl)) (.cons (.tmp rfl) .nil)) ?_)
     all_goals (
      refine fun w' hw' => ⟨?_, hw'.fr (by simp)⟩
      unfold meanE
      first | (rw [if_pos (by omega)]; rfl) | (rw [if_neg (by omega), if_pos (by omega)]; rfl) | (rw [if_neg (by omega), if_neg (by omega), if_pos (by omega)]; rfl) | (rw [if_neg (by omega), if_neg (by omega), if_neg (by omega)]; rfl))
   · try simp only [qn1, qn2, qn3, qn4, qn5, qn6, qn7, qn8] at hc
     all_goals refine tc_skip ?_; ((refine hK2 ?_; try (clear hK2; clear K2)))
     all_goals refine tc_seq fun K6 hK6 => ?_; refine tc_seq fun K7 hK7 => ?_; refine tc_region ?_; refine tl_q (y_loadW rfl (by repeat constructor) (by rfl)) rfl ?_; refine tl_q (y_move rfl) rfl ?_; refine tl_e (e_callV rfl (.cons rfl (.cons rfl .nil)) (fun w' hw' => load_c s _ _ w' (hr.fr (hw'.fr (by simp))))) rfl (fun _ _ => ?_); refine tl_q (y_not_dec rfl) rfl ?_; refine tl_q (y_move rfl) rfl ?_; ((refine tl_gs rfl rfl (fun hc => ?_) (fun hc => ?_) <;> (try simp only [qn1, qn2, qn3, qn4, qn5, qn6, qn7, qn8] at hc) <;> (first | refine tl_sk rfl rfl rfl rfl ?_ | refine tl_qg rfl rfl (y_loadW rfl (by repeat constructor) (by rfl)) rfl ?_)))
     all_goals (first | refine tl_sk rfl rfl rfl rfl ?_ | refine tl_qg rfl rfl (y_move rfl) rfl ?_); (first | refine tl_sk rfl rfl rfl rfl ?_ | refine tl_eg rfl rfl rfl (e_callV rfl (.cons rfl (.cons rfl .nil)) (fun w' hw' => seen_c s _ _ w')) (fun _ _ => ?_)); (first | refine tl_sk rfl rfl rfl rfl ?_ | refine tl_qg rfl rfl (y_not_dec rfl) rfl ?_); (first | refine tl_q (y_pick_t rfl rfl) rfl ?_ | refine tl_q (y_pick_f rfl rfl) rfl ?_); refine tl_nil ?_; ((refine hK7 ?_; try (clear hK7; clear K7)))
     all_goals (
      refine tc_cond rfl (fun hc => ?_) (fun hc => ?_)
      · try simp only [qn1, qn2, qn3, qn4, qn5, qn6, qn7, qn8] at hc
        all_goals refine tc_seq fun K8 hK8 => ?_; refine tc_region ?_; refine tl_q (y_build_0) rfl ?_; refine tl_e (e_storeW rfl rfl (by repeat constructor) (by rfl) (by rfl) (by simp [Value.oneCell'])) rfl (fun _ _ => ?_); refine tl_q (y_assign rfl) rfl ?_; refine tl_nil ?_; ((refine hK8 ?_; try (clear hK8; clear K8)))
        all_goals refine tc_ret ?_; (repeat (refine tk_then_ret ?_))
        all_goals (refine tk_ret rfl rfl (.cons (.agg inferInstance rfl (by repeat constructor) (by rfl)) (.cons (.tmp rfl) .nil)) ?_)
        all_goals (
         refine fun w' hw' => ⟨?_, hw'.fr (by simp)⟩
         unfold meanE
         first | (rw [if_pos (by omega)]; rfl) | (rw [if_neg (by omega), if_pos (by omega)]; rfl) | (rw [if_neg (by omega), if_neg (by omega), if_pos (by omega)]; rfl) | (rw [if_neg (by omega), if_neg (by omega), if_neg (by omega)]; rfl))
      · try simp only [qn1, qn2, qn3, qn4, qn5, qn6, qn7, qn8] at hc
        all_goals ((first | (exfalso; with_reducible exact btf hc) | skip))
        all_goals refine tc_skip ?_; ((refine hK6 ?_; try (clear hK6; clear K6)))
        all_goals refine tc_seq fun K9 hK9 => ?_; (have hq : (0 ≤ k ∧ k ≤ s.weights.length) ∧ (-2 ≤ seen ∧ seen ≤ s.divisions) := by omega)
        all_goals (have hv : VS s := chkF_valid.1 (by omega))
        all_goals refine tc_region ?_; refine tl_q (y_loadW rfl (by repeat constructor) (by rfl)) rfl ?_; refine tl_e (e_callN rfl (.cons rfl .nil) (fun w' hw' => work_c s _ hr.one w')) rfl (fun x _ => ?_); refine tl_q (y_move rfl) rfl ?_; refine tl_q (y_move rfl) rfl ?_; refine tl_q (y_build_2 rfl rfl rfl rfl) rfl ?_; refine tl_e (e_callU rfl (.cons rfl (.cons rfl .nil)) (fun w' hw' => mean_c s hv k seen hq.1.1 hq.1.2 hq.2.1 hq.2.2 _ hr.one w' (hr.fr (hw'.fr (by simp))) x.1 x.2 #[] 0 (hw'.heap _ (HM.mem (by repeat constructor))) (hw'.heap _ (HM.mem (by repeat constructor))) (fun e he => by simp at he)) (fun _ => (by repeat constructor))) rfl (fun _ _ => ?_); refine tl_e (e_allocN rfl) rfl (fun _ _ => ?_); refine tl_e (e_storeW rfl rfl (by repeat constructor) (by rfl) (by rfl) (by simp [Value.oneCell'])) rfl (fun _ _ => ?_); refine tl_nil ?_; ((refine hK9 ?_; try (clear hK9; clear K9)))
        all_goals refine tc_seq fun K10 hK10 => ?_; refine tc_seq fun K11 hK11 => ?_; refine tc_region ?_; refine tl_q (y_loadW rfl (by repeat constructor) (by rfl)) rfl ?_; refine tl_e (e_callV rfl (.cons rfl .nil) (fun w' hw' => empty_c _ _ w')) rfl (fun _ _ => ?_); refine tl_nil ?_; ((refine hK11 ?_; try (clear hK11; clear K11)))
        all_goals (
         refine tc_cond rfl (fun hc => ?_) (fun hc => ?_)
         · try simp only [qn1, qn2, qn3, qn4, qn5, qn6, qn7, qn8] at hc
           all_goals refine tc_seq fun K12 hK12 => ?_; refine tc_region ?_; refine tl_q (y_build_0) rfl ?_; refine tl_e (e_storeW rfl rfl (by repeat constructor) (by rfl) (by rfl) (by simp [Value.oneCell'])) rfl (fun _ _ => ?_); refine tl_q (y_assign rfl) rfl ?_; refine tl_nil ?_; ((refine hK12 ?_; try (clear hK12; clear K12)))
           all_goals refine tc_ret ?_; (repeat (refine tk_then_ret ?_))
           all_goals (refine tk_ret rfl rfl (.cons (.agg inferInstance rfl (by repeat constructor) (by rfl)) (.cons (.tmp rfl) .nil)) ?_)
           all_goals (
            refine fun w' hw' => ⟨?_, hw'.fr (by simp)⟩
            unfold meanE
            first | (rw [if_pos (by omega)]; rfl) | (rw [if_neg (by omega), if_pos (by omega)]; rfl) | (rw [if_neg (by omega), if_neg (by omega), if_pos (by omega)]; rfl) | (rw [if_neg (by omega), if_neg (by omega), if_neg (by omega)]; rfl))
         · try simp only [qn1, qn2, qn3, qn4, qn5, qn6, qn7, qn8] at hc
           all_goals refine tc_skip ?_; ((refine hK10 ?_; try (clear hK10; clear K10)))
           all_goals refine tc_seq fun K13 hK13 => ?_; refine tc_region ?_; refine tl_q (y_loadW rfl (by repeat constructor) (by rfl)) rfl ?_; refine tl_e (e_storeW rfl rfl (by repeat constructor) (by rfl) (by rfl) (by simp [Value.oneCell'])) rfl (fun _ _ => ?_); refine tl_q (y_assign rfl) rfl ?_; refine tl_nil ?_; ((refine hK13 ?_; try (clear hK13; clear K13)))
           all_goals refine tc_ret ?_; (repeat (first | refine tk_then_ret ?_))
           all_goals (refine tk_ret rfl rfl (.cons (.agg inferInstance rfl (by repeat constructor) (by rfl)) (.cons (.tmp rfl) .nil)) ?_)
           all_goals (
            refine fun w' hw' => ⟨?_, hw'.fr (by simp)⟩
            unfold meanE
            first | (rw [if_pos (by omega)]; rfl) | (rw [if_neg (by omega), if_pos (by omega)]; rfl) | (rw [if_neg (by omega), if_neg (by omega), if_pos (by omega)]; rfl) | (rw [if_neg (by omega), if_neg (by omega), if_neg (by omega)]; rfl)))))
theorem see_c (s : Sn) (hn : NB s) (k d : Int) (sl : Value) (w : World) (hr : RdI w sl s.weights) : CnV Tryz.prog 39 #[spV s sl, vi k, vi d] w (.tuple #[rV (seeF s k d).1, vi (seeF s k d).2]) := by
  refine cnv (vs := [_, _, _]) Tryz.func39 rfl rfl ?_
  all_goals refine tc_seq fun K1 hK1 => ?_; refine tc_region ?_; refine tl_e (e_box rfl rfl rfl) rfl (fun _ _ => ?_); refine tl_e (e_allocN rfl) rfl (fun b6 _ => ?_); refine tl_q (y_assign rfl) rfl ?_; refine tl_nil ?_; ((refine hK1 ?_; try (clear hK1; clear K1)))
  all_goals refine tc_seq fun K2 hK2 => ?_; refine tc_seq fun K3 hK3 => ?_; refine tc_region ?_; refine tl_q (y_loadW rfl (by repeat constructor) (by rfl)) rfl ?_; refine tl_q (y_move rfl) rfl ?_; refine tl_q (y_move rfl) rfl ?_; refine tl_e (e_callV rfl (.cons rfl (.cons rfl (.cons rfl .nil))) (fun w' hw' => asked_c s hn k d _ w' (hr.fr (hw'.fr (by simp))))) rfl (fun _ _ => ?_); refine tl_q (y_assign rfl) rfl ?_; refine tl_nil ?_; ((refine hK3 ?_; try (clear hK3; clear K3)))
  all_goals refine tc_seq fun K4 hK4 => ?_; refine tc_region ?_; refine tl_q (y_move rfl) rfl ?_; refine tl_q (y_neq rfl rfl) rfl ?_; refine tl_nil ?_; ((refine hK4 ?_; try (clear hK4; clear K4)))
  all_goals (
   refine tc_cond rfl (fun hc => ?_) (fun hc => ?_)
   · try simp only [qn1, qn2, qn3, qn4, qn5, qn6, qn7, qn8] at hc
     all_goals refine tc_seq fun K5 hK5 => ?_; refine tc_region ?_; refine tl_q (y_build_0) rfl ?_; refine tl_q (y_move rfl) rfl ?_; refine tl_e (e_storeW rfl rfl (by repeat constructor) (by rfl) (by rfl) (by simp [Value.oneCell'])) rfl (fun _ _ => ?_); refine tl_q (y_assign rfl) rfl ?_; refine tl_nil ?_; ((refine hK5 ?_; try (clear hK5; clear K5)))
     all_goals refine tc_ret ?_; (repeat (refine tk_then_ret ?_))
     all_goals (refine tk_ret rfl rfl (.cons (.agg inferInstance rfl (by repeat constructor) (by rfl)) (.cons (.tmp rfl) .nil)) ?_)
     all_goals (
      refine fun w' hw' => ⟨?_, hw'.fr (by simp)⟩
      unfold seeF
      first
      | (rw [if_pos (by omega)]; rfl)
      | (rw [if_neg (by omega), if_pos (by omega)]; rfl)
      | (rw [if_neg (by omega), if_neg (by omega), show s.divisions.toNat + 1 = i from by omega]; rfl))
   · try simp only [qn1, qn2, qn3, qn4, qn5, qn6, qn7, qn8] at hc
     all_goals refine tc_skip ?_; ((refine hK2 ?_; try (clear hK2; clear K2)))
     all_goals refine tc_seq fun K6 hK6 => ?_; refine tc_seq fun K7 hK7 => ?_
     have hv := askF_0 hc
     all_goals refine tc_region ?_; refine tl_q (y_loadW rfl (by repeat constructor) (by rfl)) rfl ?_; refine tl_q (y_move rfl) rfl ?_; refine tl_q (y_move rfl) rfl ?_; refine tl_e (e_callV rfl (.cons rfl (.cons rfl (.cons rfl .nil))) (fun w' hw' => at_c s hv.1 k d hv.2.1 hv.2.2.1 hv.2.2.2.1 hv.2.2.2.2 _ w' (hr.fr (hw'.fr (by simp))))) rfl (fun _ _ => ?_); refine tl_q (y_neq rfl rfl) rfl ?_; refine tl_nil ?_; ((refine hK7 ?_; try (clear hK7; clear K7)))
     all_goals (
      refine tc_cond rfl (fun hc => ?_) (fun hc => ?_)
      · try simp only [qn1, qn2, qn3, qn4, qn5, qn6, qn7, qn8] at hc
        all_goals refine tc_seq fun K8 hK8 => ?_; refine tc_region ?_; refine tl_q (y_build_0) rfl ?_; refine tl_e (e_storeW rfl rfl (by repeat constructor) (by rfl) (by rfl) (by simp [Value.oneCell'])) rfl (fun _ _ => ?_); refine tl_q (y_assign rfl) rfl ?_; refine tl_nil ?_; ((refine hK8 ?_; try (clear hK8; clear K8)))
        all_goals refine tc_ret ?_; (repeat (refine tk_then_ret ?_))
        all_goals (refine tk_ret rfl rfl (.cons (.agg inferInstance rfl (by repeat constructor) (by rfl)) (.cons (.tmp rfl) .nil)) ?_)
        all_goals (
         refine fun w' hw' => ⟨?_, hw'.fr (by simp)⟩
         unfold seeF
         first
         | (rw [if_pos (by omega)]; rfl)
         | (rw [if_neg (by omega), if_pos (by omega)]; rfl)
         | (rw [if_neg (by omega), if_neg (by omega), show s.divisions.toNat + 1 = i from by omega]; rfl))
      · try simp only [qn1, qn2, qn3, qn4, qn5, qn6, qn7, qn8] at hc
        all_goals refine tc_skip ?_; ((refine hK6 ?_; try (clear hK6; clear K6)))
        all_goals refine tc_seq fun K9 hK9 => ?_; refine tc_region ?_; refine tl_q (y_loadW rfl (by repeat constructor) (by rfl)) rfl ?_; refine tl_e (e_callN rfl (.cons rfl .nil) (fun w' hw' => work_c s _ hr.one w')) rfl (fun x _ => ?_); refine tl_q (y_assign rfl) rfl ?_; refine tl_nil ?_; ((refine hK9 ?_; try (clear hK9; clear K9)))
        all_goals refine tc_seq fun K10 hK10 => ?_; refine tc_region ?_; refine tl_q (y_field rfl) rfl ?_; refine tl_q (y_load1 rfl (by repeat constructor) (by rfl)) rfl ?_; refine tl_q (y_build_2 rfl rfl rfl rfl) rfl ?_; refine tl_e (e_allocN rfl) rfl (fun b10 _ => ?_); refine tl_e (e_storeW rfl rfl (by repeat constructor) (by rfl) (by rfl) (by simp [Value.oneCell'])) rfl (fun _ _ => ?_); refine tl_nil ?_; ((refine hK10 ?_; try (clear hK10; clear K10)))
        all_goals refine tc_seq fun K11 hK11 => ?_; refine tc_seq fun K12 hK12 => ?_
        have hd1 := hv.1.d1
        have hd2 := hv.1.d2
        all_goals refine tc_region ?_; refine tl_q (y_field rfl) rfl ?_; refine tl_q (y_load1 rfl (by repeat constructor) (by rfl)) rfl ?_; refine tl_q (y_add rfl rfl (by omega)) rfl ?_; refine tl_q (y_move rfl) rfl ?_; refine tl_nil ?_; ((refine hK12 ?_; try (clear hK12; clear K12)))
        all_goals refine tc_block ?_
        all_goals (
         refine tc_loop (fun p : Nat × Array MapEntry × Nat => p.1 ≤ s.divisions.toNat + 1 ∧ Cache (meanV s) p.2.1.toList) (fun p => [(1, vi k), (2, vi d), (6, ptr b6), (9, ptr x.1), (10, ptr b10), (34, vi (s.divisions + 1)), (35, vi p.1)]) (fun _ => [(w, [])]) (fun p => [(b10, .cells #[vi (seeAcc s k d p.1).1, vi (seeAcc s k d p.1).2] 80 (0, 0)), (x.1, wkO s sl x.2), (x.2, .map p.2.1 p.2.2), (b6, .cells #[vi 0, vi 0] 80 (0, 0))]) (fun p => s.divisions.toNat + 1 - p.1) ?_ ?_
         · exact tk_start (0, #[], 0) ⟨Nat.zero_le _, fun e he => by simp at he⟩ (.cons rfl (.cons rfl (.cons rfl (.cons rfl (.cons rfl (.cons rfl (.cons rfl .nil))))))) (fun _ h => h.sub (fun _ h => h) SB.s)
         · rintro ⟨i, es, ck⟩ ⟨hi, hcache⟩
           dsimp only at hi hcache ⊢
           all_goals refine tc_seq fun K13 hK13 => ?_; refine tc_region ?_; refine tl_q (y_lss rfl rfl) rfl ?_; refine tl_nil ?_; ((refine hK13 ?_; try (clear hK13; clear K13)))
           all_goals refine tc_seq fun K14 hK14 => ?_
           all_goals (
            refine tc_cond rfl (fun hc => ?_) (fun hc => ?_)
            · try simp only [qn1, qn2, qn3, qn4, qn5, qn6, qn7, qn8] at hc
              all_goals refine tc_skip ?_; ((refine hK14 ?_; try (clear hK14; clear K14)))
              all_goals refine tc_seq fun K15 hK15 => ?_; refine tc_block ?_; refine tc_seq fun K16 hK16 => ?_; refine tc_region ?_; refine tl_q (y_move rfl) rfl ?_; refine tl_q (y_assign rfl) rfl ?_; refine tl_nil ?_; ((refine hK16 ?_; try (clear hK16; clear K16)))
              all_goals refine tc_seq fun K17 hK17 => ?_; refine tc_region ?_; refine tl_q (y_move rfl) rfl ?_; refine tl_q (y_move rfl) rfl ?_; refine tl_q (y_move rfl) rfl ?_; refine tl_q (y_build_2 rfl rfl rfl rfl) rfl ?_; refine tl_e (e_callU rfl (.cons rfl (.cons rfl .nil)) (fun w' hw' => mean_c s hv.1 k i hv.2.1 hv.2.2.1 (by omega) (by omega) _ hr.one w' (hr.fr (hw'.fr (by simp))) x.1 x.2 es ck (hw'.heap _ (HM.mem (by repeat constructor))) (hw'.heap _ (HM.mem (by repeat constructor))) hcache) (fun _ => (by repeat constructor))) rfl (fun y hy => ?_); refine tl_e (e_allocN rfl) rfl (fun _ _ => ?_); refine tl_e (e_storeW rfl rfl (by repeat constructor) (by rfl) (by rfl) (by simp [Value.oneCell'])) rfl (fun _ _ => ?_); refine tl_nil ?_; ((refine hK17 ?_; try (clear hK17; clear K17)))
              all_goals refine tc_seq fun K18 hK18 => ?_; refine tc_region ?_; refine tl_q (y_move rfl) rfl ?_; refine tl_q (y_field rfl) rfl ?_; refine tl_q (y_load1 rfl (by repeat constructor) (by rfl)) rfl ?_; refine tl_q (y_field rfl) rfl ?_; refine tl_q (y_load1 rfl (by repeat constructor) (by rfl)) rfl ?_; refine tl_e (e_callV rfl (.cons rfl (.cons rfl (.cons rfl .nil))) (fun w hw => within_c _ _ _ w)) rfl (fun _ _ => ?_); refine tl_nil ?_; ((refine hK18 ?_; try (clear hK18; clear K18)))
              all_goals (
               refine tc_cond rfl (fun hc => ?_) (fun hc => ?_)
               · try simp only [qn1, qn2, qn3, qn4, qn5, qn6, qn7, qn8] at hc
                 all_goals refine tc_draw (by kernel_rfl) ?_; refine tx_p 0 rfl (by kernel_rfl) (y_field rfl) rfl (fun _ _ _ h => h) (fun _ h => h) ?_; refine tx_q 1 rfl (by kernel_rfl) (y_load1 rfl (by repeat constructor) (by rfl)) rfl (fun _ _ _ h => h) (fun _ h => h) ?_; refine tx_p 2 rfl (by kernel_rfl) (y_move rfl) rfl (fun _ _ _ h => h) (fun _ h => h) ?_; refine tx_p 5 rfl (by kernel_rfl) (y_field rfl) rfl (fun _ _ _ h => h) (fun _ h => h) ?_; refine tx_q 6 rfl (by kernel_rfl) (y_load1 rfl (by repeat constructor) (by rfl)) rfl (fun _ _ _ h => h) (fun _ h => h) ?_; refine tx_p 7 rfl (by kernel_rfl) (y_move rfl) rfl (fun _ _ _ h => h) (fun _ h => h) ?_; refine tx_p 8 rfl (by kernel_rfl) (y_max rfl rfl) rfl (fun _ _ _ h => h) (fun _ h => h) ?_; (refine tx_e 3 rfl (by kernel_rfl) rfl (e_bslice rfl (by (repeat (first | exact .nil | apply PV.one rfl rfl)); done) rfl rfl) (.inr qq1) (fun _ _ => ?_))
                 all_goals refine tx_e 4 rfl (by kernel_rfl) rfl (e_callV rfl (.cons rfl .nil) (fun w' hw' => minimum_c (seeAcc s k d i).1 i _ w' (RdI.own0 (xs := [(seeAcc s k d i).1, (i : Int)]) hw' (by repeat constructor)))) (.inr fun _ _ h => h) (fun _ _ => ?_); refine tx_p 9 rfl (by kernel_rfl) (y_build_2 rfl rfl rfl rfl) rfl (fun _ _ _ h => h) (fun _ h => h) ?_; refine tx_e 10 rfl (by kernel_rfl) rfl (e_storeW rfl rfl (by repeat constructor) (by rfl) (by rfl) (by simp [Value.oneCell'])) (.inl (by kernel_rfl)) (fun _ _ => ?_); refine tx_done (by kernel_rfl) ?_; ((refine hK15 ?_; try (clear hK15; clear K15)))
                 all_goals refine tc_region ?_; refine tl_q (y_add rfl rfl (by omega)) rfl ?_; refine tl_q (y_move rfl) rfl ?_; refine tl_nil ?_
                 all_goals (
                  have hstep := seeAcc_succ s k d i
                  first
                  | (rw [show seeStep s k d (seeAcc s k d i) i = (min (seeAcc s k d i).1 i, max (seeAcc s k d i).2 i) from by unfold seeStep; rw [if_pos (by omega)]] at hstep
                     refine tk_round (i + 1, y.1, y.2) ⟨by omega, hy⟩ (by omega) (.cons rfl (.cons rfl (.cons rfl (.cons rfl (.cons rfl (.cons rfl (.cons rfl .nil))))))) (fun _ h => ?_)
                     dsimp only
                     rw [hstep]
                     exact h.sub (fun _ h => h) SB.s)
                  | (rw [show seeStep s k d (seeAcc s k d i) i = seeAcc s k d i from by unfold seeStep; rw [if_neg (by omega)]] at hstep
                     refine tk_round (i + 1, y.1, y.2) ⟨by omega, hy⟩ (by omega) (.cons rfl (.cons rfl (.cons rfl (.cons rfl (.cons rfl (.cons rfl (.cons rfl .nil))))))) (fun _ h => ?_)
                     dsimp only
                     rw [hstep]
                     exact h.sub (fun _ h => h) SB.s))
               · try simp only [qn1, qn2, qn3, qn4, qn5, qn6, qn7, qn8] at hc
                 all_goals refine tc_skip ?_; ((refine hK15 ?_; try (clear hK15; clear K15)))
                 all_goals refine tc_region ?_; refine tl_q (y_add rfl rfl (by omega)) rfl ?_; refine tl_q (y_move rfl) rfl ?_; refine tl_nil ?_
                 all_goals (
                  have hstep := seeAcc_succ s k d i
                  first
                  | (rw [show seeStep s k d (seeAcc s k d i) i = (min (seeAcc s k d i).1 i, max (seeAcc s k d i).2 i) from by unfold seeStep; rw [if_pos (by omega)]] at hstep
                     refine tk_round (i + 1, y.1, y.2) ⟨by omega, hy⟩ (by omega) (.cons rfl (.cons rfl (.cons rfl (.cons rfl (.cons rfl (.cons rfl (.cons rfl .nil))))))) (fun _ h => ?_)
                     dsimp only
                     rw [hstep]
                     exact h.sub (fun _ h => h) SB.s)
                  | (rw [show seeStep s k d (seeAcc s k d i) i = seeAcc s k d i from by unfold seeStep; rw [if_neg (by omega)]] at hstep
                     refine tk_round (i + 1, y.1, y.2) ⟨by omega, hy⟩ (by omega) (.cons rfl (.cons rfl (.cons rfl (.cons rfl (.cons rfl (.cons rfl (.cons rfl .nil))))))) (fun _ h => ?_)
                     dsimp only
                     rw [hstep]
                     exact h.sub (fun _ h => h) SB.s)))
            · try simp only [qn1, qn2, qn3, qn4, qn5, qn6, qn7, qn8] at hc
              all_goals refine tc_exit ?_; ((refine hK11 ?_; try (clear hK11; clear K11)))
              all_goals refine tc_seq fun K19 hK19 => ?_; refine tc_region ?_; refine tl_q (y_loadW rfl (by repeat constructor) (by rfl)) rfl ?_; refine tl_e (e_storeW rfl rfl (by repeat constructor) (by rfl) (by rfl) (by simp [Value.oneCell'])) rfl (fun _ _ => ?_); refine tl_q (y_assign rfl) rfl ?_; refine tl_nil ?_; ((refine hK19 ?_; try (clear hK19; clear K19)))
              all_goals refine tc_ret ?_; (repeat (first | refine tk_then_ret ?_))
              all_goals (refine tk_ret rfl rfl (.cons (.agg inferInstance rfl (by repeat constructor) (by rfl)) (.cons (.tmp rfl) .nil)) ?_)
              all_goals (
               refine fun w' hw' => ⟨?_, hw'.fr (by simp)⟩
               unfold seeF
               first
               | (rw [if_pos (by omega)]; rfl)
               | (rw [if_neg (by omega), if_pos (by omega)]; rfl)
               | (rw [if_neg (by omega), if_neg (by omega), show s.divisions.toNat + 1 = i from by omega]; rfl))))))
end Go.Sp
/-
  Readings: what is valid, and what they narrow.
-/
namespace Go.Sp
open Go Go.Proofs
abbrev rdV (r : Int × Int) : Value := .agg #[vi r.1, vi r.2]
def flatR (l : List (Int × Int)) : List Value := l.flatMap fun r => [vi r.1, vi r.2]
/-- A slice that reads as readings. -/
def RdR (w : World) (v : Value) (l : List (Int × Int)) : Prop := Reads w v 2 l.length (flatR l)
theorem Reads.frS {w w' : World} {v : Value} {sz n : Nat} {vs : List Value} {S : List Nat} (h : Reads w v sz n vs) (f : Fr S w w') (hS : ∀ p m c, v = .slice (some p) m c → p.block ∉ S) : Reads w' v sz n vs := by
  obtain ⟨h1, ad, cap, h2, h3⟩ := h
  refine ⟨h1, ad, cap, h2, fun hn => ?_⟩
  obtain ⟨b, o, h4, h5⟩ := h3 hn
  refine ⟨b, o, h4, ?_⟩
  have hb : b ∉ S := hS ⟨b, o, none⟩ n cap (by rw [h2, h4])
  clear h1 h2 h3 h4 hn
  generalize n * sz = q at h5
  induction h5 with
  | nil => exact .nil
  | cons hv _ ih => exact .cons (f.cell (p := ⟨b, _, none⟩) hb hv) ih
theorem RdR.fr {w w' : World} {v : Value} {l : List (Int × Int)} (h : RdR w v l) (f : Fr [] w w') : RdR w' v l := Reads.frS h f (by simp)
theorem RdR.one {w : World} {v : Value} {l : List (Int × Int)} (h : RdR w v l) : v.oneCell' = true := by obtain ⟨_, ad, cap, rfl, _⟩ := h; rfl
theorem flatR_get (l : List (Int × Int)) : ∀ (i : Nat), i < l.length → (flatR l)[2 * i]? = some (vi (l.getD i (0, 0)).1) ∧ (flatR l)[2 * i + 1]? = some (vi (l.getD i (0, 0)).2) := by
  induction l with
  | nil => intro i hi; simp at hi
  | cons r l ih =>
    intro i hi
    cases i with
    | zero => simp [flatR]
    | succ i =>
      have := ih i (by simpa using hi)
      have e1 : 2 * (i + 1) = 2 * i + 1 + 1 := by omega
      simp only [flatR, List.flatMap_cons, List.cons_append, List.nil_append, e1, List.getElem?_cons_succ, List.getD_cons_succ]
      exact this
/-- A slice of readings, laid open. -/
theorem RdR.open {w : World} {v : Value} {l : List (Int × Int)} (h : RdR w v l) : ∃ ad cap b o, v = .slice ad l.length cap ∧ (0 < l.length → ad = some ⟨b, o, none⟩) ∧ ∀ w' S, Fr S w w' → b ∉ S → ∀ i, i < l.length → CA (fun k => w'.cell? ⟨b, k, none⟩) (o + i * 2) 2 [vi (l.getD i (0, 0)).1, vi (l.getD i (0, 0)).2] := by
  by_cases hn : l.length = 0
  · obtain ⟨_, ad, cap, h2, _⟩ := h
    exact ⟨ad, cap, 0, 0, h2, fun h => by omega, fun _ _ _ _ i hi => by omega⟩
  · obtain ⟨_, ad, cap, h2, h3⟩ := h
    obtain ⟨b, o, h4, h5⟩ := h3 hn
    refine ⟨ad, cap, b, o, h2, fun _ => h4, fun w' S f hb i hi => ?_⟩
    obtain ⟨g1, g2⟩ := flatR_get l i hi
    have c1 := h5.get _ _ g1
    have c2 := h5.get _ _ g2
    refine .cons (f.cell (p := ⟨b, o + i * 2, none⟩) hb (by rw [show o + i * 2 = o + 2 * i by omega]; exact c1)) (.cons (f.cell (p := ⟨b, o + i * 2 + 1, none⟩) hb (by rw [show o + i * 2 + 1 = o + (2 * i + 1) by omega]; exact c2)) .nil)
def idxR (xs : List (Int × Int)) (p : Int × Int → Bool) : Int := if xs.any p then (xs.findIdx p : Int) else -1
theorem idxR_hit {xs : List (Int × Int)} {p : Int × Int → Bool} {k : Nat} (hk : k < xs.length) (hp : p (xs.getD k (0, 0)) = true) (hn : ∀ j, j < k → p (xs.getD j (0, 0)) = false) : idxR xs p = k := by
  rw [List.getD_eq_getElem?_getD, List.getElem?_eq_getElem hk] at hp
  simp only [Option.getD_some] at hp
  have h1 : xs.any p = true := List.any_eq_true.2 ⟨_, List.getElem_mem hk, hp⟩
  unfold idxR
  rw [if_pos h1]
  have : xs.findIdx p = k := by
    apply (List.findIdx_eq hk).2
    refine ⟨hp, fun j hj => ?_⟩
    have := hn j hj
    rw [List.getD_eq_getElem?_getD, List.getElem?_eq_getElem (Nat.lt_trans hj hk)] at this
    simpa using this
  rw [this]
theorem idxR_miss {xs : List (Int × Int)} {p : Int × Int → Bool} (hn : ∀ j, j < xs.length → p (xs.getD j (0, 0)) = false) : idxR xs p = -1 := by
  unfold idxR
  rw [if_neg]
  intro h
  obtain ⟨x, hx, hp⟩ := List.any_eq_true.1 h
  obtain ⟨j, hj, rfl⟩ := List.getElem_of_mem hx
  have := hn j hj
  rw [List.getD_eq_getElem?_getD, List.getElem?_eq_getElem hj] at this
  simp only [Option.getD_some] at this
  rw [this] at hp; cases hp
theorem idxR_any (xs : List (Int × Int)) (p : Int × Int → Bool) : decide (0 ≤ idxR xs p) = xs.any p := by
  unfold idxR
  cases h : xs.any p
  · simp
  · simp
def TestsR (P : Program) (g : FuncId) (first cap : Array Value) (p : Int × Int → Bool) (w : World) : Prop := ∀ (x : Int × Int) (w' : World), Fr [] w w' → CnV P g (first ++ #[rdV x] ++ cap) w' (.bool (p x))
theorem TestsR.fr {P : Program} {g : FuncId} {first cap : Array Value} {p : Int × Int → Bool} {w w1 : World} (h : TestsR P g first cap p w) (f : Fr [] w w1) : TestsR P g first cap p w1 := fun x w' f' => h x w' (f.trans f' (by simp))
theorem index_c (xs : List Int) (hx : (xs.length : Int) ≤ 9000000000000000000) (v : Int) (sl : Value) (w : World) (hr : RdI w sl xs) : CnV Tryz.prog 142 #[sl, vi v] w (vi (idxF xs (fun x => decide (v = x)))) := by
  obtain ⟨ad, cp, b0, o, rfl, had, hcell⟩ := hr.open
  refine cnv (vs := [_, _]) Tryz.func142 rfl rfl ?_
  all_goals refine tc_seq fun K1 hK1 => ?_; refine tc_region ?_; refine tl_q (y_assign rfl) rfl ?_; refine tl_nil ?_; ((refine hK1 ?_; try (clear hK1; clear K1)))
  all_goals refine tc_seq fun K2 hK2 => ?_; refine tc_seq fun K3 hK3 => ?_; refine tc_region ?_; refine tl_q (y_move rfl) rfl ?_; refine tl_q (y_len rfl) rfl ?_; refine tl_q (y_move rfl) rfl ?_; refine tl_nil ?_; ((refine hK3 ?_; try (clear hK3; clear K3)))
  all_goals refine tc_block ?_
  all_goals (
   refine tc_loop (fun k : Nat => k ≤ xs.length ∧ ∀ j, j < k → decide (v = xs.getD j 0) = false) (fun k => [(0, .slice ad xs.length cp), (1, vi v), (7, vi xs.length), (8, vi k)]) (fun _ => [(w, [])]) (fun _ => []) (fun k => xs.length - k) ?_ ?_
   · exact tk_start 0 ⟨Nat.zero_le _, fun j hj => absurd hj (Nat.not_lt_zero j)⟩ (.cons rfl (.cons rfl (.cons rfl (.cons rfl .nil)))) (fun _ h => h)
   · rintro k ⟨hk, hj⟩
     all_goals refine tc_seq fun K4 hK4 => ?_; refine tc_region ?_; refine tl_q (y_lss rfl rfl) rfl ?_; refine tl_nil ?_; ((refine hK4 ?_; try (clear hK4; clear K4)))
     all_goals refine tc_seq fun K5 hK5 => ?_
     all_goals (
      refine tc_cond rfl (fun hc => ?_) (fun hc => ?_)
      · try simp only [qn1, qn2, qn3, qn4, qn5, qn6, qn7, qn8] at hc
        all_goals refine tc_skip ?_; ((refine hK5 ?_; try (clear hK5; clear K5)))
        all_goals refine tc_seq fun K6 hK6 => ?_; refine tc_block ?_; refine tc_seq fun K7 hK7 => ?_; refine tc_region ?_; refine tl_q (y_move rfl) rfl ?_; refine tl_q (y_assign rfl) rfl ?_; refine tl_nil ?_; ((refine hK7 ?_; try (clear hK7; clear K7)))
        all_goals refine tc_seq fun K8 hK8 => ?_
        have had' := had (by omega)
        all_goals refine tc_region ?_; refine tl_q (y_move rfl) rfl ?_; refine tl_q (y_move rfl) rfl ?_; refine tl_q (y_move rfl) rfl ?_; refine tl_q (y_index rfl rfl (by omega) had') rfl ?_; refine tl_q (y_load1o rfl (fun w' hw' => hcell w' (hw'.fr (by simp)) (Int.toNat k * 1) (by omega))) rfl ?_; refine tl_q (y_eql rfl rfl) rfl ?_; refine tl_nil ?_; ((refine hK8 ?_; try (clear hK8; clear K8)))
        all_goals (
         refine tc_cond rfl (fun hc => ?_) (fun hc => ?_)
         · try simp only [qn1, qn2, qn3, qn4, qn5, qn6, qn7, qn8] at hc
           all_goals refine tc_seq fun K9 hK9 => ?_; refine tc_region ?_; refine tl_q (y_move rfl) rfl ?_; refine tl_q (y_assign rfl) rfl ?_; refine tl_nil ?_; ((refine hK9 ?_; try (clear hK9; clear K9)))
           all_goals refine tc_ret ?_; (repeat (first | refine tk_then_ret ?_ | refine tk_block_ret ?_))
           all_goals (refine tk_ret rfl rfl (.cons (.tmp rfl) .nil) ?_)
           all_goals (
            first | exact fun w' hw' => ⟨by rw [idxF_hit (k := k) (by omega) (by simpa using hc) hj]; rfl, hw'.fr (by simp)⟩ | exact fun w' hw' => ⟨by rw [idxF_miss (fun j hjj => hj j (by omega))]; rfl, hw'.fr (by simp)⟩)
         · try simp only [qn1, qn2, qn3, qn4, qn5, qn6, qn7, qn8] at hc
           all_goals refine tc_skip ?_; ((refine hK6 ?_; try (clear hK6; clear K6)))
           all_goals refine tc_region ?_; refine tl_q (y_add rfl rfl (by omega)) rfl ?_; refine tl_q (y_move rfl) rfl ?_; refine tl_nil ?_
           all_goals (
            exact tk_round (k + 1) ⟨by omega, fun j hj' => by rcases Nat.lt_succ_iff_lt_or_eq.1 hj' with h | rfl; exact hj j h; simpa using hc⟩ (by omega) (.cons rfl (.cons rfl (.cons rfl (.cons rfl .nil)))) (fun _ h => h)))
      · try simp only [qn1, qn2, qn3, qn4, qn5, qn6, qn7, qn8] at hc
        all_goals refine tc_exit ?_; ((refine hK2 ?_; try (clear hK2; clear K2)))
        all_goals refine tc_seq fun K10 hK10 => ?_; refine tc_region ?_; refine tl_q (y_assign rfl) rfl ?_; refine tl_nil ?_; ((refine hK10 ?_; try (clear hK10; clear K10)))
        all_goals refine tc_ret ?_; (repeat (first | refine tk_then_ret ?_))
        all_goals (refine tk_ret rfl rfl (.cons (.tmp rfl) .nil) ?_)
        all_goals (
         first | exact fun w' hw' => ⟨by rw [idxF_hit (k := k) (by omega) (by simpa using hc) hj]; rfl, hw'.fr (by simp)⟩ | exact fun w' hw' => ⟨by rw [idxF_miss (fun j hjj => hj j (by omega))]; rfl, hw'.fr (by simp)⟩)))
theorem contains_c (xs : List Int) (hx : (xs.length : Int) ≤ 9000000000000000000) (v : Int) (sl : Value) (w : World) (hr : RdI w sl xs) : CnV Tryz.prog 94 #[sl, vi v] w (.bool (decide (v ∈ xs))) := by
  refine cnv (vs := [_, _]) Tryz.func94 rfl rfl ?_
  all_goals refine tc_seq fun K1 hK1 => ?_; refine tc_region ?_; refine tl_q (y_assign rfl) rfl ?_; refine tl_nil ?_; ((refine hK1 ?_; try (clear hK1; clear K1)))
  all_goals refine tc_seq fun K2 hK2 => ?_; refine tc_region ?_; refine tl_q (y_move rfl) rfl ?_; refine tl_q (y_move rfl) rfl ?_; refine tl_e (e_callV rfl (.cons rfl (.cons rfl .nil)) (fun w' hw' => index_c xs hx v _ w' (hr.fr (hw'.fr (by simp))))) rfl (fun _ _ => ?_); refine tl_q (y_geq rfl rfl) rfl ?_; refine tl_q (y_assign rfl) rfl ?_; refine tl_nil ?_; ((refine hK2 ?_; try (clear hK2; clear K2)))
  all_goals refine tc_ret ?_; (repeat (first | refine tk_then_ret ?_))
  all_goals (refine tk_ret rfl rfl (.cons (.tmp rfl) .nil) ?_)
  all_goals (
   exact fun w' hw' => ⟨by simp only [outV, idxF_any]; congr 2; rw [Bool.eq_iff_iff]; simp, hw'.fr (by simp)⟩)
def sepS (v : Value) (S : List Nat) : Prop := ∀ p m c, v = .slice (some p) m c → p.block ∉ S
end Go.Sp
/-
  Package trial: trials, and what tests them.
-/
namespace Go.Sp
open Go Go.Proofs
/-- A trial. -/
structure Tr where
  s : Sn
  parts : List Int
  worst : Int
  liquids : List (Int × Int)
  tests : List (Int × Int × Int)
abbrev trV (t : Tr) (sl pl ll tl : Value) : Value := .agg #[vi t.s.mass, vi t.s.volume, vi t.s.step, vi t.s.divisions, vi t.s.width, sl, pl, vi t.worst, ll, tl]
abbrev tsV (x : Int × Int × Int) : Value := .agg #[vi x.1, vi x.2.1, vi x.2.2]
def flatT (l : List (Int × Int × Int)) : List Value := l.flatMap fun x => [vi x.1, vi x.2.1, vi x.2.2]
/-- A slice of tests, as it is read. -/
def RdT (w : World) (v : Value) (l : List (Int × Int × Int)) : Prop := Reads w v 3 l.length (flatT l)
theorem RdT.fr {w w' : World} {v : Value} {l : List (Int × Int × Int)} (h : RdT w v l) (f : Fr [] w w') : RdT w' v l := Reads.frS h f (by simp)
theorem RdT.one {w : World} {v : Value} {l : List (Int × Int × Int)} (h : RdT w v l) : v.oneCell' = true := by obtain ⟨_, ad, cap, rfl, _⟩ := h; rfl
theorem flatT_get (l : List (Int × Int × Int)) : ∀ (i : Nat), i < l.length → (flatT l)[3 * i]? = some (vi (l.getD i (0, 0, 0)).1) ∧ (flatT l)[3 * i + 1]? = some (vi (l.getD i (0, 0, 0)).2.1) ∧ (flatT l)[3 * i + 2]? = some (vi (l.getD i (0, 0, 0)).2.2) := by
  induction l with
  | nil => intro i h; simp at h
  | cons x l ih =>
    intro i h
    have e : flatT (x :: l) = vi x.1 :: vi x.2.1 :: vi x.2.2 :: flatT l := by simp [flatT]
    rw [e]
    cases i with
    | zero => simp
    | succ i =>
      have := ih i (by simpa using h)
      rw [show 3 * (i + 1) = 3 * i + 3 by omega]
      simpa using this
theorem RdT.open {w : World} {v : Value} {l : List (Int × Int × Int)} (h : RdT w v l) : ∃ ad cap b o, v = .slice ad l.length cap ∧ (0 < l.length → ad = some ⟨b, o, none⟩) ∧ ∀ w' S, Fr S w w' → b ∉ S → ∀ i, i < l.length → CA (fun k => w'.cell? ⟨b, k, none⟩) (o + i * 3) 3 [vi (l.getD i (0, 0, 0)).1, vi (l.getD i (0, 0, 0)).2.1, vi (l.getD i (0, 0, 0)).2.2] := by
  by_cases hn : l.length = 0
  · obtain ⟨_, ad, cap, h2, _⟩ := h
    exact ⟨ad, cap, 0, 0, h2, fun h => by omega, fun _ _ _ _ i hi => by omega⟩
  · obtain ⟨_, ad, cap, h2, h3⟩ := h
    obtain ⟨b, o, h4, h5⟩ := h3 hn
    refine ⟨ad, cap, b, o, h2, fun _ => h4, fun w' S f hb i hi => ?_⟩
    obtain ⟨g1, g2, g3⟩ := flatT_get l i hi
    have c1 := h5.get _ _ g1
    have c2 := h5.get _ _ g2
    have c3 := h5.get _ _ g3
    refine .cons (f.cell (p := ⟨b, o + i * 3, none⟩) hb (by rw [show o + i * 3 = o + 3 * i by omega]; exact c1)) (.cons (f.cell (p := ⟨b, o + i * 3 + 1, none⟩) hb (by rw [show o + i * 3 + 1 = o + (3 * i + 1) by omega]; exact c2)) (.cons (f.cell (p := ⟨b, o + i * 3 + 1 + 1, none⟩) hb (by rw [show o + i * 3 + 1 + 1 = o + (3 * i + 2) by omega]; exact c3)) .nil))
def idxT (xs : List (Int × Int × Int)) (p : Int × Int × Int → Bool) : Int := if xs.any p then (xs.findIdx p : Int) else -1
theorem idxT_hit {xs : List (Int × Int × Int)} {p : Int × Int × Int → Bool} {k : Nat} (hk : k < xs.length) (hp : p (xs.getD k (0, 0, 0)) = true) (hn : ∀ j, j < k → p (xs.getD j (0, 0, 0)) = false) : idxT xs p = k := by
  rw [List.getD_eq_getElem?_getD, List.getElem?_eq_getElem hk] at hp
  simp only [Option.getD_some] at hp
  have h1 : xs.any p = true := List.any_eq_true.2 ⟨_, List.getElem_mem hk, hp⟩
  unfold idxT
  rw [if_pos h1]
  have : xs.findIdx p = k := by
    apply (List.findIdx_eq hk).2
    refine ⟨hp, fun j hj => ?_⟩
    have := hn j hj
    rw [List.getD_eq_getElem?_getD, List.getElem?_eq_getElem (Nat.lt_trans hj hk)] at this
    simpa using this
  rw [this]
theorem idxT_miss {xs : List (Int × Int × Int)} {p : Int × Int × Int → Bool} (hn : ∀ j, j < xs.length → p (xs.getD j (0, 0, 0)) = false) : idxT xs p = -1 := by
  unfold idxT
  rw [if_neg]
  intro h
  obtain ⟨x, hx, hp⟩ := List.any_eq_true.1 h
  obtain ⟨j, hj, rfl⟩ := List.getElem_of_mem hx
  have := hn j hj
  rw [List.getD_eq_getElem?_getD, List.getElem?_eq_getElem hj] at this
  simp only [Option.getD_some] at this
  rw [this] at hp; cases hp
theorem idxT_any (xs : List (Int × Int × Int)) (p : Int × Int × Int → Bool) : decide (0 ≤ idxT xs p) = xs.any p := by
  unfold idxT
  cases h : xs.any p
  · simp
  · simp
def TestsT (P : Program) (g : FuncId) (first cap : Array Value) (p : Int × Int × Int → Bool) (w : World) : Prop := ∀ (x : Int × Int × Int) (w' : World), Fr [] w w' → CnV P g (first ++ #[tsV x] ++ cap) w' (.bool (p x))
theorem TestsT.fr {P : Program} {g : FuncId} {first cap : Array Value} {p : Int × Int × Int → Bool} {w w1 : World} (h : TestsT P g first cap p w) (f : Fr [] w w1) : TestsT P g first cap p w1 := fun x w' f' => h x w' (f.trans f' (by simp))
theorem indexFuncT_c (g : FuncId) [GoFn Tryz.prog g] (first cap : Array Value) (p : Int × Int × Int → Bool) (xs : List (Int × Int × Int)) (hx : (xs.length : Int) ≤ 9000000000000000000) (sl : Value) (w : World) (hr : RdT w sl xs) (ht : TestsT Tryz.prog g first cap p w) :
    CnV Tryz.prog 159 #[sl, .func (.func g) first cap] w (vi (idxT xs p)) := by
  obtain ⟨ad, cp, b0, o, rfl, had, hcell⟩ := hr.open
  refine cnv (vs := [_, _]) Tryz.func159 rfl rfl ?_
  all_goals refine tc_seq fun K1 hK1 => ?_; refine tc_region ?_; refine tl_q (y_assign rfl) rfl ?_; refine tl_nil ?_; ((refine hK1 ?_; try (clear hK1; clear K1)))
  all_goals refine tc_seq fun K2 hK2 => ?_; refine tc_seq fun K3 hK3 => ?_; refine tc_region ?_; refine tl_q (y_move rfl) rfl ?_; refine tl_q (y_len rfl) rfl ?_; refine tl_q (y_move rfl) rfl ?_; refine tl_nil ?_; ((refine hK3 ?_; try (clear hK3; clear K3)))
  all_goals refine tc_block ?_
  all_goals (
   refine tc_loop (fun k : Nat => k ≤ xs.length ∧ ∀ j, j < k → p (xs.getD j (0, 0, 0)) = false) (fun k => [(0, .slice ad xs.length cp), (1, .func (.func g) first cap), (7, vi xs.length), (8, vi k)]) (fun _ => [(w, [])]) (fun _ => []) (fun k => xs.length - k) ?_ ?_
   · exact tk_start 0 ⟨Nat.zero_le _, fun j hj => absurd hj (Nat.not_lt_zero j)⟩ (.cons rfl (.cons rfl (.cons rfl (.cons rfl .nil)))) (fun _ h => h)
   · rintro k ⟨hk, hj⟩
     all_goals refine tc_seq fun K4 hK4 => ?_; refine tc_region ?_; refine tl_q (y_lss rfl rfl) rfl ?_; refine tl_nil ?_; ((refine hK4 ?_; try (clear hK4; clear K4)))
     all_goals refine tc_seq fun K5 hK5 => ?_
     all_goals (
      refine tc_cond rfl (fun hc => ?_) (fun hc => ?_)
      · try simp only [qn1, qn2, qn3, qn4, qn5, qn6, qn7, qn8] at hc
        all_goals refine tc_skip ?_; ((refine hK5 ?_; try (clear hK5; clear K5)))
        all_goals refine tc_seq fun K6 hK6 => ?_; refine tc_block ?_; refine tc_seq fun K7 hK7 => ?_; refine tc_region ?_; refine tl_q (y_move rfl) rfl ?_; refine tl_q (y_assign rfl) rfl ?_; refine tl_nil ?_; ((refine hK7 ?_; try (clear hK7; clear K7)))
        all_goals refine tc_seq fun K8 hK8 => ?_
        have had' := had (by omega)
        all_goals refine tc_region ?_; refine tl_q (y_move rfl) rfl ?_; refine tl_q (y_move rfl) rfl ?_; refine tl_q (y_move rfl) rfl ?_; refine tl_q (y_index rfl rfl (by omega) had') rfl ?_; refine tl_q (y_loadNo rfl (fun w' hw' => hcell w' [] (hw'.fr (by simp)) (by simp) (Int.toNat k) (by omega))) rfl ?_; refine tl_e (e_callVf rfl rfl (.cons rfl .nil) (fun w' hw' => ht (xs.getD (Int.toNat k) (0, 0, 0)) w' (hw'.fr (by simp)))) rfl (fun _ _ => ?_); refine tl_nil ?_; ((refine hK8 ?_; try (clear hK8; clear K8)))
        all_goals (
         refine tc_cond rfl (fun hc => ?_) (fun hc => ?_)
         · all_goals (skip)
           all_goals refine tc_seq fun K9 hK9 => ?_; refine tc_region ?_; refine tl_q (y_move rfl) rfl ?_; refine tl_q (y_assign rfl) rfl ?_; refine tl_nil ?_; ((refine hK9 ?_; try (clear hK9; clear K9)))
           all_goals refine tc_ret ?_; (repeat (first | refine tk_then_ret ?_ | refine tk_block_ret ?_))
           all_goals (refine tk_ret rfl rfl (.cons (.tmp rfl) .nil) ?_)
           all_goals (
            first | exact fun w' hw' => ⟨by rw [idxT_hit (k := k) (by omega) (by simpa using hc) hj]; rfl, hw'.fr (by simp)⟩ | exact fun w' hw' => ⟨by rw [idxT_miss (fun j hjj => hj j (by omega))]; rfl, hw'.fr (by simp)⟩)
         · all_goals (skip)
           all_goals refine tc_skip ?_; ((refine hK6 ?_; try (clear hK6; clear K6)))
           all_goals refine tc_region ?_; refine tl_q (y_add rfl rfl (by omega)) rfl ?_; refine tl_q (y_move rfl) rfl ?_; refine tl_nil ?_
           all_goals (
            exact tk_round (k + 1) ⟨by omega, fun j hj' => by rcases Nat.lt_succ_iff_lt_or_eq.1 hj' with h | rfl; exact hj j h; simpa using hc⟩ (by omega) (.cons rfl (.cons rfl (.cons rfl (.cons rfl .nil)))) (fun _ h => h)))
      · try simp only [qn1, qn2, qn3, qn4, qn5, qn6, qn7, qn8] at hc
        all_goals refine tc_exit ?_; ((refine hK2 ?_; try (clear hK2; clear K2)))
        all_goals refine tc_seq fun K10 hK10 => ?_; refine tc_region ?_; refine tl_q (y_assign rfl) rfl ?_; refine tl_nil ?_; ((refine hK10 ?_; try (clear hK10; clear K10)))
        all_goals refine tc_ret ?_; (repeat (first | refine tk_then_ret ?_))
        all_goals (refine tk_ret rfl rfl (.cons (.tmp rfl) .nil) ?_)
        all_goals (
         first | exact fun w' hw' => ⟨by rw [idxT_hit (k := k) (by omega) (by simpa using hc) hj]; rfl, hw'.fr (by simp)⟩ | exact fun w' hw' => ⟨by rw [idxT_miss (fun j hjj => hj j (by omega))]; rfl, hw'.fr (by simp)⟩)))
theorem containsFuncT_c (g : FuncId) [GoFn Tryz.prog g] (first cap : Array Value) (p : Int × Int × Int → Bool) (xs : List (Int × Int × Int)) (hx : (xs.length : Int) ≤ 9000000000000000000) (sl : Value) (w : World) (hr : RdT w sl xs) (ht : TestsT Tryz.prog g first cap p w) :
    CnV Tryz.prog 125 #[sl, .func (.func g) first cap] w (.bool (xs.any p)) := by
  refine cnv (vs := [_, _]) Tryz.func125 rfl rfl ?_
  all_goals refine tc_seq fun K1 hK1 => ?_; refine tc_region ?_; refine tl_q (y_assign rfl) rfl ?_; refine tl_nil ?_; ((refine hK1 ?_; try (clear hK1; clear K1)))
  all_goals refine tc_seq fun K2 hK2 => ?_; refine tc_region ?_; refine tl_q (y_move rfl) rfl ?_; refine tl_q (y_move rfl) rfl ?_; refine tl_e (e_callV rfl (.cons rfl (.cons rfl .nil)) (fun w' hw' => indexFuncT_c g first cap p xs hx _ w' (hr.fr (hw'.fr (by simp))) (ht.fr (hw'.fr (by simp))))) rfl (fun _ _ => ?_); refine tl_q (y_geq rfl rfl) rfl ?_; refine tl_q (y_assign rfl) rfl ?_; refine tl_nil ?_; ((refine hK2 ?_; try (clear hK2; clear K2)))
  all_goals refine tc_ret ?_; (repeat (first | refine tk_then_ret ?_))
  all_goals (refine tk_ret rfl rfl (.cons (.tmp rfl) .nil) ?_)
  all_goals (
   exact fun w' hw' => ⟨by rw [← idxT_any]; rfl, hw'.fr (by simp)⟩)
theorem allT1_c (g : FuncId) [GoFn Tryz.prog g] (first cap : Array Value) (p : Int × Int × Int → Bool) (x : Int × Int × Int) (b : Nat) (w : World) (hb : w.cell? ⟨b, 0, none⟩ = some (.func (.func g) first cap)) (ht : TestsT Tryz.prog g first cap p w) :
    CnV Tryz.prog 126 #[tsV x, .pointer (some ⟨b, 0, none⟩)] w (.bool (!(p x))) := by
  refine cnv (vs := [_, _]) Tryz.func126 rfl rfl ?_
  all_goals refine tc_seq fun K1 hK1 => ?_; refine tc_region ?_; refine tl_e (e_box rfl rfl rfl) rfl (fun _ _ => ?_); refine tl_q (y_assign rfl) rfl ?_; refine tl_nil ?_; ((refine hK1 ?_; try (clear hK1; clear K1)))
  all_goals refine tc_seq fun K2 hK2 => ?_; refine tc_region ?_; refine tl_q (y_load1o rfl (fun w' hw' => (hw'.fr (S := []) (w0 := w) (by simp)).cell (by simp) hb)) rfl ?_; refine tl_q (y_loadW rfl (by repeat constructor) (by rfl)) rfl ?_; refine tl_e (e_callVf rfl rfl (.cons rfl .nil) (fun w' hw' => ht x w' (hw'.fr (by simp)))) rfl (fun _ _ => ?_); refine tl_q (y_not rfl) rfl ?_; refine tl_q (y_assign rfl) rfl ?_; refine tl_nil ?_; ((refine hK2 ?_; try (clear hK2; clear K2)))
  all_goals refine tc_ret ?_; (repeat (first | refine tk_then_ret ?_))
  all_goals (refine tk_ret rfl rfl (.cons (.tmp rfl) .nil) ?_)
  all_goals (
   exact fun w' hw' => ⟨rfl, hw'.fr (by simp)⟩)
theorem allT_c (g : FuncId) [GoFn Tryz.prog g] (first cap : Array Value) (p : Int × Int × Int → Bool) (xs : List (Int × Int × Int)) (hx : (xs.length : Int) ≤ 9000000000000000000) (sl : Value) (w : World) (hr : RdT w sl xs) (ht : TestsT Tryz.prog g first cap p w) :
    CnV Tryz.prog 73 #[sl, .func (.func g) first cap] w (.bool (xs.all p)) := by
  refine cnv (vs := [_, _]) Tryz.func73 rfl rfl ?_
  all_goals refine tc_seq fun K1 hK1 => ?_; refine tc_region ?_; refine tl_e (e_box rfl rfl rfl) rfl (fun b _ => ?_); refine tl_q (y_assign rfl) rfl ?_; refine tl_nil ?_; ((refine hK1 ?_; try (clear hK1; clear K1)))
  all_goals refine tc_seq fun K2 hK2 => ?_; refine tc_region ?_; refine tl_q (y_move rfl) rfl ?_; refine tl_q (y_fn .nil (.cons rfl .nil)) rfl ?_; refine tl_e (e_callV rfl (.cons rfl (.cons rfl .nil)) (fun w' hw' => containsFuncT_c 126 #[] #[.pointer (some ⟨b, 0, none⟩)] (fun x => !(p x)) xs hx _ w' (hr.fr (hw'.fr (by simp))) (fun x w2 f => by simpa using allT1_c g first cap p x b w2 (f.cell (by simp) (cellAt_cell? (hw'.heap _ (HM.mem (by repeat constructor))) rfl)) ((ht.fr (hw'.fr (by simp))).fr f)))) rfl (fun _ _ => ?_); refine tl_q (y_not rfl) rfl ?_; refine tl_q (y_assign rfl) rfl ?_; refine tl_nil ?_; ((refine hK2 ?_; try (clear hK2; clear K2)))
  all_goals refine tc_ret ?_; (repeat (first | refine tk_then_ret ?_))
  all_goals (refine tk_ret rfl rfl (.cons (.tmp rfl) .nil) ?_)
  all_goals (
   exact fun w' hw' => ⟨by simp [outV, List.all_eq_not_any_not], hw'.fr (by simp)⟩)
theorem indexFuncG_c (g : FuncId) [GoFn Tryz.prog g] (first cap : Array Value) (p : Int × Int → Bool) (xs : List (Int × Int)) (hx : (xs.length : Int) ≤ 9000000000000000000) (sl : Value) (w : World) (hr : RdR w sl xs) (ht : TestsR Tryz.prog g first cap p w) :
    CnV Tryz.prog 158 #[sl, .func (.func g) first cap] w (vi (idxR xs p)) := by
  obtain ⟨ad, cp, b0, o, rfl, had, hcell⟩ := hr.open
  refine cnv (vs := [_, _]) Tryz.func158 rfl rfl ?_
  all_goals refine tc_seq fun K1 hK1 => ?_; refine tc_region ?_; refine tl_q (y_assign rfl) rfl ?_; refine tl_nil ?_; ((refine hK1 ?_; try (clear hK1; clear K1)))
  all_goals refine tc_seq fun K2 hK2 => ?_; refine tc_seq fun K3 hK3 => ?_; refine tc_region ?_; refine tl_q (y_move rfl) rfl ?_; refine tl_q (y_len rfl) rfl ?_; refine tl_q (y_move rfl) rfl ?_; refine tl_nil ?_; ((refine hK3 ?_; try (clear hK3; clear K3)))
  all_goals refine tc_block ?_
  all_goals (
   refine tc_loop (fun k : Nat => k ≤ xs.length ∧ ∀ j, j < k → p (xs.getD j (0, 0)) = false) (fun k => [(0, .slice ad xs.length cp), (1, .func (.func g) first cap), (7, vi xs.length), (8, vi k)]) (fun _ => [(w, [])]) (fun _ => []) (fun k => xs.length - k) ?_ ?_
   · exact tk_start 0 ⟨Nat.zero_le _, fun j hj => absurd hj (Nat.not_lt_zero j)⟩ (.cons rfl (.cons rfl (.cons rfl (.cons rfl .nil)))) (fun _ h => h)
   · rintro k ⟨hk, hj⟩
     all_goals refine tc_seq fun K4 hK4 => ?_; refine tc_region ?_; refine tl_q (y_lss rfl rfl) rfl ?_; refine tl_nil ?_; ((refine hK4 ?_; try (clear hK4; clear K4)))
     all_goals refine tc_seq fun K5 hK5 => ?_
     all_goals (
      refine tc_cond rfl (fun hc => ?_) (fun hc => ?_)
      · try simp only [qn1, qn2, qn3, qn4, qn5, qn6, qn7, qn8] at hc
        all_goals refine tc_skip ?_; ((refine hK5 ?_; try (clear hK5; clear K5)))
        all_goals refine tc_seq fun K6 hK6 => ?_; refine tc_block ?_; refine tc_seq fun K7 hK7 => ?_; refine tc_region ?_; refine tl_q (y_move rfl) rfl ?_; refine tl_q (y_assign rfl) rfl ?_; refine tl_nil ?_; ((refine hK7 ?_; try (clear hK7; clear K7)))
        all_goals refine tc_seq fun K8 hK8 => ?_
        have had' := had (by omega)
        all_goals refine tc_region ?_; refine tl_q (y_move rfl) rfl ?_; refine tl_q (y_move rfl) rfl ?_; refine tl_q (y_move rfl) rfl ?_; refine tl_q (y_index rfl rfl (by omega) had') rfl ?_; refine tl_q (y_loadNo rfl (fun w' hw' => hcell w' [] (hw'.fr (by simp)) (by simp) (Int.toNat k) (by omega))) rfl ?_; refine tl_e (e_callVf rfl rfl (.cons rfl .nil) (fun w' hw' => ht (xs.getD (Int.toNat k) (0, 0)) w' (hw'.fr (by simp)))) rfl (fun _ _ => ?_); refine tl_nil ?_; ((refine hK8 ?_; try (clear hK8; clear K8)))
        all_goals (
         refine tc_cond rfl (fun hc => ?_) (fun hc => ?_)
         · all_goals (skip)
           all_goals refine tc_seq fun K9 hK9 => ?_; refine tc_region ?_; refine tl_q (y_move rfl) rfl ?_; refine tl_q (y_assign rfl) rfl ?_; refine tl_nil ?_; ((refine hK9 ?_; try (clear hK9; clear K9)))
           all_goals refine tc_ret ?_; (repeat (first | refine tk_then_ret ?_ | refine tk_block_ret ?_))
           all_goals (refine tk_ret rfl rfl (.cons (.tmp rfl) .nil) ?_)
           all_goals (
            first | exact fun w' hw' => ⟨by rw [idxR_hit (k := k) (by omega) (by simpa using hc) hj]; rfl, hw'.fr (by simp)⟩ | exact fun w' hw' => ⟨by rw [idxR_miss (fun j hjj => hj j (by omega))]; rfl, hw'.fr (by simp)⟩)
         · all_goals (skip)
           all_goals refine tc_skip ?_; ((refine hK6 ?_; try (clear hK6; clear K6)))
           all_goals refine tc_region ?_; refine tl_q (y_add rfl rfl (by omega)) rfl ?_; refine tl_q (y_move rfl) rfl ?_; refine tl_nil ?_
           all_goals (
            exact tk_round (k + 1) ⟨by omega, fun j hj' => by rcases Nat.lt_succ_iff_lt_or_eq.1 hj' with h | rfl; exact hj j h; simpa using hc⟩ (by omega) (.cons rfl (.cons rfl (.cons rfl (.cons rfl .nil)))) (fun _ h => h)))
      · try simp only [qn1, qn2, qn3, qn4, qn5, qn6, qn7, qn8] at hc
        all_goals refine tc_exit ?_; ((refine hK2 ?_; try (clear hK2; clear K2)))
        all_goals refine tc_seq fun K10 hK10 => ?_; refine tc_region ?_; refine tl_q (y_assign rfl) rfl ?_; refine tl_nil ?_; ((refine hK10 ?_; try (clear hK10; clear K10)))
        all_goals refine tc_ret ?_; (repeat (first | refine tk_then_ret ?_))
        all_goals (refine tk_ret rfl rfl (.cons (.tmp rfl) .nil) ?_)
        all_goals (
         first | exact fun w' hw' => ⟨by rw [idxR_hit (k := k) (by omega) (by simpa using hc) hj]; rfl, hw'.fr (by simp)⟩ | exact fun w' hw' => ⟨by rw [idxR_miss (fun j hjj => hj j (by omega))]; rfl, hw'.fr (by simp)⟩)))
theorem containsFuncG_c (g : FuncId) [GoFn Tryz.prog g] (first cap : Array Value) (p : Int × Int → Bool) (xs : List (Int × Int)) (hx : (xs.length : Int) ≤ 9000000000000000000) (sl : Value) (w : World) (hr : RdR w sl xs) (ht : TestsR Tryz.prog g first cap p w) :
    CnV Tryz.prog 123 #[sl, .func (.func g) first cap] w (.bool (xs.any p)) := by
  refine cnv (vs := [_, _]) Tryz.func123 rfl rfl ?_
  all_goals refine tc_seq fun K1 hK1 => ?_; refine tc_region ?_; refine tl_q (y_assign rfl) rfl ?_; refine tl_nil ?_; ((refine hK1 ?_; try (clear hK1; clear K1)))
  all_goals refine tc_seq fun K2 hK2 => ?_; refine tc_region ?_; refine tl_q (y_move rfl) rfl ?_; refine tl_q (y_move rfl) rfl ?_; refine tl_e (e_callV rfl (.cons rfl (.cons rfl .nil)) (fun w' hw' => indexFuncG_c g first cap p xs hx _ w' (hr.fr (hw'.fr (by simp))) (ht.fr (hw'.fr (by simp))))) rfl (fun _ _ => ?_); refine tl_q (y_geq rfl rfl) rfl ?_; refine tl_q (y_assign rfl) rfl ?_; refine tl_nil ?_; ((refine hK2 ?_; try (clear hK2; clear K2)))
  all_goals refine tc_ret ?_; (repeat (first | refine tk_then_ret ?_))
  all_goals (refine tk_ret rfl rfl (.cons (.tmp rfl) .nil) ?_)
  all_goals (
   exact fun w' hw' => ⟨by rw [← idxR_any]; rfl, hw'.fr (by simp)⟩)
theorem allG1_c (g : FuncId) [GoFn Tryz.prog g] (first cap : Array Value) (p : Int × Int → Bool) (x : Int × Int) (b : Nat) (w : World) (hb : w.cell? ⟨b, 0, none⟩ = some (.func (.func g) first cap)) (ht : TestsR Tryz.prog g first cap p w) :
    CnV Tryz.prog 124 #[rdV x, .pointer (some ⟨b, 0, none⟩)] w (.bool (!(p x))) := by
  refine cnv (vs := [_, _]) Tryz.func124 rfl rfl ?_
  all_goals refine tc_seq fun K1 hK1 => ?_; refine tc_region ?_; refine tl_e (e_box rfl rfl rfl) rfl (fun _ _ => ?_); refine tl_q (y_assign rfl) rfl ?_; refine tl_nil ?_; ((refine hK1 ?_; try (clear hK1; clear K1)))
  all_goals refine tc_seq fun K2 hK2 => ?_; refine tc_region ?_; refine tl_q (y_load1o rfl (fun w' hw' => (hw'.fr (S := []) (w0 := w) (by simp)).cell (by simp) hb)) rfl ?_; refine tl_q (y_loadW rfl (by repeat constructor) (by rfl)) rfl ?_; refine tl_e (e_callVf rfl rfl (.cons rfl .nil) (fun w' hw' => ht x w' (hw'.fr (by simp)))) rfl (fun _ _ => ?_); refine tl_q (y_not rfl) rfl ?_; refine tl_q (y_assign rfl) rfl ?_; refine tl_nil ?_; ((refine hK2 ?_; try (clear hK2; clear K2)))
  all_goals refine tc_ret ?_; (repeat (first | refine tk_then_ret ?_))
  all_goals (refine tk_ret rfl rfl (.cons (.tmp rfl) .nil) ?_)
  all_goals (
   exact fun w' hw' => ⟨rfl, hw'.fr (by simp)⟩)
theorem allG_c (g : FuncId) [GoFn Tryz.prog g] (first cap : Array Value) (p : Int × Int → Bool) (xs : List (Int × Int)) (hx : (xs.length : Int) ≤ 9000000000000000000) (sl : Value) (w : World) (hr : RdR w sl xs) (ht : TestsR Tryz.prog g first cap p w) :
    CnV Tryz.prog 71 #[sl, .func (.func g) first cap] w (.bool (xs.all p)) := by
  refine cnv (vs := [_, _]) Tryz.func71 rfl rfl ?_
  all_goals refine tc_seq fun K1 hK1 => ?_; refine tc_region ?_; refine tl_e (e_box rfl rfl rfl) rfl (fun b _ => ?_); refine tl_q (y_assign rfl) rfl ?_; refine tl_nil ?_; ((refine hK1 ?_; try (clear hK1; clear K1)))
  all_goals refine tc_seq fun K2 hK2 => ?_; refine tc_region ?_; refine tl_q (y_move rfl) rfl ?_; refine tl_q (y_fn .nil (.cons rfl .nil)) rfl ?_; refine tl_e (e_callV rfl (.cons rfl (.cons rfl .nil)) (fun w' hw' => containsFuncG_c 124 #[] #[.pointer (some ⟨b, 0, none⟩)] (fun x => !(p x)) xs hx _ w' (hr.fr (hw'.fr (by simp))) (fun x w2 f => by simpa using allG1_c g first cap p x b w2 (f.cell (by simp) (cellAt_cell? (hw'.heap _ (HM.mem (by repeat constructor))) rfl)) ((ht.fr (hw'.fr (by simp))).fr f)))) rfl (fun _ _ => ?_); refine tl_q (y_not rfl) rfl ?_; refine tl_q (y_assign rfl) rfl ?_; refine tl_nil ?_; ((refine hK2 ?_; try (clear hK2; clear K2)))
  all_goals refine tc_ret ?_; (repeat (first | refine tk_then_ret ?_))
  all_goals (refine tk_ret rfl rfl (.cons (.tmp rfl) .nil) ?_)
  all_goals (
   exact fun w' hw' => ⟨by simp [outV, List.all_eq_not_any_not], hw'.fr (by simp)⟩)
/-- The function literal in 'all': it turns the answer round. -/
theorem allI1_c (g : FuncId) [GoFn Tryz.prog g] (first cap : Array Value) (p : Int → Bool) (x : Int) (b : Nat) (w : World) (hb : w.cell? ⟨b, 0, none⟩ = some (.func (.func g) first cap)) (ht : Tests Tryz.prog g first cap p w) :
    CnV Tryz.prog 155 #[vi x, .pointer (some ⟨b, 0, none⟩)] w (.bool (!(p x))) := by
  refine cnv (vs := [_, _]) Tryz.func155 rfl rfl ?_
  all_goals refine tc_seq fun K1 hK1 => ?_; refine tc_region ?_; refine tl_q (y_assign rfl) rfl ?_; refine tl_nil ?_; ((refine hK1 ?_; try (clear hK1; clear K1)))
  all_goals refine tc_seq fun K2 hK2 => ?_; refine tc_region ?_; refine tl_q (y_load1o rfl (fun w' hw' => (hw'.fr (S := []) (w0 := w) (by simp)).cell (by simp) hb)) rfl ?_; refine tl_q (y_move rfl) rfl ?_; refine tl_e (e_callVf rfl rfl (.cons rfl .nil) (fun w' hw' => ht _ w' (hw'.fr (by simp)))) rfl (fun _ _ => ?_); refine tl_q (y_not rfl) rfl ?_; refine tl_q (y_assign rfl) rfl ?_; refine tl_nil ?_; ((refine hK2 ?_; try (clear hK2; clear K2)))
  all_goals refine tc_ret ?_; (repeat (first | refine tk_then_ret ?_))
  all_goals (refine tk_ret rfl rfl (.cons (.tmp rfl) .nil) ?_)
  all_goals (
   exact fun w' hw' => ⟨rfl, hw'.fr (by simp)⟩)
theorem allI_c (g : FuncId) [GoFn Tryz.prog g] (first cap : Array Value) (p : Int → Bool) (xs : List Int) (hx : (xs.length : Int) ≤ 9000000000000000000) (sl : Value) (w : World) (hr : RdI w sl xs) (ht : Tests Tryz.prog g first cap p w) :
    CnV Tryz.prog 117 #[sl, .func (.func g) first cap] w (.bool (xs.all p)) := by
  refine cnv (vs := [_, _]) Tryz.func117 rfl rfl ?_
  all_goals refine tc_seq fun K1 hK1 => ?_; refine tc_region ?_; refine tl_e (e_box rfl rfl rfl) rfl (fun b _ => ?_); refine tl_q (y_assign rfl) rfl ?_; refine tl_nil ?_; ((refine hK1 ?_; try (clear hK1; clear K1)))
  all_goals refine tc_seq fun K2 hK2 => ?_; refine tc_region ?_; refine tl_q (y_move rfl) rfl ?_; refine tl_q (y_fn .nil (.cons rfl .nil)) rfl ?_; refine tl_e (e_callV rfl (.cons rfl (.cons rfl .nil)) (fun w' hw' => containsFunc_c 155 #[] #[.pointer (some ⟨b, 0, none⟩)] (fun x => !(p x)) xs hx _ w' (hr.fr (hw'.fr (by simp))) (fun x w2 f => by simpa using allI1_c g first cap p x b w2 (f.cell (by simp) (cellAt_cell? (hw'.heap _ (HM.mem (by repeat constructor))) rfl)) ((ht.fr (hw'.fr (by simp))).fr f)))) rfl (fun _ _ => ?_); refine tl_q (y_not rfl) rfl ?_; refine tl_q (y_assign rfl) rfl ?_; refine tl_nil ?_; ((refine hK2 ?_; try (clear hK2; clear K2)))
  all_goals refine tc_ret ?_; (repeat (first | refine tk_then_ret ?_))
  all_goals (refine tk_ret rfl rfl (.cons (.tmp rfl) .nil) ?_)
  all_goals (
   exact fun w' hw' => ⟨by simp [outV, List.all_eq_not_any_not], hw'.fr (by simp)⟩)
theorem twithin_c (n lo hi : Int) (w : World) : CnV Tryz.prog 65 #[vi n, vi lo, vi hi] w (.bool (decide (lo ≤ n ∧ n ≤ hi))) := by
  refine cnv (vs := [_, _, _]) Tryz.func65 rfl rfl ?_
  all_goals refine tc_seq fun K1 hK1 => ?_; refine tc_region ?_; refine tl_q (y_assign rfl) rfl ?_; refine tl_nil ?_; ((refine hK1 ?_; try (clear hK1; clear K1)))
  all_goals refine tc_seq fun K2 hK2 => ?_; refine tc_region ?_; refine tl_q (y_move rfl) rfl ?_; refine tl_q (y_move rfl) rfl ?_; refine tl_q (y_leq rfl rfl) rfl ?_; refine tl_q (y_move rfl) rfl ?_; ((refine tl_gs rfl rfl (fun hc => ?_) (fun hc => ?_) <;> (try simp only [qn1, qn2, qn3, qn4, qn5, qn6, qn7, qn8] at hc) <;> (first | refine tl_sk rfl rfl rfl rfl ?_ | refine tl_qg rfl rfl (y_move rfl) rfl ?_)))
  all_goals (first | refine tl_sk rfl rfl rfl rfl ?_ | refine tl_qg rfl rfl (y_move rfl) rfl ?_); (first | refine tl_sk rfl rfl rfl rfl ?_ | refine tl_qg rfl rfl (y_leq rfl rfl) rfl ?_); (first | refine tl_q (y_pick_t rfl rfl) rfl ?_ | refine tl_q (y_pick_f rfl rfl) rfl ?_); refine tl_q (y_assign rfl) rfl ?_; refine tl_nil ?_; ((refine hK2 ?_; try (clear hK2; clear K2)))
  all_goals refine tc_ret ?_; (repeat (first | refine tk_then_ret ?_))
  all_goals (refine tk_ret rfl rfl (.cons (.tmp rfl) .nil) ?_)
  all_goals (
   refine fun w' hw' => ⟨congrArg (fun b => Ending.returned (Value.bool b)) ?_, hw'.fr (by simp)⟩
   first
   | exact (decide_eq_true (by omega)).symm
   | exact (decide_eq_false (by omega)).symm
   | exact decide_eq_decide.2 (by omega))
theorem tminimum_c (a b : Int) (sl : Value) (w : World) (hr : RdI w sl [a, b]) : CnV Tryz.prog 132 #[sl] w (vi (min a b)) := by
  refine cnv (vs := [_]) Tryz.func132 rfl rfl ?_
  all_goals refine tc_seq fun K1 hK1 => ?_; refine tc_region ?_; refine tl_q (y_assign rfl) rfl ?_; refine tl_nil ?_; ((refine hK1 ?_; try (clear hK1; clear K1)))
  all_goals refine tc_seq fun K2 hK2 => ?_; refine tc_region ?_; refine tl_q (y_move rfl) rfl ?_; refine tl_e (e_callV rfl (.cons rfl .nil) (fun w' hw' => min_c a b _ w' (hr.fr (hw'.fr (by simp))))) rfl (fun _ _ => ?_); refine tl_q (y_assign rfl) rfl ?_; refine tl_nil ?_; ((refine hK2 ?_; try (clear hK2; clear K2)))
  all_goals refine tc_ret ?_; (repeat (first | refine tk_then_ret ?_))
  all_goals (refine tk_ret rfl rfl (.cons (.tmp rfl) .nil) ?_)
  all_goals (
   exact fun w' hw' => ⟨rfl, hw'.fr (by simp)⟩)
theorem wider_c (r : Int × Int) (n : Int) (w : World) : CnV Tryz.prog 80 #[rV r, vi n] w (rV (min r.1 n, max r.2 n)) := by
  refine cnv (vs := [_, _]) Tryz.func80 rfl rfl ?_
  all_goals refine tc_seq fun K1 hK1 => ?_; refine tc_region ?_; refine tl_e (e_box rfl rfl rfl) rfl (fun b2 _ => ?_); refine tl_e (e_allocN rfl) rfl (fun b4 _ => ?_); refine tl_nil ?_; ((refine hK1 ?_; try (clear hK1; clear K1)))
  all_goals refine tc_seq fun K2 hK2 => ?_; refine tc_drawS ([(b2, .cells #[vi r.1, vi r.2] 50 (0, 0))]) (by kernel_rfl) ?_; refine tx_p 0 rfl (by kernel_rfl) (y_field rfl) rfl (fun _ _ _ h => h) (fun _ h => h.subl SB.s SB.s) ?_; refine tx_qS 1 rfl (by kernel_rfl) (y_load1 rfl (by repeat constructor) (by rfl)) rfl (fun _ _ _ h => h) (fun _ h => h.subl SB.s SB.s) ?_; refine tx_p 2 rfl (by kernel_rfl) (y_move rfl) rfl (fun _ _ _ h => h) (fun _ h => h.subl SB.s SB.s) ?_; refine tx_p 5 rfl (by kernel_rfl) (y_field rfl) rfl (fun _ _ _ h => h) (fun _ h => h.subl SB.s SB.s) ?_; refine tx_qS 6 rfl (by kernel_rfl) (y_load1 rfl (by repeat constructor) (by rfl)) rfl (fun _ _ _ h => h) (fun _ h => h.subl SB.s SB.s) ?_; refine tx_p 7 rfl (by kernel_rfl) (y_move rfl) rfl (fun _ _ _ h => h) (fun _ h => h.subl SB.s SB.s) ?_; refine tx_p 8 rfl (by kernel_rfl) (y_max rfl rfl) rfl (fun _ _ _ h => h) (fun _ h => h.subl SB.s SB.s) ?_; (refine tx_single 3 (by kernel_rfl) (to_e rfl rfl (e_bslice rfl (by (repeat (first | exact .nil | apply PV.one rfl rfl)); done) rfl rfl) (.inr ⟨fun _ _ h => h.subl SB.s SB.s, fun _ h => h⟩) (fun _ _ => ?_)))
  all_goals refine tx_single 4 (by kernel_rfl) (to_e rfl rfl (e_callV rfl (.cons rfl .nil) (fun w' hw' => tminimum_c r.1 n _ w' (RdI.own0 (xs := [r.1, n]) hw' (by repeat constructor)))) (.inr ⟨fun _ _ h => h.subl SB.s SB.s, fun _ h => h⟩) (fun _ _ => ?_)); refine tx_p 9 rfl (by kernel_rfl) (y_build_2 rfl rfl rfl rfl) rfl (fun _ _ _ h => h) (fun _ h => h.subl SB.s SB.s) ?_; refine tx_single 10 (by kernel_rfl) (to_e (S' := HG [] []) rfl rfl (e_storeW rfl rfl (by repeat constructor) (by rfl) (by rfl) (by simp [Value.oneCell'])) (.inl (by kernel_rfl)) (fun _ _ => ?_)); refine tx_done (by kernel_rfl) ?_; ((refine hK2 ?_; try (clear hK2; clear K2)))
  all_goals refine tc_ret ?_; (repeat (first | refine tk_then_ret ?_))
  all_goals (refine tk_ret rfl rfl (.cons (.agg inferInstance rfl (by repeat constructor) (by rfl)) .nil) ?_)
  all_goals (
   exact fun w' hw' => ⟨rfl, hw'.fr (by simp)⟩)
theorem tload_c (t : Tr) (n : Int) (sl pl ll tl : Value) (w : World) (hr : RdI w sl t.s.weights) : CnV Tryz.prog 64 #[trV t sl pl ll tl, vi n] w (.bool (decide (0 ≤ n ∧ n ≤ t.s.weights.length))) := by
  obtain ⟨ad, cap, b0, o, rfl, _, _⟩ := hr.open
  refine cnv (vs := [_, _]) Tryz.func64 rfl rfl ?_
  all_goals refine tc_seq fun K1 hK1 => ?_; refine tc_region ?_; refine tl_e (e_box rfl rfl rfl) rfl (fun b _ => ?_); refine tl_q (y_assign rfl) rfl ?_; refine tl_nil ?_; ((refine hK1 ?_; try (clear hK1; clear K1)))
  all_goals refine tc_seq fun K2 hK2 => ?_; refine tc_region ?_; refine tl_q (y_move rfl) rfl ?_; refine tl_q (y_field rfl) rfl ?_; refine tl_q (y_field rfl) rfl ?_; refine tl_q (y_load1 rfl (by repeat constructor) (by rfl)) rfl ?_; refine tl_q (y_len rfl) rfl ?_; refine tl_e (e_callV rfl (.cons rfl (.cons rfl (.cons rfl .nil))) (fun w' _ => twithin_c _ _ _ w')) rfl (fun _ _ => ?_); refine tl_q (y_assign rfl) rfl ?_; refine tl_nil ?_; ((refine hK2 ?_; try (clear hK2; clear K2)))
  all_goals refine tc_ret ?_; (repeat (first | refine tk_then_ret ?_))
  all_goals (refine tk_ret rfl rfl (.cons (.tmp rfl) .nil) ?_)
  all_goals (
   exact fun w' hw' => ⟨rfl, hw'.fr (by simp)⟩)
theorem tdivision_c (t : Tr) (n : Int) (sl pl ll tl : Value) (w : World) : CnV Tryz.prog 76 #[trV t sl pl ll tl, vi n] w (.bool (decide (0 ≤ n ∧ n ≤ t.s.divisions))) := by
  refine cnv (vs := [_, _]) Tryz.func76 rfl rfl ?_
  all_goals refine tc_seq fun K1 hK1 => ?_; refine tc_region ?_; refine tl_e (e_box rfl rfl rfl) rfl (fun b _ => ?_); refine tl_q (y_assign rfl) rfl ?_; refine tl_nil ?_; ((refine hK1 ?_; try (clear hK1; clear K1)))
  all_goals refine tc_seq fun K2 hK2 => ?_; refine tc_region ?_; refine tl_q (y_move rfl) rfl ?_; refine tl_q (y_field rfl) rfl ?_; refine tl_q (y_field rfl) rfl ?_; refine tl_q (y_load1 rfl (by repeat constructor) (by rfl)) rfl ?_; refine tl_e (e_callV rfl (.cons rfl (.cons rfl (.cons rfl .nil))) (fun w' _ => twithin_c _ _ _ w')) rfl (fun _ _ => ?_); refine tl_q (y_assign rfl) rfl ?_; refine tl_nil ?_; ((refine hK2 ?_; try (clear hK2; clear K2)))
  all_goals refine tc_ret ?_; (repeat (first | refine tk_then_ret ?_))
  all_goals (refine tk_ret rfl rfl (.cons (.tmp rfl) .nil) ?_)
  all_goals (
   exact fun w' hw' => ⟨rfl, hw'.fr (by simp)⟩)
def lqB (r : Int × Int) : Bool := decide (1 ≤ r.1 ∧ r.1 ≤ r.2 ∧ r.2 ≤ 2000 ∧ r.2 - r.1 ≤ 40)
theorem liquid_c (r : Int × Int) (w : World) : CnV Tryz.prog 72 #[rV r] w (.bool (lqB r)) := by
  refine cnv (vs := [_]) Tryz.func72 rfl rfl ?_
  all_goals refine tc_seq fun K1 hK1 => ?_; refine tc_region ?_; refine tl_e (e_box rfl rfl rfl) rfl (fun b _ => ?_); refine tl_q (y_assign rfl) rfl ?_; refine tl_nil ?_; ((refine hK1 ?_; try (clear hK1; clear K1)))
  all_goals refine tc_seq fun K2 hK2 => ?_; refine tc_region ?_; refine tl_q (y_field rfl) rfl ?_; refine tl_q (y_load1 rfl (by repeat constructor) (by rfl)) rfl ?_; refine tl_q (y_leq rfl rfl) rfl ?_; refine tl_q (y_move rfl) rfl ?_; ((refine tl_gs rfl rfl (fun hc => ?_) (fun hc => ?_) <;> (try simp only [qn1, qn2, qn3, qn4, qn5, qn6, qn7, qn8] at hc) <;> (first | refine tl_sk rfl rfl rfl rfl ?_ | refine tl_qg rfl rfl (y_field rfl) rfl ?_)))
  all_goals (first | refine tl_sk rfl rfl rfl rfl ?_ | refine tl_qg rfl rfl (y_load1 rfl (by repeat constructor) (by rfl)) rfl ?_); (first | refine tl_sk rfl rfl rfl rfl ?_ | refine tl_qg rfl rfl (y_field rfl) rfl ?_); (first | refine tl_sk rfl rfl rfl rfl ?_ | refine tl_qg rfl rfl (y_load1 rfl (by repeat constructor) (by rfl)) rfl ?_); (first | refine tl_sk rfl rfl rfl rfl ?_ | refine tl_qg rfl rfl (y_leq rfl rfl) rfl ?_); (first | refine tl_q (y_pick_t rfl rfl) rfl ?_ | refine tl_q (y_pick_f rfl rfl) rfl ?_); refine tl_q (y_move rfl) rfl ?_; ((first | refine tl_sk rfl rfl rfl rfl ?_ | (refine tl_gs rfl rfl (fun hc => ?_) (fun hc => ?_) <;> (try simp only [qn1, qn2, qn3, qn4, qn5, qn6, qn7, qn8] at hc) <;> (first | refine tl_sk rfl rfl rfl rfl ?_ | refine tl_qg rfl rfl (y_field rfl) rfl ?_))))
  all_goals (first | refine tl_sk rfl rfl rfl rfl ?_ | refine tl_qg rfl rfl (y_load1 rfl (by repeat constructor) (by rfl)) rfl ?_); (first | refine tl_sk rfl rfl rfl rfl ?_ | refine tl_qg rfl rfl (y_leq rfl rfl) rfl ?_); (first | refine tl_q (y_pick_t rfl rfl) rfl ?_ | refine tl_q (y_pick_f rfl rfl) rfl ?_); refine tl_q (y_move rfl) rfl ?_; ((first | refine tl_sk rfl rfl rfl rfl ?_ | (refine tl_gs rfl rfl (fun hc => ?_) (fun hc => ?_) <;> (try simp only [qn1, qn2, qn3, qn4, qn5, qn6, qn7, qn8] at hc) <;> (first | refine tl_sk rfl rfl rfl rfl ?_ | refine tl_qg rfl rfl (y_field rfl) rfl ?_))))
  all_goals (first | refine tl_sk rfl rfl rfl rfl ?_ | refine tl_qg rfl rfl (y_load1 rfl (by repeat constructor) (by rfl)) rfl ?_); (first | refine tl_sk rfl rfl rfl rfl ?_ | refine tl_qg rfl rfl (y_field rfl) rfl ?_); (first | refine tl_sk rfl rfl rfl rfl ?_ | refine tl_qg rfl rfl (y_load1 rfl (by repeat constructor) (by rfl)) rfl ?_); (first | refine tl_sk rfl rfl rfl rfl ?_ | refine tl_qg rfl rfl (y_sub rfl rfl (by omega)) rfl ?_); (first | refine tl_sk rfl rfl rfl rfl ?_ | refine tl_qg rfl rfl (y_leq rfl rfl) rfl ?_); (first | refine tl_q (y_pick_t rfl rfl) rfl ?_ | refine tl_q (y_pick_f rfl rfl) rfl ?_); refine tl_q (y_assign rfl) rfl ?_; refine tl_nil ?_; ((refine hK2 ?_; try (clear hK2; clear K2)))
  all_goals refine tc_ret ?_; (repeat (first | refine tk_then_ret ?_))
  all_goals (refine tk_ret rfl rfl (.cons (.tmp rfl) .nil) ?_)
  all_goals (
   refine fun w' hw' => ⟨congrArg (fun b => Ending.returned (Value.bool b)) ?_, hw'.fr (by simp)⟩
   unfold lqB
   first
   | exact (decide_eq_true (by omega)).symm
   | exact (decide_eq_false (by omega)).symm
   | exact decide_eq_decide.2 (by omega))
def tsB (t : Tr) (x : Int × Int × Int) : Bool := decide ((0 ≤ x.1 ∧ x.1 ≤ (t.liquids.length : Int) - 1) ∧ (0 ≤ x.2.1 ∧ x.2.1 ≤ t.s.weights.length) ∧ (x.2.2 = -1 ∨ (0 ≤ x.2.2 ∧ x.2.2 ≤ t.s.divisions)))
theorem test_c (t : Tr) (hL : (t.liquids.length : Int) ≤ 9000000000000000000) (x : Int × Int × Int) (sl pl ll tl : Value) (w : World) (hr : RdI w sl t.s.weights) (hl : RdR w ll t.liquids) : CnV Tryz.prog 69 #[trV t sl pl ll tl, tsV x] w (.bool (tsB t x)) := by
  have hr0 := hr
  obtain ⟨ad, cap, b0, o, rfl, _, _⟩ := hl.open
  refine cnv (vs := [_, _]) Tryz.func69 rfl rfl ?_
  all_goals refine tc_seq fun K1 hK1 => ?_; refine tc_region ?_; refine tl_e (e_box rfl rfl rfl) rfl (fun b2 _ => ?_); refine tl_e (e_box rfl rfl rfl) rfl (fun b3 _ => ?_); refine tl_q (y_assign rfl) rfl ?_; refine tl_nil ?_; ((refine hK1 ?_; try (clear hK1; clear K1)))
  all_goals refine tc_seq fun K2 hK2 => ?_; refine tc_region ?_; refine tl_q (y_field rfl) rfl ?_; refine tl_q (y_load1 rfl (by repeat constructor) (by rfl)) rfl ?_; refine tl_q (y_field rfl) rfl ?_; refine tl_q (y_load1 rfl (by repeat constructor) (by rfl)) rfl ?_; refine tl_q (y_len rfl) rfl ?_; refine tl_q (y_sub rfl rfl (by omega)) rfl ?_; refine tl_e (e_callV rfl (.cons rfl (.cons rfl (.cons rfl .nil))) (fun w' _ => twithin_c _ _ _ w')) rfl (fun _ _ => ?_); refine tl_q (y_move rfl) rfl ?_; ((refine tl_gs rfl rfl (fun hc => ?_) (fun hc => ?_) <;> (try simp only [qn1, qn2, qn3, qn4, qn5, qn6, qn7, qn8] at hc) <;> (first | refine tl_sk rfl rfl rfl rfl ?_ | refine tl_qg rfl rfl (y_loadW rfl (by repeat constructor) (by rfl)) rfl ?_)))
  all_goals (first | refine tl_sk rfl rfl rfl rfl ?_ | refine tl_qg rfl rfl (y_field rfl) rfl ?_); (first | refine tl_sk rfl rfl rfl rfl ?_ | refine tl_qg rfl rfl (y_load1 rfl (by repeat constructor) (by rfl)) rfl ?_); (first | refine tl_sk rfl rfl rfl rfl ?_ | refine tl_eg rfl rfl rfl (e_callV rfl (.cons rfl (.cons rfl .nil)) (fun w' hw' => tload_c t _ _ _ _ _ w' (hr0.fr (hw'.fr (by simp))))) (fun _ _ => ?_)); (first | refine tl_q (y_pick_t rfl rfl) rfl ?_ | refine tl_q (y_pick_f rfl rfl) rfl ?_); refine tl_q (y_move rfl) rfl ?_; ((first | refine tl_sk rfl rfl rfl rfl ?_ | (refine tl_gs rfl rfl (fun hc => ?_) (fun hc => ?_) <;> (try simp only [qn1, qn2, qn3, qn4, qn5, qn6, qn7, qn8] at hc) <;> (first | refine tl_sk rfl rfl rfl rfl ?_ | refine tl_qg rfl rfl (y_field rfl) rfl ?_))))
  all_goals (first | refine tl_sk rfl rfl rfl rfl ?_ | refine tl_qg rfl rfl (y_load1 rfl (by repeat constructor) (by rfl)) rfl ?_); (first | refine tl_sk rfl rfl rfl rfl ?_ | refine tl_qg rfl rfl (y_eql rfl rfl) rfl ?_); (first | refine tl_sk rfl rfl rfl rfl ?_ | refine tl_qg rfl rfl (y_move rfl) rfl ?_); ((first | refine tl_su rfl rfl rfl ?_ | (refine tl_gs rfl rfl (fun hc => ?_) (fun hc => ?_) <;> (try simp only [qn1, qn2, qn3, qn4, qn5, qn6, qn7, qn8] at hc) <;> (first | refine tl_sk rfl rfl rfl rfl ?_ | refine tl_qg rfl rfl (y_loadW rfl (by repeat constructor) (by rfl)) rfl ?_))))
  all_goals (first | refine tl_sk rfl rfl rfl rfl ?_ | refine tl_qg rfl rfl (y_field rfl) rfl ?_ | refine tl_su rfl rfl rfl ?_); (first | refine tl_sk rfl rfl rfl rfl ?_ | refine tl_qg rfl rfl (y_load1 rfl (by repeat constructor) (by rfl)) rfl ?_ | refine tl_su rfl rfl rfl ?_); (first | refine tl_sk rfl rfl rfl rfl ?_ | refine tl_eg rfl rfl rfl (e_callV rfl (.cons rfl (.cons rfl .nil)) (fun w' _ => tdivision_c t _ _ _ _ _ w')) (fun _ _ => ?_) | refine tl_su rfl rfl rfl ?_); (first | refine tl_sk rfl rfl rfl rfl ?_ | refine tl_qg rfl rfl (y_pick_t rfl rfl) rfl ?_ | refine tl_qg rfl rfl (y_pick_f rfl rfl) rfl ?_); (first | refine tl_q (y_pick_t rfl rfl) rfl ?_ | refine tl_q (y_pick_f rfl rfl) rfl ?_); refine tl_q (y_assign rfl) rfl ?_; refine tl_nil ?_; ((refine hK2 ?_; try (clear hK2; clear K2)))
  all_goals refine tc_ret ?_; (repeat (first | refine tk_then_ret ?_))
  all_goals (refine tk_ret rfl rfl (.cons (.tmp rfl) .nil) ?_)
  all_goals (
   refine fun w' hw' => ⟨congrArg (fun b => Ending.returned (Value.bool b)) ?_, hw'.fr (by simp)⟩
   unfold tsB
   first
   | exact (decide_eq_true (by omega)).symm
   | exact (decide_eq_false (by omega)).symm
   | exact decide_eq_decide.2 (by omega))
end Go.Sp
/-
  Lists of numbers in order, Narrow, Leave.
-/
namespace Go.Sp
open Go Go.Proofs
/-- A slice of the call's own: nil, or at the head of a block that is known whole. -/
theorem clone_nil (w : World) : CnV Tryz.prog 113 #[.slice none 0 0] w (.slice none 0 0) := by
  refine cnv (vs := [_]) Tryz.func113 rfl rfl ?_
  all_goals refine tc_seq fun K1 hK1 => ?_; refine tc_region ?_; refine tl_q (y_assign rfl) rfl ?_; refine tl_nil ?_; ((refine hK1 ?_; try (clear hK1; clear K1)))
  all_goals refine tc_seq fun K2 hK2 => ?_; refine tc_seq fun K3 hK3 => ?_; refine tc_region ?_; refine tl_q (y_move rfl) rfl ?_; refine tl_q (y_eql_nil rfl rfl) rfl ?_; refine tl_nil ?_; ((refine hK3 ?_; try (clear hK3; clear K3)))
  all_goals (
   refine tc_cond rfl (fun hc => ?_) (fun hc => ?_)
   · all_goals (skip)
     all_goals refine tc_seq fun K4 hK4 => ?_; refine tc_region ?_; refine tl_q (y_assign rfl) rfl ?_; refine tl_nil ?_; ((refine hK4 ?_; try (clear hK4; clear K4)))
     all_goals refine tc_ret ?_; (repeat (refine tk_then_ret ?_))
     all_goals (refine tk_ret rfl rfl (.cons (.tmp rfl) .nil) ?_)
     all_goals (
      exact fun w' hw' => ⟨rfl, hw'.fr (by simp)⟩)
   · all_goals (skip)
     all_goals refine tc_skip ?_; ((refine hK2 ?_; try (clear hK2; clear K2)))
     all_goals refine tc_seq fun K5 hK5 => ?_; refine tc_region ?_; (refine tl_e (e_bslice rfl (by (repeat (exact .nil)); done) rfl rfl) rfl (fun _ _ => ?_))
     all_goals refine tl_q (y_move rfl) rfl ?_; ((exfalso; simp at hc))
     skip
     all_goals (
      exact fun w' hw' => ⟨rfl, hw'.fr (by simp)⟩))
theorem clone_own (b cap : Nat) (xs : List Int) (hx : xs.length ≤ 1000) (w : World) (hr : RdI w (.slice (some ⟨b, 0, none⟩) xs.length cap) xs) :
    CnX Tryz.prog 113 #[.slice (some ⟨b, 0, none⟩) xs.length cap] w [] (fun r : Nat × Nat × List Value => .slice (some ⟨r.1, 0, none⟩) xs.length r.2.1)
      (fun r w' => (xs.length ≤ r.2.1 ∧ r.2.2.length = r.2.1 - xs.length) ∧ w.heap.size ≤ r.1 ∧ w'.heap[r.1]? = some (.cells (xs.map vi ++ r.2.2).toArray 3 (0, 0))) := by
  refine cnx0 (vs := [_]) Tryz.func113 rfl rfl ?_
  all_goals refine tc_seq fun K1 hK1 => ?_; refine tc_region ?_; refine tl_q (y_assign rfl) rfl ?_; refine tl_nil ?_; ((refine hK1 ?_; try (clear hK1; clear K1)))
  all_goals refine tc_seq fun K2 hK2 => ?_; refine tc_seq fun K3 hK3 => ?_; refine tc_region ?_; refine tl_q (y_move rfl) rfl ?_; refine tl_q (y_eql_nil rfl rfl) rfl ?_; refine tl_nil ?_; ((refine hK3 ?_; try (clear hK3; clear K3)))
  all_goals (
   refine tc_cond rfl (fun hc => ?_) (fun hc => ?_)
   · all_goals ((exfalso; exact Bool.noConfusion hc; done))
   · all_goals (skip)
     all_goals refine tc_skip ?_; ((refine hK2 ?_; try (clear hK2; clear K2)))
     all_goals refine tc_seq fun K5 hK5 => ?_; refine tc_region ?_; (refine tl_e (e_bslice rfl (by (repeat (exact .nil)); done) rfl rfl) rfl (fun _ _ => ?_))
     all_goals refine tl_q (y_move rfl) rfl ?_; (refine tl_e (e_append_own (old := []) (junk := []) rfl rfl rfl (by repeat constructor) rfl rfl (Nat.le_refl 0) (fun w' hw' => hr.fr (hw'.fr (by simp))) (fun u hu => by obtain ⟨_, _, rfl⟩ := List.mem_map.1 hu; rfl) (by omega) rfl) rfl (fun r hq => ?_))
     all_goals refine tl_q (y_assign rfl) rfl ?_; refine tl_nil ?_; ((refine hK5 ?_; try (clear hK5; clear K5)))
     all_goals refine tc_ret ?_; (repeat (first | refine tk_then_ret ?_))
     all_goals (refine tk_ret rfl rfl (.cons (.tmp rfl) .nil) ?_)
     all_goals (
      refine fun w' hw' => ⟨r, by simp [outV], hw'.fr (by simp), ?_, ?_, ?_⟩
      · simpa using hq
      · exact (hw'.own _ (HM.mem (b := r.1) (by repeat constructor)) (w, []) (by simp)).resolve_left (by simp)
      · have := hw'.heap _ (HM.mem (b := r.1) (by repeat constructor))
        simpa using this))
theorem Fr.keepS {S : List Nat} {w w' : World} (h : Fr S w w') {b : Nat} {o : Obj} (hS : b ∉ S) (hb : w.heap[b]? = some o) : w'.heap[b]? = some o := by
  rw [h.block b (by rcases Nat.lt_or_ge b w.heap.size with h | h; exact h; rw [Array.getElem?_eq_none h] at hb; cases hb) hS]; exact hb
theorem Fr.keep {w w' : World} (h : Fr [] w w') {b : Nat} {o : Obj} (hb : w.heap[b]? = some o) : w'.heap[b]? = some o := h.keepS (by simp) hb
theorem RdI.frS {w w' : World} {sl : Value} {xs : List Int} {S : List Nat} (h : RdI w sl xs) (f : Fr S w w') (hS : sepS sl S) : RdI w' sl xs := Reads.frS h f hS
/-- The first list, in order, of so many more numbers from one on that passes. -/
def srch (p : List Int → Bool) (below : Int) : Nat → List Int → Int → Option (List Int)
  | 0, l, _ => if p l then some l else none
  | m + 1, l, fr => (List.range (below - m - fr).toNat).findSome? fun (j : Nat) => srch p below m (l ++ [fr + (j : Int)]) (fr + (j : Int) + 1)
theorem fs_hit {α : Type} {f : Nat → Option α} {n j : Nat} {r : α} (hj : j < n) (hr : f j = some r) (hno : ∀ k, k < j → f k = none) : (List.range n).findSome? f = some r := by
  rw [List.findSome?_eq_some_iff]
  refine ⟨List.range j, j, (List.range n).drop (j + 1), ?_, hr, fun x hx => hno x (List.mem_range.1 hx)⟩
  apply List.ext_getElem?
  intro i
  by_cases h : i < j
  · rw [List.getElem?_append_left (by simpa using h)]; simp [h, Nat.lt_trans h hj]
  · rw [List.getElem?_append_right (by simp; omega)]
    simp only [List.length_range]
    by_cases h2 : i = j
    · subst h2; simp [hj]
    · obtain ⟨d, rfl⟩ : ∃ d, i = j + 1 + d := ⟨i - j - 1, by omega⟩
      rw [show j + 1 + d - j = d + 1 from by omega]
      simp
theorem fs_miss {α : Type} {f : Nat → Option α} {n : Nat} (hno : ∀ k, k < n → f k = none) : (List.range n).findSome? f = none := by
  rw [List.findSome?_eq_none_iff]
  exact fun x hx => hno x (List.mem_range.1 hx)
/-- A slice that holds l: nil, or at the head of a block beyond S. -/
def SlSt (w : World) (sl : Value) (l : List Int) (S : List Nat) : Prop :=
  (l = [] ∧ sl = .slice none 0 0) ∨ ∃ b n cap, ∃ junk : List Value, n = l.length ∧ sl = .slice (some ⟨b, 0, none⟩) n cap ∧ w.heap[b]? = some (.cells (l.map vi ++ junk).toArray 3 (0, 0)) ∧ b ∉ S
theorem SlSt.sep {w : World} {sl : Value} {l : List Int} {S : List Nat} (h : SlSt w sl l S) : sepS sl S := by
  rcases h with ⟨_, rfl⟩ | ⟨b, n, cap, junk, _, rfl, _, hb⟩
  · intro p m c h; cases h
  · intro p m c h; cases h; exact hb
theorem SlSt.rd {w : World} {sl : Value} {l : List Int} {S : List Nat} (h : SlSt w sl l S) : RdI w sl l := by
  rcases h with ⟨rfl, rfl⟩ | ⟨b, n, cap, junk, rfl, rfl, h, hb⟩
  · exact ⟨rfl, none, 0, rfl, fun h => absurd rfl h⟩
  · refine ⟨by simp, _, _, rfl, fun _ => ⟨b, 0, rfl, ?_⟩⟩
    have := CA_pre (l.map vi) junk 3 (0, 0)
    rw [List.length_map] at this
    rw [Nat.mul_one]
    exact this.cells h
/-- What is asked of the test of a list: it may turn the block bm, of which it keeps J. -/
def Pass (P : Program) (g : FuncId) (cap : Array Value) (p : List Int → Bool) (B : Int) (S : List Nat) (bm : Nat) (J : Obj → Prop) (w : World) : Prop :=
  ∀ (w1 : World) (o : Obj) (xs : List Int) (sl : Value), Fr S w w1 → w1.heap[bm]? = some o → J o → RdI w1 sl xs → sepS sl S → sl.oneCell' = true → xs.length ≤ 20 → (∀ x ∈ xs, 0 ≤ x ∧ x < B) →
    CnX P g (#[] ++ #[sl] ++ cap) w1 [bm] (fun _ : Obj => .bool (p xs)) (fun o' w' => J o' ∧ w'.heap[bm]? = some o')
theorem cell0 {w : World} {b o : Nat} {cs : Array Value} {e : TypeId} {f : Nat × Nat} {v : Value} (h : w.heap[b]? = some (.cells cs e f)) (hv : cs[o]? = some v) : w.cell? ⟨b, o, none⟩ = some v := by simp [World.cell?, h, hv]
theorem Pass.more {P : Program} {g : FuncId} {cap : Array Value} {p : List Int → Bool} {B : Int} {S S' : List Nat} {bm : Nat} {J : Obj → Prop} {w w' : World} (h : Pass P g cap p B S bm J w) (f : Fr S w w') (hS : ∀ x ∈ S', x ∈ S ∨ w.heap.size ≤ x) (hS2 : ∀ x ∈ S, x ∈ S') : Pass P g cap p B S' bm J w' :=
  fun w1 o xs sl f1 h1 h2 h3 h4 => h w1 o xs sl (f.trans f1 hS) h1 h2 h3 (fun q m c e hb => h4 q m c e (hS2 _ hb))
end Go.Sp
/-
  Package trial: a test that keeps a number, over a list; the parts of a stem.
-/
namespace Go.Sp
open Go Go.Proofs
/-- The number that is kept before the k-th test. -/
def lastAt (l0 : Int) (xs : List Int) (k : Nat) : Int := if k = 0 then l0 else xs.getD (k - 1) 0
theorem lastAt_succ (l0 : Int) (xs : List Int) (k : Nat) : lastAt l0 xs (k + 1) = xs.getD k 0 := by simp [lastAt]
def okAt (q : Int → Int → Bool) (l0 : Int) (xs : List Int) (k : Nat) : Bool := q (lastAt l0 xs k) (xs.getD k 0)
def idxS (q : Int → Int → Bool) (l0 : Int) (xs : List Int) : Int := ((List.range xs.length).find? (okAt q l0 xs)).elim (-1) (fun (k : Nat) => (k : Int))
theorem idxS_hit {q : Int → Int → Bool} {l0 : Int} {xs : List Int} {k : Nat} (hk : k < xs.length) (hp : okAt q l0 xs k = true) (hn : ∀ j, j < k → okAt q l0 xs j = false) : idxS q l0 xs = k := by
  have : (List.range xs.length).find? (okAt q l0 xs) = some k := by
    rw [List.find?_range_eq_some]
    exact ⟨hp, List.mem_range.2 hk, fun j hj => by simp [hn j hj]⟩
  unfold idxS
  rw [this]; rfl
theorem idxS_miss {q : Int → Int → Bool} {l0 : Int} {xs : List Int} (hn : ∀ j, j < xs.length → okAt q l0 xs j = false) : idxS q l0 xs = -1 := by
  have : (List.range xs.length).find? (okAt q l0 xs) = none := by
    rw [List.find?_eq_none]
    intro j hj; simp [hn j (List.mem_range.1 hj)]
  unfold idxS
  rw [this]; rfl
theorem idxS_any (q : Int → Int → Bool) (l0 : Int) (xs : List Int) : decide (0 ≤ idxS q l0 xs) = (List.range xs.length).any (okAt q l0 xs) := by
  unfold idxS
  cases h : (List.range xs.length).find? (okAt q l0 xs) with
  | none =>
    rw [List.find?_eq_none] at h
    symm
    simp only [Option.elim]
    rw [List.any_eq_false.2 (fun x hx => h x hx)]
    rfl
  | some k =>
    have h1 := List.find?_some h
    have h2 := List.mem_of_find?_eq_some h
    rw [List.any_eq_true.2 ⟨k, h2, h1⟩]
    simp [Option.elim]
theorem RdI.at {w : World} {b o cp : Nat} {xs : List Int} (h : RdI w (.slice (some ⟨b, o, none⟩) xs.length cp) xs) {i : Nat} (hi : i < xs.length) : w.cell? ⟨b, o + i, none⟩ = some (vi (xs.getD i 0)) := by
  obtain ⟨_, _, _, _, e, had, hcell⟩ := h.open
  cases e
  cases had (by omega)
  exact hcell w (Fr.refl _ _) i hi
/-- What is asked of a function value that tests a number, and keeps one at b. -/
def TestsS (P : Program) (g : FuncId) (first cap : Array Value) (b : Nat) (q : Int → Int → Bool) (w : World) : Prop :=
  ∀ (x l : Int) (w' : World), Fr [b] w w' → w'.heap[b]? = some (.cells #[vi l] 3 (0, 0)) → CnX P g (first ++ #[vi x] ++ cap) w' [b] (fun _ : Unit => .bool (q l x)) (fun _ w2 => True ∧ w2.heap[b]? = some (.cells #[vi x] 3 (0, 0)))
theorem TestsS.fr {P : Program} {g : FuncId} {first cap : Array Value} {b : Nat} {q : Int → Int → Bool} {w w1 : World} (h : TestsS P g first cap b q w) (f : Fr [b] w w1) : TestsS P g first cap b q w1 := fun x l w' f' hl => h x l w' (f.trans f' (fun x hx => .inl hx)) hl
theorem indexFuncS_c (g : FuncId) [GoFn Tryz.prog g] (first cap : Array Value) (b : Nat) (q : Int → Int → Bool) (xs : List Int) (hx : (xs.length : Int) ≤ 9000000000000000000) (sl : Value) (w : World) (l0 : Int) (hl : w.heap[b]? = some (.cells #[vi l0] 3 (0, 0))) (hrd : ∀ w', Fr [b] w w' → RdI w' sl xs) (ht : TestsS Tryz.prog g first cap b q w) :
    CnX Tryz.prog 141 #[sl, .func (.func g) first cap] w [b] (fun _ : Int => vi (idxS q l0 xs)) (fun z w2 => True ∧ w2.heap[b]? = some (.cells #[vi z] 3 (0, 0))) := by
  obtain ⟨ad, cp, b0, o, rfl, had, _⟩ := (hrd w (Fr.refl _ _)).open
  refine cnxS (vs := [_, _]) (S := [b]) [(b, .cells #[vi l0] 3 (0, 0))] Tryz.func141 rfl rfl ⟨by simp [hl], by simp, by simp⟩ ?_
  all_goals refine tc_seq fun K1 hK1 => ?_; refine tc_region ?_; refine tl_q (y_assign rfl) rfl ?_; refine tl_nil ?_; ((refine hK1 ?_; try (clear hK1; clear K1)))
  all_goals refine tc_seq fun K2 hK2 => ?_; refine tc_seq fun K3 hK3 => ?_; refine tc_region ?_; refine tl_q (y_move rfl) rfl ?_; refine tl_q (y_len rfl) rfl ?_; refine tl_q (y_move rfl) rfl ?_; refine tl_nil ?_; ((refine hK3 ?_; try (clear hK3; clear K3)))
  all_goals refine tc_block ?_
  all_goals (
   refine tc_loop (fun k : Nat => k ≤ xs.length ∧ ∀ j, j < k → okAt q l0 xs j = false) (fun k => [(0, .slice ad xs.length cp), (1, .func (.func g) first cap), (7, vi xs.length), (8, vi k)]) (fun _ => [(w, [b])]) (fun k => [(b, .cells #[vi (lastAt l0 xs k)] 3 (0, 0))]) (fun k => xs.length - k) ?_ ?_
   · exact tk_start 0 ⟨Nat.zero_le _, fun j hj => absurd hj (Nat.not_lt_zero j)⟩ (.cons rfl (.cons rfl (.cons rfl (.cons rfl .nil)))) (fun _ h => h)
   · rintro k ⟨hk, hj⟩
     all_goals refine tc_seq fun K4 hK4 => ?_; refine tc_region ?_; refine tl_q (y_lss rfl rfl) rfl ?_; refine tl_nil ?_; ((refine hK4 ?_; try (clear hK4; clear K4)))
     all_goals refine tc_seq fun K5 hK5 => ?_
     all_goals (
      refine tc_cond rfl (fun hc => ?_) (fun hc => ?_)
      · try simp only [qn1, qn2, qn3, qn4, qn5, qn6, qn7, qn8] at hc
        all_goals refine tc_skip ?_; ((refine hK5 ?_; try (clear hK5; clear K5)))
        all_goals refine tc_seq fun K6 hK6 => ?_; refine tc_block ?_; refine tc_seq fun K7 hK7 => ?_; refine tc_region ?_; refine tl_q (y_move rfl) rfl ?_; refine tl_q (y_assign rfl) rfl ?_; refine tl_nil ?_; ((refine hK7 ?_; try (clear hK7; clear K7)))
        all_goals refine tc_seq fun K8 hK8 => ?_
        have had' := had (by omega)
        subst had'
        all_goals refine tc_region ?_; refine tl_q (y_move rfl) rfl ?_; refine tl_q (y_move rfl) rfl ?_; refine tl_q (y_move rfl) rfl ?_; refine tl_q (y_index rfl rfl (by omega) rfl) rfl ?_; ((refine tl_q (y_load1o (v := vi (xs.getD k 0)) rfl (fun w' hw' => by rw [show Int.toNat (k : Int) * 1 = k from by omega]; exact (hrd w' (hw'.fr (by simp))).at (by omega))) rfl ?_))
        all_goals refine tl_e (e_callUf (val := fun _ : Unit => .bool (okAt q l0 xs k)) (p := fun _ => True) (b := b) (ob := fun _ => .cells #[vi (xs.getD k 0)] 3 (0, 0)) rfl rfl (.cons rfl .nil) (fun w' hw' => ht (xs.getD k 0) _ w' (hw'.fr (by simp)) (hw'.heap _ (HM.mem (by repeat constructor)))) (fun _ => (by repeat constructor))) rfl (fun _ _ => ?_); refine tl_nil ?_; ((refine hK8 ?_; try (clear hK8; clear K8)))
        all_goals (
         refine tc_cond rfl (fun hc => ?_) (fun hc => ?_)
         · all_goals (skip)
           all_goals refine tc_seq fun K9 hK9 => ?_; refine tc_region ?_; refine tl_q (y_move rfl) rfl ?_; refine tl_q (y_assign rfl) rfl ?_; refine tl_nil ?_; ((refine hK9 ?_; try (clear hK9; clear K9)))
           all_goals refine tc_ret ?_; (repeat (first | refine tk_then_ret ?_ | refine tk_block_ret ?_))
           all_goals (refine tk_ret rfl rfl (.cons (.tmp rfl) .nil) ?_)
           all_goals (
            first
            | exact fun w' hw' => ⟨xs.getD k 0, by rw [idxS_hit (k := k) (by omega) (by simpa using hc) hj]; rfl, hw'.fr (by simp), trivial, hw'.heap _ (HM.mem (by repeat constructor))⟩
            | exact fun w' hw' => ⟨lastAt l0 xs k, by rw [idxS_miss (fun j hjj => hj j (by omega))]; rfl, hw'.fr (by simp), trivial, hw'.heap _ (HM.mem (by repeat constructor))⟩)
         · all_goals (skip)
           all_goals refine tc_skip ?_; ((refine hK6 ?_; try (clear hK6; clear K6)))
           all_goals refine tc_region ?_; refine tl_q (y_add rfl rfl (by omega)) rfl ?_; refine tl_q (y_move rfl) rfl ?_; refine tl_nil ?_
           all_goals (
            exact tk_round (k + 1) ⟨by omega, fun j hj' => by rcases Nat.lt_succ_iff_lt_or_eq.1 hj' with h | rfl; exact hj j h; simpa using hc⟩ (by omega) (.cons rfl (.cons rfl (.cons rfl (.cons rfl .nil)))) (fun _ h => by rw [lastAt_succ]; exact h)))
      · try simp only [qn1, qn2, qn3, qn4, qn5, qn6, qn7, qn8] at hc
        all_goals refine tc_exit ?_; ((refine hK2 ?_; try (clear hK2; clear K2)))
        all_goals refine tc_seq fun K10 hK10 => ?_; refine tc_region ?_; refine tl_q (y_assign rfl) rfl ?_; refine tl_nil ?_; ((refine hK10 ?_; try (clear hK10; clear K10)))
        all_goals refine tc_ret ?_; (repeat (first | refine tk_then_ret ?_))
        all_goals (refine tk_ret rfl rfl (.cons (.tmp rfl) .nil) ?_)
        all_goals (
         first
         | exact fun w' hw' => ⟨xs.getD k 0, by rw [idxS_hit (k := k) (by omega) (by simpa using hc) hj]; rfl, hw'.fr (by simp), trivial, hw'.heap _ (HM.mem (by repeat constructor))⟩
         | exact fun w' hw' => ⟨lastAt l0 xs k, by rw [idxS_miss (fun j hjj => hj j (by omega))]; rfl, hw'.fr (by simp), trivial, hw'.heap _ (HM.mem (by repeat constructor))⟩)))
theorem containsFuncS_c (g : FuncId) [GoFn Tryz.prog g] (first cap : Array Value) (b : Nat) (q : Int → Int → Bool) (xs : List Int) (hx : (xs.length : Int) ≤ 9000000000000000000) (sl : Value) (w : World) (l0 : Int) (hl : w.heap[b]? = some (.cells #[vi l0] 3 (0, 0))) (hrd : ∀ w', Fr [b] w w' → RdI w' sl xs) (ht : TestsS Tryz.prog g first cap b q w) :
    CnX Tryz.prog 92 #[sl, .func (.func g) first cap] w [b] (fun _ : Int => .bool ((List.range xs.length).any (okAt q l0 xs))) (fun z w2 => True ∧ w2.heap[b]? = some (.cells #[vi z] 3 (0, 0))) := by
  refine cnxS (vs := [_, _]) (S := [b]) [(b, .cells #[vi l0] 3 (0, 0))] Tryz.func92 rfl rfl ⟨by simp [hl], by simp, by simp⟩ ?_
  all_goals refine tc_seq fun K1 hK1 => ?_; refine tc_region ?_; refine tl_q (y_assign rfl) rfl ?_; refine tl_nil ?_; ((refine hK1 ?_; try (clear hK1; clear K1)))
  all_goals refine tc_seq fun K2 hK2 => ?_; refine tc_region ?_; refine tl_q (y_move rfl) rfl ?_; refine tl_q (y_move rfl) rfl ?_; refine tl_e (e_callU (ob := fun z : Int => .cells #[vi z] 3 (0, 0)) rfl (.cons rfl (.cons rfl .nil)) (fun w' hw' => indexFuncS_c g first cap b q xs hx _ w' l0 (hw'.heap _ (HM.mem (by repeat constructor))) (fun w2 f => hrd w2 ((hw'.fr (w0 := w) (S := [b]) (by simp)).trans f (fun x hx => .inl hx))) (ht.fr (hw'.fr (by simp)))) (fun _ => (by repeat constructor))) rfl (fun z hz => ?_); refine tl_q (y_geq rfl rfl) rfl ?_; refine tl_q (y_assign rfl) rfl ?_; refine tl_nil ?_; ((refine hK2 ?_; try (clear hK2; clear K2)))
  all_goals refine tc_ret ?_; (repeat (first | refine tk_then_ret ?_))
  all_goals (refine tk_ret rfl rfl (.cons (.tmp rfl) .nil) ?_)
  all_goals (
   exact fun w' hw' => ⟨z, by rw [← idxS_any]; rfl, hw'.fr (by simp), trivial, hw'.heap _ (HM.mem (by repeat constructor))⟩)
theorem allS1_c (g : FuncId) [GoFn Tryz.prog g] (first cap : Array Value) (b bp : Nat) (hne : bp ≠ b) (q : Int → Int → Bool) (w : World) (hb : w.heap[bp]? = some (.cells #[.func (.func g) first cap] 129 (0, 0))) (ht : TestsS Tryz.prog g first cap b q w) :
    TestsS Tryz.prog 155 #[] #[ptr bp] b (fun l x => !(q l x)) w := by
  intro x l w1 f1 hl
  have hb1 := f1.keepS (by simpa using hne) hb
  rw [show (#[] ++ #[vi x] ++ #[ptr bp] : Array Value) = #[vi x, ptr bp] from by simp]
  refine cnxS (vs := [_, _]) (S := [b]) [(b, .cells #[vi l] 3 (0, 0))] Tryz.func155 rfl rfl ⟨by simp [hl], by simp, by simp⟩ ?_
  all_goals refine tc_seq fun K1 hK1 => ?_; refine tc_region ?_; refine tl_q (y_assign rfl) rfl ?_; refine tl_nil ?_; ((refine hK1 ?_; try (clear hK1; clear K1)))
  all_goals refine tc_seq fun K2 hK2 => ?_; refine tc_region ?_; refine tl_q (y_load1o rfl (fun w' hw' => cell0 ((hw'.fr (w0 := w1) (S := [b]) (by simp)).keepS (by simpa using hne) hb1) rfl)) rfl ?_; refine tl_q (y_move rfl) rfl ?_; refine tl_e (e_callUf (val := fun _ : Unit => .bool (q l x)) (p := fun _ => True) (b := b) (ob := fun _ => .cells #[vi x] 3 (0, 0)) rfl rfl (.cons rfl .nil) (fun w' hw' => ht x l w' (f1.trans (hw'.fr (w0 := w1) (S := [b]) (by simp)) (fun x hx => .inl hx)) (hw'.heap _ (HM.mem (by repeat constructor)))) (fun _ => (by repeat constructor))) rfl (fun _ _ => ?_); refine tl_q (y_not rfl) rfl ?_; refine tl_q (y_assign rfl) rfl ?_; refine tl_nil ?_; ((refine hK2 ?_; try (clear hK2; clear K2)))
  all_goals refine tc_ret ?_; (repeat (first | refine tk_then_ret ?_))
  all_goals (refine tk_ret rfl rfl (.cons (.tmp rfl) .nil) ?_)
  all_goals (
   exact fun w' hw' => ⟨(), rfl, hw'.fr (by simp), trivial, hw'.heap _ (HM.mem (by repeat constructor))⟩)
def allS (q : Int → Int → Bool) (l0 : Int) (xs : List Int) : Bool := (List.range xs.length).all (okAt q l0 xs)
theorem allS_c (g : FuncId) [GoFn Tryz.prog g] (first cap : Array Value) (b : Nat) (q : Int → Int → Bool) (xs : List Int) (hx : (xs.length : Int) ≤ 9000000000000000000) (sl : Value) (w : World) (l0 : Int) (hl : w.heap[b]? = some (.cells #[vi l0] 3 (0, 0))) (hrd : ∀ w', Fr [b] w w' → RdI w' sl xs) (ht : TestsS Tryz.prog g first cap b q w) :
    CnX Tryz.prog 117 #[sl, .func (.func g) first cap] w [b] (fun _ : Int => .bool (allS q l0 xs)) (fun z w2 => True ∧ w2.heap[b]? = some (.cells #[vi z] 3 (0, 0))) := by
  refine cnxS (vs := [_, _]) (S := [b]) [(b, .cells #[vi l0] 3 (0, 0))] Tryz.func117 rfl rfl ⟨by simp [hl], by simp, by simp⟩ ?_
  all_goals refine tc_seq fun K1 hK1 => ?_; refine tc_region ?_; refine tl_e (e_box rfl rfl rfl) rfl (fun bp _ => ?_); refine tl_q (y_assign rfl) rfl ?_; refine tl_nil ?_; ((refine hK1 ?_; try (clear hK1; clear K1)))
  all_goals refine tc_seq fun K2 hK2 => ?_; refine tc_region ?_; refine tl_q (y_move rfl) rfl ?_; refine tl_q (y_fn .nil (.cons rfl .nil)) rfl ?_; (refine tl_e (e_callU (ob := fun z : Int => .cells #[vi z] 3 (0, 0)) rfl (.cons rfl (.cons rfl .nil)) (fun w' hw' => containsFuncS_c 155 #[] #[ptr bp] b (fun l x => !(q l x)) xs hx _ w' l0 (hw'.heap _ (HM.mem (by repeat constructor))) (fun w2 f => hrd w2 ((hw'.fr (w0 := w) (S := [b]) (by simp)).trans f (fun x hx => .inl hx))) (allS1_c g first cap b bp (by have := hw'.nodup; simp at this; omega) q w' (hw'.heap _ (HM.mem (by repeat constructor))) (ht.fr (hw'.fr (by simp))))) (fun _ => (by repeat constructor))) rfl (fun z hz => ?_))
  all_goals (refine tl_q (y_not rfl) rfl ?_); refine tl_q (y_assign rfl) rfl ?_; refine tl_nil ?_; ((refine hK2 ?_; try (clear hK2; clear K2)))
  all_goals refine tc_ret ?_; (repeat (first | refine tk_then_ret ?_))
  all_goals (refine tk_ret rfl rfl (.cons (.tmp rfl) .nil) ?_)
  all_goals (
   exact fun w' hw' => ⟨z, by unfold allS; rw [List.all_eq_not_any_not]; rfl, hw'.fr (by simp), trivial, hw'.heap _ (HM.mem (by repeat constructor))⟩)
end Go.Sp
/-
  Package trial: what is valid.
-/
namespace Go.Sp
open Go Go.Proofs
/-- A trial's slices, as they are read. -/
structure RdTr (w : World) (t : Tr) (sl pl ll tl : Value) : Prop where
  ws : RdI w sl t.s.weights
  ps : RdI w pl t.parts
  ls : RdR w ll t.liquids
  ts : RdT w tl t.tests
theorem RdTr.fr {w w' : World} {t : Tr} {sl pl ll tl : Value} (h : RdTr w t sl pl ll tl) (f : Fr [] w w') : RdTr w' t sl pl ll tl := ⟨h.ws.fr f, h.ps.fr f, h.ls.fr f, h.ts.fr f⟩
structure NT (t : Tr) : Prop where
  ws : (t.s.weights.length : Int) ≤ 9000000000000000000
  ps : (t.parts.length : Int) ≤ 9000000000000000000
  ls : (t.liquids.length : Int) ≤ 9000000000000000000
  ts : (t.tests.length : Int) ≤ 9000000000000000000
def partQ (t : Tr) (l x : Int) : Bool := decide (l < x ∧ (0 ≤ x ∧ x ≤ t.s.divisions))
theorem parted1_c (t : Tr) (sl pl ll tl : Value) (b bt : Nat) (hne : bt ≠ b) (w : World) (hbt : w.heap[bt]? = some (.cells (trV t sl pl ll tl).cells 38 (0, 0))) :
    TestsS Tryz.prog 122 #[] #[ptr b, ptr bt] b (partQ t) w := by
  intro x l w1 f1 hl
  have hb1 := f1.keepS (by simpa using hne) hbt
  rw [show (#[] ++ #[vi x] ++ #[ptr b, ptr bt] : Array Value) = #[vi x, ptr b, ptr bt] from by simp]
  refine cnxS (vs := [_, _, _]) (S := [b]) [(b, .cells #[vi l] 3 (0, 0))] Tryz.func122 rfl rfl ⟨by simp [hl], by simp, by simp⟩ ?_
  all_goals refine tc_seq fun K1 hK1 => ?_; refine tc_region ?_; refine tl_q (y_assign rfl) rfl ?_; refine tl_nil ?_; ((refine hK1 ?_; try (clear hK1; clear K1)))
  all_goals refine tc_seq fun K2 hK2 => ?_; refine tc_region ?_; refine tl_q (y_move rfl) rfl ?_; refine tl_q (y_load1 rfl (by repeat constructor) (by rfl)) rfl ?_; refine tl_q (y_gtr rfl rfl) rfl ?_; refine tl_q (y_move rfl) rfl ?_; ((refine tl_gs rfl rfl (fun hc => ?_) (fun hc => ?_) <;> (try simp only [qn1, qn2, qn3, qn4, qn5, qn6, qn7, qn8] at hc) <;> (first | refine tl_sk rfl rfl rfl rfl ?_ | refine tl_qg rfl rfl (y_loadNo (n := 10) (vs := (trV t sl pl ll tl).cells.toList) rfl (fun w' hw' => (CA_whole (c := (trV t sl pl ll tl).cells) (t := 38) (f := (0, 0)) rfl).cells ((hw'.fr (w0 := w1) (S := [b]) (by simp)).keepS (by simpa using hne) hb1))) rfl ?_)))
  all_goals (first | refine tl_sk rfl rfl rfl rfl ?_ | refine tl_qg rfl rfl (y_move rfl) rfl ?_); (first | refine tl_sk rfl rfl rfl rfl ?_ | refine tl_eg rfl rfl rfl (e_callV rfl (.cons rfl (.cons rfl .nil)) (fun w' _ => tdivision_c t x sl pl ll tl w')) (fun _ _ => ?_)); (first | refine tl_q (y_pick_t rfl rfl) rfl ?_ | refine tl_q (y_pick_f rfl rfl) rfl ?_); refine tl_q (y_assign rfl) rfl ?_; refine tl_nil ?_; ((refine hK2 ?_; try (clear hK2; clear K2)))
  all_goals refine tc_seq fun K3 hK3 => ?_; refine tc_region ?_; refine tl_q (y_move rfl) rfl ?_; refine tl_e (e_store1 rfl rfl (by repeat constructor) (by repeat constructor) (by rfl) (by rfl)) rfl (fun _ _ => ?_); refine tl_nil ?_; ((refine hK3 ?_; try (clear hK3; clear K3)))
  all_goals refine tc_seq fun K4 hK4 => ?_; refine tc_region ?_; refine tl_q (y_move rfl) rfl ?_; refine tl_q (y_assign rfl) rfl ?_; refine tl_nil ?_; ((refine hK4 ?_; try (clear hK4; clear K4)))
  all_goals refine tc_ret ?_; (repeat (first | refine tk_then_ret ?_))
  all_goals (refine tk_ret rfl rfl (.cons (.tmp rfl) .nil) ?_)
  all_goals (
   refine fun w' hw' => ⟨(), ?_, hw'.fr (by simp), trivial, hw'.heap _ (HM.mem (by repeat constructor))⟩
   refine congrArg (fun b => Ending.returned (Value.bool b)) ?_
   unfold partQ
   first
   | exact (decide_eq_true (by omega)).symm
   | exact (decide_eq_false (by omega)).symm
   | exact decide_eq_decide.2 (by omega))
def partB (t : Tr) : Bool := decide (0 < t.parts.length ∧ t.parts.getD 0 0 = 0) && allS (partQ t) (-1) t.parts
theorem parted_c (t : Tr) (hn : NT t) (sl pl ll tl : Value) (w : World) (hr : RdTr w t sl pl ll tl) : CnV Tryz.prog 70 #[trV t sl pl ll tl] w (.bool (partB t)) := by
  have hr0 := hr.ps
  obtain ⟨ad, cap, b0, o, rfl, had, hcell⟩ := hr.ps.open
  have hn2 := hn.ps
  refine cnv (vs := [_]) Tryz.func70 rfl rfl ?_
  all_goals refine tc_seq fun K1 hK1 => ?_; refine tc_region ?_; refine tl_e (e_box rfl rfl rfl) rfl (fun b1 _ => ?_); refine tl_q (y_assign rfl) rfl ?_; refine tl_nil ?_; ((refine hK1 ?_; try (clear hK1; clear K1)))
  all_goals refine tc_seq fun K2 hK2 => ?_; refine tc_region ?_; refine tl_e (e_alloc1 rfl) rfl (fun b3 _ => ?_); refine tl_e (e_store1 rfl rfl (by repeat constructor) (by repeat constructor) (by rfl) (by rfl)) rfl (fun _ _ => ?_); refine tl_nil ?_; ((refine hK2 ?_; try (clear hK2; clear K2)))
  all_goals refine tc_seq fun K3 hK3 => ?_; refine tc_region ?_; refine tl_q (y_field rfl) rfl ?_; refine tl_q (y_load1 rfl (by repeat constructor) (by rfl)) rfl ?_; refine tl_q (y_len rfl) rfl ?_; refine tl_q (y_gtr rfl rfl) rfl ?_; refine tl_q (y_move rfl) rfl ?_; ((refine tl_gs rfl rfl (fun hc => ?_) (fun hc => ?_) <;> (try simp only [qn1, qn2, qn3, qn4, qn5, qn6, qn7, qn8] at hc) <;> (first | refine tl_sk rfl rfl rfl rfl ?_ | refine tl_qg rfl rfl (y_field rfl) rfl ?_)))
  all_goals (first | refine tl_sk rfl rfl rfl rfl ?_ | refine tl_qg rfl rfl (y_load1 rfl (by repeat constructor) (by rfl)) rfl ?_); (first | refine tl_sk rfl rfl rfl rfl ?_ | refine tl_qg rfl rfl (y_index rfl rfl (by omega) (had (by omega))) rfl ?_); (first | refine tl_sk rfl rfl rfl rfl ?_ | refine tl_qg rfl rfl (y_load1o (v := vi (t.parts.getD 0 0)) rfl (fun w' hw' => hcell w' (hw'.fr (by simp)) 0 (by omega))) rfl ?_); (first | refine tl_sk rfl rfl rfl rfl ?_ | refine tl_qg rfl rfl (y_eql rfl rfl) rfl ?_); (first | refine tl_q (y_pick_t rfl rfl) rfl ?_ | refine tl_q (y_pick_f rfl rfl) rfl ?_); refine tl_q (y_move rfl) rfl ?_; ((first | refine tl_sk rfl rfl rfl rfl ?_ | (refine tl_gs rfl rfl (fun hc => ?_) (fun hc => ?_) <;> (try simp only [qn1, qn2, qn3, qn4, qn5, qn6, qn7, qn8] at hc) <;> (first | refine tl_sk rfl rfl rfl rfl ?_ | refine tl_qg rfl rfl (y_field rfl) rfl ?_))))
  all_goals (first | refine tl_sk rfl rfl rfl rfl ?_ | refine tl_qg rfl rfl (y_load1 rfl (by repeat constructor) (by rfl)) rfl ?_); (first | refine tl_sk rfl rfl rfl rfl ?_ | refine tl_qg rfl rfl (y_fn .nil (.cons rfl (.cons rfl .nil))) rfl ?_); ((first | refine tl_sk rfl rfl rfl rfl ?_ | refine tl_eg rfl rfl rfl (e_callU (ob := fun z : Int => .cells #[vi z] 3 (0, 0)) rfl (.cons rfl (.cons rfl .nil)) (fun w' hw' => allS_c 122 #[] #[ptr b3, ptr b1] b3 (partQ t) t.parts hn2 _ w' (-1) (hw'.heap _ (HM.mem (by repeat constructor))) (fun w2 f => hr0.fr ((hw'.fr (w0 := w) (S := []) (by simp)).trans f (fun x hx => .inr (by rw [List.mem_singleton.1 hx]; exact (hw'.own _ (HM.mem (b := b3) (by repeat constructor)) (w, []) (by simp)).resolve_left (by simp))))) (parted1_c t sl _ ll tl b3 b1 (by have := hw'.nodup; simp at this; omega) w' (hw'.heap _ (HM.mem (by repeat constructor))))) (fun _ => (by repeat constructor))) (fun z hz => ?_)))
  all_goals (first | refine tl_q (y_pick_t rfl rfl) rfl ?_ | refine tl_q (y_pick_f rfl rfl) rfl ?_); refine tl_q (y_assign rfl) rfl ?_; refine tl_nil ?_; ((refine hK3 ?_; try (clear hK3; clear K3)))
  all_goals refine tc_ret ?_; (repeat (first | refine tk_then_ret ?_))
  all_goals (refine tk_ret rfl rfl (.cons (.tmp rfl) .nil) ?_)
  all_goals (
   refine fun w' hw' => ⟨congrArg (fun b => Ending.returned (Value.bool b)) ?_, hw'.fr (by simp)⟩
   unfold partB
   first
   | (rw [decide_eq_true (by omega), Bool.true_and])
   | (rw [decide_eq_false (by omega), Bool.false_and]))
end Go.Sp
/-
  Package trial: the error of a trial.
-/
namespace Go.Sp
open Go Go.Proofs
def chkT (t : Tr) : Int := if ¬ chkF t.s = 0 then chkF t.s else if 3 < t.parts.length ∨ 3 < t.liquids.length ∨ 6 < t.tests.length then 3
  else if partB t = true ∧ (0 ≤ t.worst ∧ t.worst ≤ 3) ∧ ¬ t.liquids.length = 0 ∧ t.liquids.all lqB = true ∧ t.tests.all (tsB t) = true then 0 else 1
theorem checkTrial_c (t : Tr) (hn : NT t) (sl pl ll tl : Value) (w : World) (hr : RdTr w t sl pl ll tl) : CnV Tryz.prog 21 #[trV t sl pl ll tl] w (vi (chkT t)) := by
  have hr0 := hr
  obtain ⟨ad, cap, b0, o, rfl, _, _⟩ := hr.ws.open
  obtain ⟨ad1, cap1, b1', o1, rfl, _, _⟩ := hr.ps.open
  obtain ⟨ad2, cap2, b2', o2, rfl, _, _⟩ := hr.ls.open
  obtain ⟨ad3, cap3, b3', o3, rfl, _, _⟩ := hr.ts.open
  refine cnv (vs := [_]) Tryz.func21 rfl rfl ?_
  all_goals refine tc_seq fun K1 hK1 => ?_; refine tc_region ?_; refine tl_e (e_box rfl rfl rfl) rfl (fun b1 _ => ?_); refine tl_q (y_assign rfl) rfl ?_; refine tl_nil ?_; ((refine hK1 ?_; try (clear hK1; clear K1)))
  all_goals refine tc_seq fun K2 hK2 => ?_; refine tc_seq fun K3 hK3 => ?_; refine tc_region ?_; refine tl_q (y_field rfl) rfl ?_; ((refine tl_q (y_loadN rfl (by repeat constructor) (by (repeat (first | exact .nil | apply CA.cons rfl)); done)) rfl ?_))
  all_goals refine tl_e (e_callV rfl (.cons rfl .nil) (fun w' hw' => chk_c t.s hn.ws _ w' (hr0.ws.fr (hw'.fr (by simp))))) rfl (fun _ _ => ?_); refine tl_q (y_assign rfl) rfl ?_; refine tl_nil ?_; ((refine hK3 ?_; try (clear hK3; clear K3)))
  all_goals refine tc_seq fun K4 hK4 => ?_; refine tc_region ?_; refine tl_q (y_move rfl) rfl ?_; refine tl_q (y_neq rfl rfl) rfl ?_; refine tl_nil ?_; ((refine hK4 ?_; try (clear hK4; clear K4)))
  all_goals (
   refine tc_cond rfl (fun hc => ?_) (fun hc => ?_)
   · try simp only [qn1, qn2, qn3, qn4, qn5, qn6, qn7, qn8] at hc
     all_goals refine tc_seq fun K5 hK5 => ?_; refine tc_region ?_; refine tl_q (y_move rfl) rfl ?_; refine tl_q (y_assign rfl) rfl ?_; refine tl_nil ?_; ((refine hK5 ?_; try (clear hK5; clear K5)))
     all_goals refine tc_ret ?_; (repeat (refine tk_then_ret ?_))
     all_goals (refine tk_ret rfl rfl (.cons (.tmp rfl) .nil) ?_)
     all_goals (
      refine fun w' hw' => ⟨congrArg (fun n => Ending.returned (Value.int .i64 n)) ?_, hw'.fr (by simp)⟩
      unfold chkT
      first
      | (rw [if_pos (by omega)])
      | (rw [if_neg (by omega), if_pos (by omega)])
      | (rw [if_neg (by omega), if_neg (by omega)]
         clear hr hr0
         generalize partB t = p at *
         generalize t.liquids.all lqB = q at *
         generalize t.tests.all (tsB t) = r at *
         first
         | (refine (if_pos ?_).symm
            refine ⟨?_, ?_, ?_, ?_, ?_⟩ <;> first | assumption | omega)
         | (refine (if_neg ?_).symm
            rintro ⟨h1, h2, h3, h4, h5⟩
            subst h1; subst h4; subst h5
            first | omega | simp at hc)))
   · try simp only [qn1, qn2, qn3, qn4, qn5, qn6, qn7, qn8] at hc
     all_goals refine tc_skip ?_; ((refine hK2 ?_; try (clear hK2; clear K2)))
     all_goals refine tc_seq fun K6 hK6 => ?_; refine tc_region ?_; refine tl_q (y_loadW rfl (by repeat constructor) (by rfl)) rfl ?_; refine tl_q (y_fn (.cons rfl .nil) .nil) rfl ?_; refine tl_q (y_assign rfl) rfl ?_; refine tl_nil ?_; ((refine hK6 ?_; try (clear hK6; clear K6)))
     all_goals refine tc_seq fun K7 hK7 => ?_; refine tc_block ?_; refine tc_seq fun K8 hK8 => ?_; refine tc_region ?_; refine tl_q (y_field rfl) rfl ?_; refine tl_q (y_load1 rfl (by repeat constructor) (by rfl)) rfl ?_; refine tl_q (y_len rfl) rfl ?_; refine tl_q (y_gtr rfl rfl) rfl ?_; refine tl_q (y_move rfl) rfl ?_; ((refine tl_gs rfl rfl (fun hc => ?_) (fun hc => ?_) <;> (try simp only [qn1, qn2, qn3, qn4, qn5, qn6, qn7, qn8] at hc) <;> (first | refine tl_sk rfl rfl rfl rfl ?_ | refine tl_qg rfl rfl (y_field rfl) rfl ?_)))
     all_goals (first | refine tl_sk rfl rfl rfl rfl ?_ | refine tl_qg rfl rfl (y_load1 rfl (by repeat constructor) (by rfl)) rfl ?_); (first | refine tl_sk rfl rfl rfl rfl ?_ | refine tl_qg rfl rfl (y_len rfl) rfl ?_); (first | refine tl_sk rfl rfl rfl rfl ?_ | refine tl_qg rfl rfl (y_gtr rfl rfl) rfl ?_); (first | refine tl_q (y_pick_t rfl rfl) rfl ?_ | refine tl_q (y_pick_f rfl rfl) rfl ?_); refine tl_q (y_move rfl) rfl ?_; ((first | refine tl_sk rfl rfl rfl rfl ?_ | (refine tl_gs rfl rfl (fun hc => ?_) (fun hc => ?_) <;> (try simp only [qn1, qn2, qn3, qn4, qn5, qn6, qn7, qn8] at hc) <;> (first | refine tl_sk rfl rfl rfl rfl ?_ | refine tl_qg rfl rfl (y_field rfl) rfl ?_))))
     all_goals (first | refine tl_sk rfl rfl rfl rfl ?_ | refine tl_qg rfl rfl (y_load1 rfl (by repeat constructor) (by rfl)) rfl ?_); (first | refine tl_sk rfl rfl rfl rfl ?_ | refine tl_qg rfl rfl (y_len rfl) rfl ?_); (first | refine tl_sk rfl rfl rfl rfl ?_ | refine tl_qg rfl rfl (y_gtr rfl rfl) rfl ?_); (first | refine tl_q (y_pick_t rfl rfl) rfl ?_ | refine tl_q (y_pick_f rfl rfl) rfl ?_); refine tl_q (y_assign rfl) rfl ?_; refine tl_nil ?_; ((refine hK8 ?_; try (clear hK8; clear K8)))
     all_goals (
      refine tc_cond rfl (fun hc => ?_) (fun hc => ?_)
      · try simp only [qn1, qn2, qn3, qn4, qn5, qn6, qn7, qn8] at hc
        all_goals refine tc_seq fun K9 hK9 => ?_; refine tc_region ?_; refine tl_q (y_assign rfl) rfl ?_; refine tl_nil ?_; ((refine hK9 ?_; try (clear hK9; clear K9)))
        all_goals refine tc_ret ?_; (repeat (first | refine tk_then_ret ?_ | refine tk_block_ret ?_))
        all_goals (refine tk_ret rfl rfl (.cons (.tmp rfl) .nil) ?_)
        all_goals (
         refine fun w' hw' => ⟨congrArg (fun n => Ending.returned (Value.int .i64 n)) ?_, hw'.fr (by simp)⟩
         unfold chkT
         first
         | (rw [if_pos (by omega)])
         | (rw [if_neg (by omega), if_pos (by omega)])
         | (rw [if_neg (by omega), if_neg (by omega)]
            clear hr hr0
            generalize partB t = p at *
            generalize t.liquids.all lqB = q at *
            generalize t.tests.all (tsB t) = r at *
            first
            | (refine (if_pos ?_).symm
               refine ⟨?_, ?_, ?_, ?_, ?_⟩ <;> first | assumption | omega)
            | (refine (if_neg ?_).symm
               rintro ⟨h1, h2, h3, h4, h5⟩
               subst h1; subst h4; subst h5
               first | omega | simp at hc)))
      · try simp only [qn1, qn2, qn3, qn4, qn5, qn6, qn7, qn8] at hc
        all_goals ((first | (exfalso; with_reducible exact btf hc) | skip))
        all_goals refine tc_seq fun K10 hK10 => ?_; refine tc_region ?_; refine tl_q (y_loadW rfl (by repeat constructor) (by rfl)) rfl ?_; refine tl_e (e_callV rfl (.cons rfl .nil) (fun w' hw' => parted_c t hn _ _ _ _ w' (hr0.fr (hw'.fr (by simp))))) rfl (fun _ _ => ?_); refine tl_q (y_not rfl) rfl ?_; refine tl_q (y_move rfl) rfl ?_; ((refine tl_gs rfl rfl (fun hc => ?_) (fun hc => ?_) <;> (try simp only [qn1, qn2, qn3, qn4, qn5, qn6, qn7, qn8] at hc) <;> (first | refine tl_sk rfl rfl rfl rfl ?_ | refine tl_qg rfl rfl (y_field rfl) rfl ?_)))
        all_goals (first | refine tl_sk rfl rfl rfl rfl ?_ | refine tl_qg rfl rfl (y_load1 rfl (by repeat constructor) (by rfl)) rfl ?_); (first | refine tl_sk rfl rfl rfl rfl ?_ | refine tl_eg rfl rfl rfl (e_callV rfl (.cons rfl (.cons rfl (.cons rfl .nil))) (fun w' _ => twithin_c _ _ _ w')) (fun _ _ => ?_)); (first | refine tl_sk rfl rfl rfl rfl ?_ | refine tl_qg rfl rfl (y_not_dec rfl) rfl ?_); (first | refine tl_q (y_pick_t rfl rfl) rfl ?_ | refine tl_q (y_pick_f rfl rfl) rfl ?_); refine tl_q (y_move rfl) rfl ?_; ((first | refine tl_sk rfl rfl rfl rfl ?_ | (refine tl_gs rfl rfl (fun hc => ?_) (fun hc => ?_) <;> (try simp only [qn1, qn2, qn3, qn4, qn5, qn6, qn7, qn8] at hc) <;> (first | refine tl_sk rfl rfl rfl rfl ?_ | refine tl_qg rfl rfl (y_field rfl) rfl ?_))))
        all_goals (first | refine tl_sk rfl rfl rfl rfl ?_ | refine tl_qg rfl rfl (y_load1 rfl (by repeat constructor) (by rfl)) rfl ?_); (first | refine tl_sk rfl rfl rfl rfl ?_ | refine tl_qg rfl rfl (y_len rfl) rfl ?_); (first | refine tl_sk rfl rfl rfl rfl ?_ | refine tl_qg rfl rfl (y_eql rfl rfl) rfl ?_); (first | refine tl_q (y_pick_t rfl rfl) rfl ?_ | refine tl_q (y_pick_f rfl rfl) rfl ?_); refine tl_q (y_move rfl) rfl ?_; ((first | refine tl_sk rfl rfl rfl rfl ?_ | (refine tl_gs rfl rfl (fun hc => ?_) (fun hc => ?_) <;> (try simp only [qn1, qn2, qn3, qn4, qn5, qn6, qn7, qn8] at hc) <;> (first | refine tl_sk rfl rfl rfl rfl ?_ | refine tl_qg rfl rfl (y_field rfl) rfl ?_))))
        all_goals (first | refine tl_sk rfl rfl rfl rfl ?_ | refine tl_qg rfl rfl (y_load1 rfl (by repeat constructor) (by rfl)) rfl ?_); (first | refine tl_sk rfl rfl rfl rfl ?_ | refine tl_eg rfl rfl rfl (e_callV rfl (.cons rfl (.cons rfl .nil)) (fun w' hw' => allG_c 72 #[] #[] lqB t.liquids hn.ls _ w' (hr0.ls.fr (hw'.fr (by simp))) (fun x w2 _ => by simpa using liquid_c x w2))) (fun _ _ => ?_)); (first | refine tl_sk rfl rfl rfl rfl ?_ | refine tl_qg rfl rfl (y_not rfl) rfl ?_); (first | refine tl_q (y_pick_t rfl rfl) rfl ?_ | refine tl_q (y_pick_f rfl rfl) rfl ?_); refine tl_q (y_move rfl) rfl ?_; ((first | refine tl_sk rfl rfl rfl rfl ?_ | (refine tl_gs rfl rfl (fun hc => ?_) (fun hc => ?_) <;> (try simp only [qn1, qn2, qn3, qn4, qn5, qn6, qn7, qn8] at hc) <;> (first | refine tl_sk rfl rfl rfl rfl ?_ | refine tl_qg rfl rfl (y_field rfl) rfl ?_))))
        all_goals (first | refine tl_sk rfl rfl rfl rfl ?_ | refine tl_qg rfl rfl (y_load1 rfl (by repeat constructor) (by rfl)) rfl ?_); (first | refine tl_sk rfl rfl rfl rfl ?_ | refine tl_qg rfl rfl (y_move rfl) rfl ?_); (first | refine tl_sk rfl rfl rfl rfl ?_ | refine tl_eg rfl rfl rfl (e_callV rfl (.cons rfl (.cons rfl .nil)) (fun w' hw' => allT_c 69 #[trV t _ _ _ _] #[] (tsB t) t.tests hn.ts _ w' (hr0.ts.fr (hw'.fr (by simp))) (fun x w2 f => by simpa using test_c t hn.ls x _ _ _ _ w2 (hr0.ws.fr ((hw'.fr (w0 := w) (S := []) (by simp)).trans f (by simp))) (hr0.ls.fr ((hw'.fr (w0 := w) (S := []) (by simp)).trans f (by simp)))))) (fun _ _ => ?_)); (first | refine tl_sk rfl rfl rfl rfl ?_ | refine tl_qg rfl rfl (y_not rfl) rfl ?_); (first | refine tl_q (y_pick_t rfl rfl) rfl ?_ | refine tl_q (y_pick_f rfl rfl) rfl ?_); refine tl_q (y_assign rfl) rfl ?_; refine tl_nil ?_; ((refine hK10 ?_; try (clear hK10; clear K10)))
        all_goals (
         refine tc_cond rfl (fun hc => ?_) (fun hc => ?_)
         · try simp only [qn1, qn2, qn3, qn4, qn5, qn6, qn7, qn8] at hc
           all_goals refine tc_seq fun K11 hK11 => ?_; refine tc_region ?_; refine tl_q (y_assign rfl) rfl ?_; refine tl_nil ?_; ((refine hK11 ?_; try (clear hK11; clear K11)))
           all_goals refine tc_ret ?_; (repeat (first | refine tk_then_ret ?_ | refine tk_block_ret ?_))
           all_goals (refine tk_ret rfl rfl (.cons (.tmp rfl) .nil) ?_)
           all_goals (
            refine fun w' hw' => ⟨congrArg (fun n => Ending.returned (Value.int .i64 n)) ?_, hw'.fr (by simp)⟩
            unfold chkT
            first
            | (rw [if_pos (by omega)])
            | (rw [if_neg (by omega), if_pos (by omega)])
            | (rw [if_neg (by omega), if_neg (by omega)]
               clear hr hr0
               generalize partB t = p at *
               generalize t.liquids.all lqB = q at *
               generalize t.tests.all (tsB t) = r at *
               first
               | (refine (if_pos ?_).symm
                  refine ⟨?_, ?_, ?_, ?_, ?_⟩ <;> first | assumption | omega)
               | (refine (if_neg ?_).symm
                  rintro ⟨h1, h2, h3, h4, h5⟩
                  subst h1; subst h4; subst h5
                  first | omega | simp at hc)))
         · try simp only [qn1, qn2, qn3, qn4, qn5, qn6, qn7, qn8] at hc
           all_goals ((first | (exfalso; with_reducible exact btf hc) | skip))
           all_goals refine tc_skip ?_; ((refine hK7 ?_; try (clear hK7; clear K7)))
           all_goals refine tc_seq fun K12 hK12 => ?_; refine tc_region ?_; refine tl_q (y_assign rfl) rfl ?_; refine tl_nil ?_; ((refine hK12 ?_; try (clear hK12; clear K12)))
           all_goals refine tc_ret ?_; (repeat (first | refine tk_then_ret ?_))
           all_goals (refine tk_ret rfl rfl (.cons (.tmp rfl) .nil) ?_)
           all_goals (
            refine fun w' hw' => ⟨congrArg (fun n => Ending.returned (Value.int .i64 n)) ?_, hw'.fr (by simp)⟩
            unfold chkT
            first
            | (rw [if_pos (by omega)])
            | (rw [if_neg (by omega), if_pos (by omega)])
            | (rw [if_neg (by omega), if_neg (by omega)]
               clear hr hr0
               generalize partB t = p at *
               generalize t.liquids.all lqB = q at *
               generalize t.tests.all (tsB t) = r at *
               first
               | (refine (if_pos ?_).symm
                  refine ⟨?_, ?_, ?_, ?_, ?_⟩ <;> first | assumption | omega)
               | (refine (if_neg ?_).symm
                  rintro ⟨h1, h2, h3, h4, h5⟩
                  subst h1; subst h4; subst h5
                  first | omega | simp at hc))))))
end Go.Sp
/-
  Package trial: a trial at work; what the spindle reads, and what can be shown by errors.
-/
namespace Go.Sp
open Go Go.Proofs
theorem y_build_tw {P : Program} {F : List (Nat × Value)} {bs : List (World × List Nat)} {H : List (Nat × Obj)} {d : Option Tmp} {ty : TypeId} {pos : String} {after : Array Edge} {g : Option (Nat × Bool)} {t : TypeId} {z0 z1 z2 z3 z4 z5 z6 z7 z8 z9 z10 : Value} [TyPlaces P t [(0, 10), (10, 1)]] [TyAgg P t 11 #[z0, z1, z2, z3, z4, z5, z6, z7, z8, z9, z10]] {x y : Operand} {v0 v1 v2 v3 v4 v5 v6 v7 v8 v9 v10 : Value}
    (hx : evalO F x = some (.agg #[v0, v1, v2, v3, v4, v5, v6, v7, v8, v9])) (hy : evalO F y = some v10) (c6 : v10.cells = #[v10]) :
    OpY P ⟨d, .build t #[(0, x), (1, y)], ty, pos, after, g⟩ F bs H (.agg #[v0, v1, v2, v3, v4, v5, v6, v7, v8, v9, v10]) := by
  unfold OpY
  intro N a w ht hw
  have h2 : Instr.fill (([(0, 10), (10, 1)] : List (Nat × Nat))[·]?) #[v0, v1, v2, v3, v4, v5, v6, v7, v8, v9, z10] [(1, v10)] = some #[v0, v1, v2, v3, v4, v5, v6, v7, v8, v9, v10] := fill_one (cells := [v0, v1, v2, v3, v4, v5, v6, v7, v8, v9, z10]) (o := 10) rfl c6 (by simp) rfl
  have h1 : Instr.fill (([(0, 10), (10, 1)] : List (Nat × Nat))[·]?) #[z0, z1, z2, z3, z4, z5, z6, z7, z8, z9, z10] [(0, .agg #[v0, v1, v2, v3, v4, v5, v6, v7, v8, v9]), (1, v10)] = some #[v0, v1, v2, v3, v4, v5, v6, v7, v8, v9, v10] :=
    fill_cons (o := 0) (sz := 10) (c := #[v0, v1, v2, v3, v4, v5, v6, v7, v8, v9]) rfl rfl rfl (by simp) (by simpa [Array.zipIdx] using h2)
  have := build_run (P := P) (t := t) (parts := #[(0, .agg #[v0, v1, v2, v3, v4, v5, v6, v7, v8, v9]), (1, v10)]) (cells := #[v0, v1, v2, v3, v4, v5, v6, v7, v8, v9, v10]) h1 w
  simp [execOp, ht.eval hx, ht.eval hy, this, Result.andThen]
abbrev wkT (t : Tr) (sl pl ll tl : Value) (bm : Nat) : Obj := .cells #[vi t.s.mass, vi t.s.volume, vi t.s.step, vi t.s.divisions, vi t.s.width, sl, pl, vi t.worst, ll, tl, .map (some bm)] 180 (0, 0)
theorem twork_c (t : Tr) (sl pl ll tl : Value) (h1 : sl.oneCell' = true) (h2 : pl.oneCell' = true) (h3 : ll.oneCell' = true) (h4 : tl.oneCell' = true) (w : World) : CnX Tryz.prog 66 #[trV t sl pl ll tl] w [] (fun x : Nat × Nat => ptr x.1)
    (fun x w' => True ∧ (∀ q ∈ [(x.1, wkT t sl pl ll tl x.2), (x.2, .map #[] 0)], w.heap.size ≤ q.1 ∧ w'.heap[q.1]? = some q.2) ∧ (([(x.1, wkT t sl pl ll tl x.2), (x.2, .map #[] 0)] : List (Nat × Obj)).map Prod.fst).Nodup) := by
  refine cnx0 (vs := [_]) Tryz.func66 rfl rfl ?_
  all_goals refine tc_seq fun K1 hK1 => ?_; refine tc_region ?_; refine tl_e (e_box rfl rfl rfl) rfl (fun b1 _ => ?_); refine tl_q (y_assign rfl) rfl ?_; refine tl_nil ?_; ((refine hK1 ?_; try (clear hK1; clear K1)))
  all_goals refine tc_seq fun K2 hK2 => ?_; refine tc_region ?_; refine tl_q (y_loadW rfl (by repeat constructor) (by rfl)) rfl ?_; refine tl_e (e_makeMap rfl) rfl (fun bm _ => ?_); refine tl_q (y_build_tw rfl rfl rfl) rfl ?_; refine tl_e (e_box rfl rfl rfl) rfl (fun bw _ => ?_); refine tl_q (y_assign rfl) rfl ?_; refine tl_nil ?_; ((refine hK2 ?_; try (clear hK2; clear K2)))
  all_goals refine tc_ret ?_; (repeat (first | refine tk_then_ret ?_))
  all_goals (refine tk_ret rfl rfl (.cons (.tmp rfl) .nil) ?_)
  all_goals (
   exact fun w' hw' => ⟨(bw, bm), rfl, hw'.fr (by simp), trivial, fun q hq => by
       simp only [List.mem_cons, List.not_mem_nil, or_false] at hq
       have hn := hw'.own
       have hh := hw'.heap
       rcases hq with rfl | rfl
       · exact ⟨by simpa using hn _ (HM.mem (b := bw) (o := wkT t sl pl ll tl bm) (by repeat constructor)) _ List.mem_cons_self, hh _ (HM.mem (by repeat constructor))⟩
       · exact ⟨by simpa using hn _ (HM.mem (b := bm) (o := .map #[] 0) (by repeat constructor)) _ List.mem_cons_self, hh _ (HM.mem (by repeat constructor))⟩, by
       have := hw'.nodup
       simp only [List.map_cons, List.nodup_cons, List.mem_cons, not_or] at this
       simp only [List.map_cons, List.map_nil, List.nodup_cons, List.mem_singleton]
       simp
       exact this.1.1⟩)
/-- What the spindle reads: none if it doesn't float. -/
def readT (s : Sn) (k d : Int) : Int × Int := if (seeF s k d).2 = 0 then (seeF s k d).1 else (0, -1)
def readV (s : Sn) (k d : Int) : Value := rV (readT s k d)
theorem tread_c (t : Tr) (hn : NT t) (k d : Int) (sl pl ll tl : Value) (w : World) (hr : RdI w sl t.s.weights) (bw bm : Nat) (es : Array MapEntry) (ck : Nat)
    (hbw : w.heap[bw]? = some (wkT t sl pl ll tl bm)) (hbm : w.heap[bm]? = some (.map es ck)) (hc0 : Cache (readV t.s) es.toList) :
    CnX Tryz.prog 156 #[ptr bw, .agg #[vi k, vi d]] w [bm] (fun _ : Array MapEntry × Nat => rV (readT t.s k d)) (fun x w' => Cache (readV t.s) x.1.toList ∧ w'.heap[bm]? = some (.map x.1 x.2)) := by
  have hne : bw ≠ bm := by rintro rfl; rw [hbw] at hbm; simp at hbm
  have hrM : ∀ w', Fr [bw, bm] w w' → w'.heap[bw]? = some (wkT t sl pl ll tl bm) → RdI w' sl t.s.weights := fun w' f hb => by
    refine RdI.frM (bm := bm) (es := es) (ck := ck) (S := [bm]) hr (Fr.but f (by rw [hb, hbw])) (fun x hx => ?_)
    obtain rfl : x = bm := by simpa using hx
    exact ⟨es, ck, hbm⟩
  obtain ⟨e, he⟩ : ∃ e, (seeF t.s k d).2 = e := ⟨_, rfl⟩
  obtain ⟨r, hr1⟩ : ∃ r, (seeF t.s k d).1 = r := ⟨_, rfl⟩
  have hsee : seeF t.s k d = (r, e) := by rw [← he, ← hr1]
  cases hh : hasL es.toList k d
  all_goals refine cnxS (vs := [_, _]) (S := [bw, bm]) [(bw, wkT t sl pl ll tl bm), (bm, .map es ck)] Tryz.func156 rfl rfl ⟨by simp [hbw, hbm], by simp [hne], by simp⟩ ?_; refine tc_seq fun K1 hK1 => ?_; refine tc_region ?_; refine tl_e (e_box rfl rfl rfl) rfl (fun b3 _ => ?_); refine tl_e (e_allocN rfl) rfl (fun b4 _ => ?_); refine tl_nil ?_; ((refine hK1 ?_; try (clear hK1; clear K1)))
  all_goals refine tc_seq fun K2 hK2 => ?_; refine tc_draw (by kernel_rfl) ?_; refine tx_p 0 rfl (by kernel_rfl) (y_move rfl) rfl (fun _ _ _ h => h) (fun _ h => h) ?_; refine tx_p 1 rfl (by kernel_rfl) (y_nil rfl) rfl (fun _ _ _ h => h) (fun _ h => h) ?_; refine tx_p 2 rfl (by kernel_rfl) (y_field rfl) rfl (fun _ _ _ h => h) (fun _ h => h) ?_; refine tx_q 3 rfl (by kernel_rfl) (y_load1 rfl (by repeat constructor) (by rfl)) rfl (fun _ _ _ h => h) (fun _ h => h) ?_; refine tx_q 4 rfl (by kernel_rfl) (y_loadW rfl (by repeat constructor) (by rfl)) rfl (fun _ _ _ h => h) (fun _ h => h) ?_; (first | refine tx_q 5 rfl (by kernel_rfl) (y_lookup_hit hh rfl rfl (by repeat constructor) hc0) rfl (fun _ _ _ h => h) (fun _ h => h) ?_ | refine tx_q 5 rfl (by kernel_rfl) (y_lookup_miss hh rfl rfl (by repeat constructor) hc0) rfl (fun _ _ _ h => h) (fun _ h => h) ?_); refine tx_p 6 rfl (by kernel_rfl) (y_move rfl) rfl (fun _ _ _ h => h) (fun _ h => h) ?_; refine tx_p 7 rfl (by kernel_rfl) (y_extract rfl rfl) rfl (fun _ _ _ h => h) (fun _ h => h) ?_; refine tx_p 8 rfl (by kernel_rfl) (y_extract rfl rfl) rfl (fun _ _ _ h => h) (fun _ h => h) ?_; refine tx_e 9 rfl (by kernel_rfl) rfl (e_allocN rfl) (.inr qq1) (fun b5 _ => ?_); refine tx_e 10 rfl (by kernel_rfl) rfl (e_storeW rfl rfl (by repeat constructor) (by rfl) (by rfl) (by simp [Value.oneCell'])) (.inl (by kernel_rfl)) (fun _ _ => ?_); refine tx_p 11 rfl (by kernel_rfl) (y_assign rfl) rfl (fun _ _ _ h => h) (fun _ h => h) ?_; refine tx_done (by kernel_rfl) ?_; ((refine hK2 ?_; try (clear hK2; clear K2)))
  all_goals refine tc_seq fun K3 hK3 => ?_; refine tc_seq fun K4 hK4 => ?_; refine tc_region ?_; refine tl_q (y_move rfl) rfl ?_; refine tl_nil ?_; ((refine hK4 ?_; try (clear hK4; clear K4)))
  all_goals (
   refine tc_cond rfl (fun hc => ?_) (fun hc => ?_)
   · try simp only [qn1, qn2, qn3, qn4, qn5, qn6, qn7, qn8] at hc
     all_goals ((first | (exfalso; with_reducible exact bft hc) | skip))
     all_goals refine tc_seq fun K5 hK5 => ?_; refine tc_region ?_; refine tl_q (y_loadW rfl (by repeat constructor) (by rfl)) rfl ?_; refine tl_e (e_storeW rfl rfl (by repeat constructor) (by rfl) (by rfl) (by simp [Value.oneCell'])) rfl (fun _ _ => ?_); refine tl_nil ?_; ((refine hK5 ?_; try (clear hK5; clear K5)))
     all_goals refine tc_ret ?_; (repeat (refine tk_then_ret ?_))
     all_goals (refine tk_ret rfl rfl (.cons (.agg inferInstance rfl (by repeat constructor) (by rfl)) .nil) ?_)
     all_goals (
      refine fun w' hw' => ?_
      have hb2 := hw'.heap (bw, wkT t sl pl ll tl bm) (HM.mem (by repeat constructor))
      have hb1 := hw'.heap _ (HM.mem (b := bm) (by repeat constructor))
      first
      | exact ⟨(es, ck), rfl, Fr.but (hw'.fr (S := [bw, bm]) (by simp)) (by rw [hb2, hbw]), hc0, hb1⟩
      | (have hm : readT t.s k d = r := by unfold readT; rw [hsee, if_pos (by omega)]
         exact ⟨(es.push { key := kv k d, val := rV (readT t.s k d), born := ck }, ck + 1), by rw [hm]; rfl, Fr.but (hw'.fr (S := [bw, bm]) (by simp)) (by rw [hb2, hbw]), Cache.push hc0 k d ck, by rw [hm]; exact hb1⟩)
      | (have hm : readT t.s k d = (0, -1) := by unfold readT; rw [hsee, if_neg (by omega)]
         exact ⟨(es.push { key := kv k d, val := rV (readT t.s k d), born := ck }, ck + 1), by rw [hm]; rfl, Fr.but (hw'.fr (S := [bw, bm]) (by simp)) (by rw [hb2, hbw]), Cache.push hc0 k d ck, by rw [hm]; exact hb1⟩))
   · try simp only [qn1, qn2, qn3, qn4, qn5, qn6, qn7, qn8] at hc
     all_goals ((first | (exfalso; with_reducible exact btf hc) | skip))
     all_goals refine tc_skip ?_; ((refine hK3 ?_; try (clear hK3; clear K3)))
     all_goals refine tc_seq fun K6 hK6 => ?_; refine tc_drawS ([(b3, .cells #[vi k, vi d] 123 (0, 0)), (bw, wkT t sl pl ll tl bm), (bm, .map es ck)]) (by kernel_rfl) ?_; refine tx_p 0 rfl (by kernel_rfl) (y_move rfl) rfl (fun _ _ _ h => h) (fun _ h => h.subl SB.s SB.s) ?_; refine tx_p 1 rfl (by kernel_rfl) (y_nil rfl) rfl (fun _ _ _ h => h) (fun _ h => h.subl SB.s SB.s) ?_; refine tx_p 2 rfl (by kernel_rfl) (y_field rfl) rfl (fun _ _ _ h => h) (fun _ h => h.subl SB.s SB.s) ?_; refine tx_p 3 rfl (by kernel_rfl) (y_field rfl) rfl (fun _ _ _ h => h) (fun _ h => h.subl SB.s SB.s) ?_; ((refine tx_qS 4 rfl (by kernel_rfl) (y_loadN rfl (by repeat constructor) (by (repeat (first | exact .nil | apply CA.cons rfl)); done)) rfl (fun _ _ _ h => h) (fun _ h => h.subl SB.s SB.s) ?_))
     all_goals refine tx_p 5 rfl (by kernel_rfl) (y_field rfl) rfl (fun _ _ _ h => h) (fun _ h => h.subl SB.s SB.s) ?_; refine tx_qS 6 rfl (by kernel_rfl) (y_load1 rfl (by repeat constructor) (by rfl)) rfl (fun _ _ _ h => h) (fun _ h => h.subl SB.s SB.s) ?_; refine tx_p 7 rfl (by kernel_rfl) (y_field rfl) rfl (fun _ _ _ h => h) (fun _ h => h.subl SB.s SB.s) ?_; refine tx_qS 8 rfl (by kernel_rfl) (y_load1 rfl (by repeat constructor) (by rfl)) rfl (fun _ _ _ h => h) (fun _ h => h.subl SB.s SB.s) ?_; (refine tx_single 9 (by kernel_rfl) (to_e rfl rfl (e_callV rfl (.cons rfl (.cons rfl (.cons rfl .nil))) (fun w' hw' => by have h := see_c t.s hn.ws k d _ w' (hrM w' (hw'.fr (by simp)) (hw'.heap _ (HM.mem (by repeat constructor)))); rw [hsee] at h; exact h)) (.inr ⟨fun _ _ h => h.subl SB.s SB.s, fun _ h => h⟩) (fun _ _ => ?_)))
     all_goals refine tx_p 10 rfl (by kernel_rfl) (y_move rfl) rfl (fun _ _ _ h => h) (fun _ h => h.subl SB.s SB.s) ?_; refine tx_p 11 rfl (by kernel_rfl) (y_extract rfl rfl) rfl (fun _ _ _ h => h) (fun _ h => h.subl SB.s SB.s) ?_; refine tx_p 12 rfl (by kernel_rfl) (y_extract rfl rfl) rfl (fun _ _ _ h => h) (fun _ h => h.subl SB.s SB.s) ?_; refine tx_single 13 (by kernel_rfl) (to_e (S' := HG [] []) rfl rfl (e_storeW rfl rfl (by repeat constructor) (by rfl) (by rfl) (by simp [Value.oneCell'])) (.inl (by kernel_rfl)) (fun _ _ => ?_)); refine tx_p 14 rfl (by kernel_rfl) (y_assign rfl) rfl (fun _ _ _ h => h) (fun _ h => h.subl SB.s SB.s) ?_; refine tx_done (by kernel_rfl) ?_; ((refine hK6 ?_; try (clear hK6; clear K6)))
     all_goals refine tc_seq fun K7 hK7 => ?_; refine tc_seq fun K8 hK8 => ?_; refine tc_region ?_; refine tl_q (y_move rfl) rfl ?_; refine tl_q (y_neq rfl rfl) rfl ?_; refine tl_nil ?_; ((refine hK8 ?_; try (clear hK8; clear K8)))
     all_goals (
      refine tc_cond rfl (fun hc => ?_) (fun hc => ?_)
      · try simp only [qn1, qn2, qn3, qn4, qn5, qn6, qn7, qn8] at hc
        all_goals refine tc_region ?_; refine tl_q (y_build_2 rfl rfl rfl rfl) rfl ?_; refine tl_e (e_storeW rfl rfl (by repeat constructor) (by rfl) (by rfl) (by simp [Value.oneCell'])) rfl (fun _ _ => ?_); refine tl_nil ?_; ((refine hK7 ?_; try (clear hK7; clear K7)))
        all_goals refine tc_seq fun K9 hK9 => ?_; refine tc_draw (by kernel_rfl) ?_; refine tx_p 0 rfl (by kernel_rfl) (y_move rfl) rfl (fun _ _ _ h => h) (fun _ h => h) ?_; refine tx_p 1 rfl (by kernel_rfl) (y_nil rfl) rfl (fun _ _ _ h => h) (fun _ h => h) ?_; refine tx_p 2 rfl (by kernel_rfl) (y_field rfl) rfl (fun _ _ _ h => h) (fun _ h => h) ?_; refine tx_q 3 rfl (by kernel_rfl) (y_load1 rfl (by repeat constructor) (by rfl)) rfl (fun _ _ _ h => h) (fun _ h => h) ?_; refine tx_q 4 rfl (by kernel_rfl) (y_loadW rfl (by repeat constructor) (by rfl)) rfl (fun _ _ _ h => h) (fun _ h => h) ?_; refine tx_q 5 rfl (by kernel_rfl) (y_loadW rfl (by repeat constructor) (by rfl)) rfl (fun _ _ _ h => h) (fun _ h => h) ?_; refine tx_e 6 rfl (by kernel_rfl) rfl (e_mapUpdate_new hh hc0 rfl rfl rfl (by repeat constructor)) (.inl (by kernel_rfl)) (fun _ _ => ?_); refine tx_done (by kernel_rfl) ?_; ((refine hK9 ?_; try (clear hK9; clear K9)))
        all_goals refine tc_seq fun K10 hK10 => ?_; refine tc_region ?_; refine tl_q (y_loadW rfl (by repeat constructor) (by rfl)) rfl ?_; refine tl_e (e_storeW rfl rfl (by repeat constructor) (by rfl) (by rfl) (by simp [Value.oneCell'])) rfl (fun _ _ => ?_); refine tl_nil ?_; ((refine hK10 ?_; try (clear hK10; clear K10)))
        all_goals refine tc_ret ?_; (repeat (first | refine tk_then_ret ?_))
        all_goals (refine tk_ret rfl rfl (.cons (.agg inferInstance rfl (by repeat constructor) (by rfl)) .nil) ?_)
        all_goals (
         refine fun w' hw' => ?_
         have hb2 := hw'.heap (bw, wkT t sl pl ll tl bm) (HM.mem (by repeat constructor))
         have hb1 := hw'.heap _ (HM.mem (b := bm) (by repeat constructor))
         first
         | exact ⟨(es, ck), rfl, Fr.but (hw'.fr (S := [bw, bm]) (by simp)) (by rw [hb2, hbw]), hc0, hb1⟩
         | (have hm : readT t.s k d = r := by unfold readT; rw [hsee, if_pos (by omega)]
            exact ⟨(es.push { key := kv k d, val := rV (readT t.s k d), born := ck }, ck + 1), by rw [hm]; rfl, Fr.but (hw'.fr (S := [bw, bm]) (by simp)) (by rw [hb2, hbw]), Cache.push hc0 k d ck, by rw [hm]; exact hb1⟩)
         | (have hm : readT t.s k d = (0, -1) := by unfold readT; rw [hsee, if_neg (by omega)]
            exact ⟨(es.push { key := kv k d, val := rV (readT t.s k d), born := ck }, ck + 1), by rw [hm]; rfl, Fr.but (hw'.fr (S := [bw, bm]) (by simp)) (by rw [hb2, hbw]), Cache.push hc0 k d ck, by rw [hm]; exact hb1⟩))
      · try simp only [qn1, qn2, qn3, qn4, qn5, qn6, qn7, qn8] at hc
        all_goals refine tc_skip ?_; ((refine hK7 ?_; try (clear hK7; clear K7)))
        all_goals refine tc_seq fun K11 hK11 => ?_; refine tc_draw (by kernel_rfl) ?_; refine tx_p 0 rfl (by kernel_rfl) (y_move rfl) rfl (fun _ _ _ h => h) (fun _ h => h) ?_; refine tx_p 1 rfl (by kernel_rfl) (y_nil rfl) rfl (fun _ _ _ h => h) (fun _ h => h) ?_; refine tx_p 2 rfl (by kernel_rfl) (y_field rfl) rfl (fun _ _ _ h => h) (fun _ h => h) ?_; refine tx_q 3 rfl (by kernel_rfl) (y_load1 rfl (by repeat constructor) (by rfl)) rfl (fun _ _ _ h => h) (fun _ h => h) ?_; refine tx_q 4 rfl (by kernel_rfl) (y_loadW rfl (by repeat constructor) (by rfl)) rfl (fun _ _ _ h => h) (fun _ h => h) ?_; refine tx_q 5 rfl (by kernel_rfl) (y_loadW rfl (by repeat constructor) (by rfl)) rfl (fun _ _ _ h => h) (fun _ h => h) ?_; refine tx_e 6 rfl (by kernel_rfl) rfl (e_mapUpdate_new hh hc0 rfl rfl rfl (by repeat constructor)) (.inl (by kernel_rfl)) (fun _ _ => ?_); refine tx_done (by kernel_rfl) ?_; ((refine hK11 ?_; try (clear hK11; clear K11)))
        all_goals refine tc_seq fun K12 hK12 => ?_; refine tc_region ?_; refine tl_q (y_loadW rfl (by repeat constructor) (by rfl)) rfl ?_; refine tl_e (e_storeW rfl rfl (by repeat constructor) (by rfl) (by rfl) (by simp [Value.oneCell'])) rfl (fun _ _ => ?_); refine tl_nil ?_; ((refine hK12 ?_; try (clear hK12; clear K12)))
        all_goals refine tc_ret ?_; (repeat (first | refine tk_then_ret ?_))
        all_goals (refine tk_ret rfl rfl (.cons (.agg inferInstance rfl (by repeat constructor) (by rfl)) .nil) ?_)
        all_goals (
         refine fun w' hw' => ?_
         have hb2 := hw'.heap (bw, wkT t sl pl ll tl bm) (HM.mem (by repeat constructor))
         have hb1 := hw'.heap _ (HM.mem (b := bm) (by repeat constructor))
         first
         | exact ⟨(es, ck), rfl, Fr.but (hw'.fr (S := [bw, bm]) (by simp)) (by rw [hb2, hbw]), hc0, hb1⟩
         | (have hm : readT t.s k d = r := by unfold readT; rw [hsee, if_pos (by omega)]
            exact ⟨(es.push { key := kv k d, val := rV (readT t.s k d), born := ck }, ck + 1), by rw [hm]; rfl, Fr.but (hw'.fr (S := [bw, bm]) (by simp)) (by rw [hb2, hbw]), Cache.push hc0 k d ck, by rw [hm]; exact hb1⟩)
         | (have hm : readT t.s k d = (0, -1) := by unfold readT; rw [hsee, if_neg (by omega)]
            exact ⟨(es.push { key := kv k d, val := rV (readT t.s k d), born := ck }, ck + 1), by rw [hm]; rfl, Fr.but (hw'.fr (S := [bw, bm]) (by simp)) (by rw [hb2, hbw]), Cache.push hc0 k d ck, by rw [hm]; exact hb1⟩))))
end Go.Sp
/-
  Narrow, Leave.
-/
namespace Go.Sp
open Go Go.Proofs
theorem RdI.nil (w : World) : RdI w (.slice none 0 0) [] := ⟨rfl, none, 0, rfl, fun h => absurd rfl h⟩
theorem Reads.frM {w w' : World} {v : Value} {sz n : Nat} {vs : List Value} {S : List Nat} (h : Reads w v sz n vs) (f : Fr S w w') (hS : ∀ x ∈ S, ∃ es ck, w.heap[x]? = some (.map es ck)) : Reads w' v sz n vs := by
  obtain ⟨h1, ad, cap, h2, h3⟩ := h
  refine ⟨h1, ad, cap, h2, fun hn => ?_⟩
  obtain ⟨b, o, h4, h5⟩ := h3 hn
  refine ⟨b, o, h4, ?_⟩
  clear h1 h2 h3 h4 hn
  generalize n * sz = q at h5
  induction h5 with
  | nil => exact .nil
  | @cons o n v vs hv _ ih =>
    refine .cons (f.cell (p := ⟨b, o, none⟩) (fun hb => ?_) hv) ih
    obtain ⟨es, ck, he⟩ := hS b hb
    simp [World.cell?, he] at hv
end Go.Sp
