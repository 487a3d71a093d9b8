
/-
  The types and functions of this program, as the frame's laws ask them.
-/
import Derived.Test.YtobpgiiplhnahaaGreatFw
import Derived.Test.YtobpgiiplhnahaaGreatProg
import Derived.KernelRfl
set_option linter.unusedVariables false
set_option linter.unusedSimpArgs false
set_option linter.deprecated false
namespace Go.Sp
open Go Go.Proofs
theorem tyOne {P : Program} {t : TypeId} {d : TypeDesc} {z : Value} {b : Nat} (hu : P.underlying t = some d) (hp : plainD d = true)
    (hi : (P.info? t).map (fun i => (i.zero, i.size, i.bytes)) = some (some z, 1, b)) (hz : z.cells = #[z]) : TyOne P t z := by
  obtain ⟨i, h1, h2⟩ := Option.map_eq_some_iff.1 hi
  simp only [Prod.mk.injEq] at h2
  exact ⟨⟨d, hu, hp⟩, ⟨i, h1, h2.2.1, h2.1⟩, hz⟩
theorem tyAgg {P : Program} {t : TypeId} {d : TypeDesc} {zs : Array Value} {n b : Nat} (hu : P.underlying t = some d) (hp : aggD d = true)
    (hi : (P.info? t).map (fun i => (i.zero, i.size, i.bytes)) = some (some (.agg zs), n, b)) : TyAgg P t n zs := by
  obtain ⟨i, h1, h2⟩ := Option.map_eq_some_iff.1 hi
  simp only [Prod.mk.injEq] at h2
  exact ⟨⟨d, hu, hp⟩, ⟨i, h1, h2.2.1, h2.1⟩⟩
theorem tinfo3 : (Tryz.prog.info? 3).map (fun i => (i.zero, i.size, i.bytes)) = some (some (.int .i64 0), 1, 8) := by kernel_rfl
instance : TyOne Tryz.prog 3 (.int .i64 0) := tyOne Tryz.underlying3 rfl tinfo3 rfl
theorem tinfo4 : (Tryz.prog.info? 4).map (fun i => (i.zero, i.size, i.bytes)) = some (some (.bool false), 1, 1) := by kernel_rfl
instance : TyOne Tryz.prog 4 (.bool false) := tyOne Tryz.underlying4 rfl tinfo4 rfl
theorem tinfo5 : (Tryz.prog.info? 5).map (fun i => (i.zero, i.size, i.bytes)) = some (some (.int .u8 0), 1, 1) := by kernel_rfl
instance : TyOne Tryz.prog 5 (.int .u8 0) := tyOne Tryz.underlying5 rfl tinfo5 rfl
theorem tinfo22 : (Tryz.prog.info? 22).map (fun i => (i.zero, i.size, i.bytes)) = some (some (.slice none 0 0), 1, 24) := by kernel_rfl
instance : TyOne Tryz.prog 22 (.slice none 0 0) := tyOne Tryz.underlying22 rfl tinfo22 rfl
theorem tinfo23 : (Tryz.prog.info? 23).map (fun i => (i.zero, i.size, i.bytes)) = some (some (.slice none 0 0), 1, 24) := by kernel_rfl
instance : TyOne Tryz.prog 23 (.slice none 0 0) := tyOne Tryz.underlying23 rfl tinfo23 rfl
theorem tinfo24 : (Tryz.prog.info? 24).map (fun i => (i.zero, i.size, i.bytes)) = some (some (.slice none 0 0), 1, 24) := by kernel_rfl
instance : TyOne Tryz.prog 24 (.slice none 0 0) := tyOne Tryz.underlying24 rfl tinfo24 rfl
theorem tinfo26 : (Tryz.prog.info? 26).map (fun i => (i.zero, i.size, i.bytes)) = some (some (.agg #[.int .i64 0, .int .i64 0, .int .i64 0, .int .i64 0, .slice none 0 0, .slice none 0 0, .slice none 0 0]), 7, 104) := by kernel_rfl
instance : TyAgg Tryz.prog 26 7 (#[.int .i64 0, .int .i64 0, .int .i64 0, .int .i64 0, .slice none 0 0, .slice none 0 0, .slice none 0 0]) := tyAgg Tryz.underlying26 rfl tinfo26
theorem tinfo27 : (Tryz.prog.info? 27).map (fun i => (i.zero, i.size, i.bytes)) = some (some (.slice none 0 0), 1, 24) := by kernel_rfl
instance : TyOne Tryz.prog 27 (.slice none 0 0) := tyOne Tryz.underlying27 rfl tinfo27 rfl
theorem tinfo28 : (Tryz.prog.info? 28).map (fun i => (i.zero, i.size, i.bytes)) = some (some (.slice none 0 0), 1, 24) := by kernel_rfl
instance : TyOne Tryz.prog 28 (.slice none 0 0) := tyOne Tryz.underlying28 rfl tinfo28 rfl
theorem tinfo30 : (Tryz.prog.info? 30).map (fun i => (i.zero, i.size, i.bytes)) = some (some (.agg #[.slice none 0 0, .slice none 0 0, .slice none 0 0]), 3, 72) := by kernel_rfl
instance : TyAgg Tryz.prog 30 3 (#[.slice none 0 0, .slice none 0 0, .slice none 0 0]) := tyAgg Tryz.underlying30 rfl tinfo30
theorem tinfo39 : (Tryz.prog.info? 39).map (fun i => (i.zero, i.size, i.bytes)) = some (some (.slice none 0 0), 1, 24) := by kernel_rfl
instance : TyOne Tryz.prog 39 (.slice none 0 0) := tyOne Tryz.underlying39 rfl tinfo39 rfl
theorem tinfo40 : (Tryz.prog.info? 40).map (fun i => (i.zero, i.size, i.bytes)) = some (some (.slice none 0 0), 1, 24) := by kernel_rfl
instance : TyOne Tryz.prog 40 (.slice none 0 0) := tyOne Tryz.underlying40 rfl tinfo40 rfl
theorem tinfo42 : (Tryz.prog.info? 42).map (fun i => (i.zero, i.size, i.bytes)) = some (some (.agg #[.int .i64 0, .int .i64 0, .int .i64 0, .int .i64 0, .slice none 0 0, .slice none 0 0, .slice none 0 0]), 7, 104) := by kernel_rfl
instance : TyAgg Tryz.prog 42 7 (#[.int .i64 0, .int .i64 0, .int .i64 0, .int .i64 0, .slice none 0 0, .slice none 0 0, .slice none 0 0]) := tyAgg Tryz.underlying42 rfl tinfo42
theorem tinfo44 : (Tryz.prog.info? 44).map (fun i => (i.zero, i.size, i.bytes)) = some (some (.slice none 0 0), 1, 24) := by kernel_rfl
instance : TyOne Tryz.prog 44 (.slice none 0 0) := tyOne Tryz.underlying44 rfl tinfo44 rfl
theorem tinfo45 : (Tryz.prog.info? 45).map (fun i => (i.zero, i.size, i.bytes)) = some (some (.slice none 0 0), 1, 24) := by kernel_rfl
instance : TyOne Tryz.prog 45 (.slice none 0 0) := tyOne Tryz.underlying45 rfl tinfo45 rfl
theorem tinfo47 : (Tryz.prog.info? 47).map (fun i => (i.zero, i.size, i.bytes)) = some (some (.agg #[.slice none 0 0, .slice none 0 0, .slice none 0 0, .int .i64 0, .int .i64 0, .slice none 0 0, .slice none 0 0]), 7, 136) := by kernel_rfl
instance : TyAgg Tryz.prog 47 7 (#[.slice none 0 0, .slice none 0 0, .slice none 0 0, .int .i64 0, .int .i64 0, .slice none 0 0, .slice none 0 0]) := tyAgg Tryz.underlying47 rfl tinfo47
theorem tinfo49 : (Tryz.prog.info? 49).map (fun i => (i.zero, i.size, i.bytes)) = some (some (.agg #[.int .i64 0, .int .i64 0]), 2, 16) := by kernel_rfl
instance : TyAgg Tryz.prog 49 2 (#[.int .i64 0, .int .i64 0]) := tyAgg Tryz.underlying49 rfl tinfo49
theorem tinfo52 : (Tryz.prog.info? 52).map (fun i => (i.zero, i.size, i.bytes)) = some (some (.agg #[.int .i64 0, .int .i64 0, .int .i64 0, .int .i64 0, .int .i64 0, .int .i64 0]), 6, 48) := by kernel_rfl
instance : TyAgg Tryz.prog 52 6 (#[.int .i64 0, .int .i64 0, .int .i64 0, .int .i64 0, .int .i64 0, .int .i64 0]) := tyAgg Tryz.underlying52 rfl tinfo52
theorem tinfo55 : (Tryz.prog.info? 55).map (fun i => (i.zero, i.size, i.bytes)) = some (some (.agg #[.int .i64 0, .int .i64 0, .int .i64 0, .int .i64 0]), 4, 32) := by kernel_rfl
instance : TyAgg Tryz.prog 55 4 (#[.int .i64 0, .int .i64 0, .int .i64 0, .int .i64 0]) := tyAgg Tryz.underlying55 rfl tinfo55
theorem tinfo58 : (Tryz.prog.info? 58).map (fun i => (i.zero, i.size, i.bytes)) = some (some (.agg #[.slice none 0 0, .slice none 0 0, .slice none 0 0]), 3, 72) := by kernel_rfl
instance : TyAgg Tryz.prog 58 3 (#[.slice none 0 0, .slice none 0 0, .slice none 0 0]) := tyAgg Tryz.underlying58 rfl tinfo58
theorem tinfo59 : (Tryz.prog.info? 59).map (fun i => (i.zero, i.size, i.bytes)) = some (some (.slice none 0 0), 1, 24) := by kernel_rfl
instance : TyOne Tryz.prog 59 (.slice none 0 0) := tyOne Tryz.underlying59 rfl tinfo59 rfl
theorem tinfo60 : (Tryz.prog.info? 60).map (fun i => (i.zero, i.size, i.bytes)) = some (some (.slice none 0 0), 1, 24) := by kernel_rfl
instance : TyOne Tryz.prog 60 (.slice none 0 0) := tyOne Tryz.underlying60 rfl tinfo60 rfl
theorem tinfo62 : (Tryz.prog.info? 62).map (fun i => (i.zero, i.size, i.bytes)) = some (some (.agg #[.slice none 0 0, .slice none 0 0, .slice none 0 0, .int .i64 0, .int .i64 0, .slice none 0 0, .slice none 0 0]), 7, 136) := by kernel_rfl
instance : TyAgg Tryz.prog 62 7 (#[.slice none 0 0, .slice none 0 0, .slice none 0 0, .int .i64 0, .int .i64 0, .slice none 0 0, .slice none 0 0]) := tyAgg Tryz.underlying62 rfl tinfo62
theorem tinfo67 : (Tryz.prog.info? 67).map (fun i => (i.zero, i.size, i.bytes)) = some (some (.agg #[.int .i64 0, .int .i64 0]), 2, 16) := by kernel_rfl
instance : TyAgg Tryz.prog 67 2 (#[.int .i64 0, .int .i64 0]) := tyAgg Tryz.underlying67 rfl tinfo67
theorem tinfo72 : (Tryz.prog.info? 72).map (fun i => (i.zero, i.size, i.bytes)) = some (some (.agg #[.int .i64 0, .int .i64 0, .int .i64 0, .int .i64 0, .int .i64 0]), 5, 40) := by kernel_rfl
instance : TyAgg Tryz.prog 72 5 (#[.int .i64 0, .int .i64 0, .int .i64 0, .int .i64 0, .int .i64 0]) := tyAgg Tryz.underlying72 rfl tinfo72
theorem tinfo74 : (Tryz.prog.info? 74).map (fun i => (i.zero, i.size, i.bytes)) = some (some (.agg #[.int .i64 0, .int .i64 0, .bool false]), 3, 24) := by kernel_rfl
instance : TyAgg Tryz.prog 74 3 (#[.int .i64 0, .int .i64 0, .bool false]) := tyAgg Tryz.underlying74 rfl tinfo74
theorem tinfo78 : (Tryz.prog.info? 78).map (fun i => (i.zero, i.size, i.bytes)) = some (some (.agg #[.int .i64 0, .int .i64 0, .bool false]), 3, 24) := by kernel_rfl
instance : TyAgg Tryz.prog 78 3 (#[.int .i64 0, .int .i64 0, .bool false]) := tyAgg Tryz.underlying78 rfl tinfo78
theorem tinfo80 : (Tryz.prog.info? 80).map (fun i => (i.zero, i.size, i.bytes)) = some (some (.agg #[.int .i64 0, .int .i64 0, .int .i64 0, .int .i64 0]), 4, 32) := by kernel_rfl
instance : TyAgg Tryz.prog 80 4 (#[.int .i64 0, .int .i64 0, .int .i64 0, .int .i64 0]) := tyAgg Tryz.underlying80 rfl tinfo80
theorem tinfo82 : (Tryz.prog.info? 82).map (fun i => (i.zero, i.size, i.bytes)) = some (some (.agg #[.int .i64 0, .int .i64 0, .int .i64 0, .int .i64 0, .int .i64 0, .int .i64 0]), 6, 48) := by kernel_rfl
instance : TyAgg Tryz.prog 82 6 (#[.int .i64 0, .int .i64 0, .int .i64 0, .int .i64 0, .int .i64 0, .int .i64 0]) := tyAgg Tryz.underlying82 rfl tinfo82
theorem tinfo86 : (Tryz.prog.info? 86).map (fun i => (i.zero, i.size, i.bytes)) = some (some (.agg #[.bool false, .bool false, .bool false, .bool false]), 4, 4) := by kernel_rfl
instance : TyAgg Tryz.prog 86 4 (#[.bool false, .bool false, .bool false, .bool false]) := tyAgg Tryz.underlying86 rfl tinfo86
theorem tinfo89 : (Tryz.prog.info? 89).map (fun i => (i.zero, i.size, i.bytes)) = some (some (.agg #[.bool false, .bool false, .bool false, .bool false, .bool false, .bool false, .bool false, .bool false, .bool false, .bool false, .bool false, .bool false, .bool false, .bool false, .bool false, .bool false, .bool false, .bool false, .bool false, .bool false, .bool false, .bool false, .bool false, .bool false, .bool false, .bool false, .bool false, .bool false, .bool false, .bool false, .bool false, .bool false, .bool false, .bool false, .bool false, .bool false, .bool false, .bool false, .bool false, .bool false, .bool false, .bool false, .bool false, .bool false, .int .i64 0, .bool false]), 46, 64) := by kernel_rfl
instance : TyAgg Tryz.prog 89 46 (#[.bool false, .bool false, .bool false, .bool false, .bool false, .bool false, .bool false, .bool false, .bool false, .bool false, .bool false, .bool false, .bool false, .bool false, .bool false, .bool false, .bool false, .bool false, .bool false, .bool false, .bool false, .bool false, .bool false, .bool false, .bool false, .bool false, .bool false, .bool false, .bool false, .bool false, .bool false, .bool false, .bool false, .bool false, .bool false, .bool false, .bool false, .bool false, .bool false, .bool false, .bool false, .bool false, .bool false, .bool false, .int .i64 0, .bool false]) := tyAgg Tryz.underlying89 rfl tinfo89
theorem tinfo91 : (Tryz.prog.info? 91).map (fun i => (i.zero, i.size, i.bytes)) = some (some (.agg #[.int .i64 0, .int .i64 0]), 2, 16) := by kernel_rfl
instance : TyAgg Tryz.prog 91 2 (#[.int .i64 0, .int .i64 0]) := tyAgg Tryz.underlying91 rfl tinfo91
theorem tinfo93 : (Tryz.prog.info? 93).map (fun i => (i.zero, i.size, i.bytes)) = some (some (.agg #[.int .i64 0, .int .i64 0, .int .i64 0, .int .i64 0, .int .i64 0]), 5, 40) := by kernel_rfl
instance : TyAgg Tryz.prog 93 5 (#[.int .i64 0, .int .i64 0, .int .i64 0, .int .i64 0, .int .i64 0]) := tyAgg Tryz.underlying93 rfl tinfo93
theorem tinfo96 : (Tryz.prog.info? 96).map (fun i => (i.zero, i.size, i.bytes)) = some (some (.nilFunc), 1, 8) := by kernel_rfl
instance : TyOne Tryz.prog 96 (.nilFunc) := tyOne Tryz.underlying96 rfl tinfo96 rfl
theorem tinfo97 : (Tryz.prog.info? 97).map (fun i => (i.zero, i.size, i.bytes)) = some (some (.nilFunc), 1, 8) := by kernel_rfl
instance : TyOne Tryz.prog 97 (.nilFunc) := tyOne Tryz.underlying97 rfl tinfo97 rfl
theorem tinfo99 : (Tryz.prog.info? 99).map (fun i => (i.zero, i.size, i.bytes)) = some (some (.agg #[.nilFunc, .nilFunc]), 2, 16) := by kernel_rfl
instance : TyAgg Tryz.prog 99 2 (#[.nilFunc, .nilFunc]) := tyAgg Tryz.underlying99 rfl tinfo99
theorem tinfo106 : (Tryz.prog.info? 106).map (fun i => (i.zero, i.size, i.bytes)) = some (some (.agg #[.int .i64 0, .int .i64 0, .int .i64 0, .int .i64 0, .int .i64 0, .int .i64 0, .int .i64 0, .int .i64 0, .int .i64 0, .int .i64 0, .int .i64 0, .int .i64 0, .int .i64 0, .int .i64 0, .int .i64 0, .int .i64 0]), 16, 128) := by kernel_rfl
instance : TyAgg Tryz.prog 106 16 (#[.int .i64 0, .int .i64 0, .int .i64 0, .int .i64 0, .int .i64 0, .int .i64 0, .int .i64 0, .int .i64 0, .int .i64 0, .int .i64 0, .int .i64 0, .int .i64 0, .int .i64 0, .int .i64 0, .int .i64 0, .int .i64 0]) := tyAgg Tryz.underlying106 rfl tinfo106
theorem tinfo108 : (Tryz.prog.info? 108).map (fun i => (i.zero, i.size, i.bytes)) = some (some (.pointer none), 1, 8) := by kernel_rfl
instance : TyOne Tryz.prog 108 (.pointer none) := tyOne Tryz.underlying108 rfl tinfo108 rfl
theorem tinfo120 : (Tryz.prog.info? 120).map (fun i => (i.zero, i.size, i.bytes)) = some (some (.nilFunc), 1, 8) := by kernel_rfl
instance : TyOne Tryz.prog 120 (.nilFunc) := tyOne Tryz.underlying120 rfl tinfo120 rfl
theorem tinfo121 : (Tryz.prog.info? 121).map (fun i => (i.zero, i.size, i.bytes)) = some (some (.nilFunc), 1, 8) := by kernel_rfl
instance : TyOne Tryz.prog 121 (.nilFunc) := tyOne Tryz.underlying121 rfl tinfo121 rfl
theorem tinfo124 : (Tryz.prog.info? 124).map (fun i => (i.zero, i.size, i.bytes)) = some (some (.map none), 1, 8) := by kernel_rfl
instance : TyOne Tryz.prog 124 (.map none) := tyOne Tryz.underlying124 rfl tinfo124 rfl
theorem tinfo126 : (Tryz.prog.info? 126).map (fun i => (i.zero, i.size, i.bytes)) = some (some (.agg #[.slice none 0 0, .slice none 0 0, .slice none 0 0, .int .i64 0, .int .i64 0, .slice none 0 0, .slice none 0 0, .map none]), 8, 144) := by kernel_rfl
instance : TyAgg Tryz.prog 126 8 (#[.slice none 0 0, .slice none 0 0, .slice none 0 0, .int .i64 0, .int .i64 0, .slice none 0 0, .slice none 0 0, .map none]) := tyAgg Tryz.underlying126 rfl tinfo126
theorem tinfo134 : (Tryz.prog.info? 134).map (fun i => (i.zero, i.size, i.bytes)) = some (some (.nilFunc), 1, 8) := by kernel_rfl
instance : TyOne Tryz.prog 134 (.nilFunc) := tyOne Tryz.underlying134 rfl tinfo134 rfl
theorem tinfo135 : (Tryz.prog.info? 135).map (fun i => (i.zero, i.size, i.bytes)) = some (some (.nilFunc), 1, 8) := by kernel_rfl
instance : TyOne Tryz.prog 135 (.nilFunc) := tyOne Tryz.underlying135 rfl tinfo135 rfl
theorem tinfo136 : (Tryz.prog.info? 136).map (fun i => (i.zero, i.size, i.bytes)) = some (some (.nilFunc), 1, 8) := by kernel_rfl
instance : TyOne Tryz.prog 136 (.nilFunc) := tyOne Tryz.underlying136 rfl tinfo136 rfl
theorem tinfo143 : (Tryz.prog.info? 143).map (fun i => (i.zero, i.size, i.bytes)) = some (some (.agg #[.int .i64 0, .int .i64 0, .int .i64 0, .int .i64 0, .int .i64 0, .int .i64 0, .int .i64 0, .int .i64 0, .int .i64 0, .int .i64 0]), 10, 80) := by kernel_rfl
instance : TyAgg Tryz.prog 143 10 (#[.int .i64 0, .int .i64 0, .int .i64 0, .int .i64 0, .int .i64 0, .int .i64 0, .int .i64 0, .int .i64 0, .int .i64 0, .int .i64 0]) := tyAgg Tryz.underlying143 rfl tinfo143
theorem tinfo146 : (Tryz.prog.info? 146).map (fun i => (i.zero, i.size, i.bytes)) = some (some (.agg #[.bool false, .bool false, .bool false, .bool false, .bool false, .bool false, .bool false, .bool false, .bool false, .bool false]), 10, 10) := by kernel_rfl
instance : TyAgg Tryz.prog 146 10 (#[.bool false, .bool false, .bool false, .bool false, .bool false, .bool false, .bool false, .bool false, .bool false, .bool false]) := tyAgg Tryz.underlying146 rfl tinfo146
theorem tinfo148 : (Tryz.prog.info? 148).map (fun i => (i.zero, i.size, i.bytes)) = some (some (.map none), 1, 8) := by kernel_rfl
instance : TyOne Tryz.prog 148 (.map none) := tyOne Tryz.underlying148 rfl tinfo148 rfl
theorem tinfo150 : (Tryz.prog.info? 150).map (fun i => (i.zero, i.size, i.bytes)) = some (some (.agg #[.int .i64 0, .int .i64 0, .int .i64 0, .int .i64 0, .slice none 0 0, .slice none 0 0, .slice none 0 0, .int .i64 0, .int .i64 0, .int .i64 0, .int .i64 0, .int .i64 0, .int .i64 0, .int .i64 0, .int .i64 0, .int .i64 0, .int .i64 0, .int .i64 0, .map none]), 19, 200) := by kernel_rfl
instance : TyAgg Tryz.prog 150 19 (#[.int .i64 0, .int .i64 0, .int .i64 0, .int .i64 0, .slice none 0 0, .slice none 0 0, .slice none 0 0, .int .i64 0, .int .i64 0, .int .i64 0, .int .i64 0, .int .i64 0, .int .i64 0, .int .i64 0, .int .i64 0, .int .i64 0, .int .i64 0, .int .i64 0, .map none]) := tyAgg Tryz.underlying150 rfl tinfo150
theorem tinfo152 : (Tryz.prog.info? 152).map (fun i => (i.zero, i.size, i.bytes)) = some (some (.agg #[.int .i64 0, .bool false]), 2, 16) := by kernel_rfl
instance : TyAgg Tryz.prog 152 2 (#[.int .i64 0, .bool false]) := tyAgg Tryz.underlying152 rfl tinfo152
theorem tinfo155 : (Tryz.prog.info? 155).map (fun i => (i.zero, i.size, i.bytes)) = some (some (.nilFunc), 1, 8) := by kernel_rfl
instance : TyOne Tryz.prog 155 (.nilFunc) := tyOne Tryz.underlying155 rfl tinfo155 rfl
theorem tinfo156 : (Tryz.prog.info? 156).map (fun i => (i.zero, i.size, i.bytes)) = some (some (.nilFunc), 1, 8) := by kernel_rfl
instance : TyOne Tryz.prog 156 (.nilFunc) := tyOne Tryz.underlying156 rfl tinfo156 rfl
theorem tinfo161 : (Tryz.prog.info? 161).map (fun i => (i.zero, i.size, i.bytes)) = some (some (.agg #[.int .i64 0, .int .i64 0]), 2, 16) := by kernel_rfl
instance : TyAgg Tryz.prog 161 2 (#[.int .i64 0, .int .i64 0]) := tyAgg Tryz.underlying161 rfl tinfo161
theorem tinfo164 : (Tryz.prog.info? 164).map (fun i => (i.zero, i.size, i.bytes)) = some (some (.nilFunc), 1, 8) := by kernel_rfl
instance : TyOne Tryz.prog 164 (.nilFunc) := tyOne Tryz.underlying164 rfl tinfo164 rfl
theorem tinfo173 : (Tryz.prog.info? 173).map (fun i => (i.zero, i.size, i.bytes)) = some (some (.agg #[.int .i64 0, .bool false, .int .i64 0]), 3, 24) := by kernel_rfl
instance : TyAgg Tryz.prog 173 3 (#[.int .i64 0, .bool false, .int .i64 0]) := tyAgg Tryz.underlying173 rfl tinfo173
theorem tinfo188 : (Tryz.prog.info? 188).map (fun i => (i.zero, i.size, i.bytes)) = some (some (.nilFunc), 1, 8) := by kernel_rfl
instance : TyOne Tryz.prog 188 (.nilFunc) := tyOne Tryz.underlying188 rfl tinfo188 rfl
theorem tinfo190 : (Tryz.prog.info? 190).map (fun i => (i.zero, i.size, i.bytes)) = some (some (.agg #[.nilFunc, .bool false]), 2, 16) := by kernel_rfl
instance : TyAgg Tryz.prog 190 2 (#[.nilFunc, .bool false]) := tyAgg Tryz.underlying190 rfl tinfo190
theorem tinfo191 : (Tryz.prog.info? 191).map (fun i => (i.zero, i.size, i.bytes)) = some (some (.agg #[.nilFunc, .bool false, .nilFunc, .bool false, .nilFunc, .bool false, .nilFunc, .bool false]), 8, 64) := by kernel_rfl
instance : TyAgg Tryz.prog 191 8 (#[.nilFunc, .bool false, .nilFunc, .bool false, .nilFunc, .bool false, .nilFunc, .bool false]) := tyAgg Tryz.underlying191 rfl tinfo191
theorem tinfo195 : (Tryz.prog.info? 195).map (fun i => (i.zero, i.size, i.bytes)) = some (some (.agg #[.bool false, .bool false]), 2, 2) := by kernel_rfl
instance : TyAgg Tryz.prog 195 2 (#[.bool false, .bool false]) := tyAgg Tryz.underlying195 rfl tinfo195
theorem tinfo202 : (Tryz.prog.info? 202).map (fun i => (i.zero, i.size, i.bytes)) = some (some (.agg #[.int .i64 0, .int .i64 0, .int .i64 0]), 3, 24) := by kernel_rfl
instance : TyAgg Tryz.prog 202 3 (#[.int .i64 0, .int .i64 0, .int .i64 0]) := tyAgg Tryz.underlying202 rfl tinfo202
instance : TyField Tryz.prog 26 0 0 := ⟨_, _, Tryz.underlying26, rfl, rfl, 0, by kernel_rfl⟩
instance : TyField Tryz.prog 26 1 1 := ⟨_, _, Tryz.underlying26, rfl, rfl, 0, by kernel_rfl⟩
instance : TyField Tryz.prog 26 2 2 := ⟨_, _, Tryz.underlying26, rfl, rfl, 0, by kernel_rfl⟩
instance : TyField Tryz.prog 26 3 3 := ⟨_, _, Tryz.underlying26, rfl, rfl, 0, by kernel_rfl⟩
instance : TyField Tryz.prog 26 4 4 := ⟨_, _, Tryz.underlying26, rfl, rfl, 0, by kernel_rfl⟩
instance : TyField Tryz.prog 26 5 5 := ⟨_, _, Tryz.underlying26, rfl, rfl, 0, by kernel_rfl⟩
instance : TyField Tryz.prog 26 6 6 := ⟨_, _, Tryz.underlying26, rfl, rfl, 0, by kernel_rfl⟩
instance : TyField Tryz.prog 30 0 0 := ⟨_, _, Tryz.underlying30, rfl, rfl, 0, by kernel_rfl⟩
instance : TyField Tryz.prog 30 1 1 := ⟨_, _, Tryz.underlying30, rfl, rfl, 0, by kernel_rfl⟩
instance : TyField Tryz.prog 30 2 2 := ⟨_, _, Tryz.underlying30, rfl, rfl, 0, by kernel_rfl⟩
instance : TyField Tryz.prog 42 0 0 := ⟨_, _, Tryz.underlying42, rfl, rfl, 0, by kernel_rfl⟩
instance : TyField Tryz.prog 42 1 1 := ⟨_, _, Tryz.underlying42, rfl, rfl, 0, by kernel_rfl⟩
instance : TyField Tryz.prog 42 2 2 := ⟨_, _, Tryz.underlying42, rfl, rfl, 0, by kernel_rfl⟩
instance : TyField Tryz.prog 42 3 3 := ⟨_, _, Tryz.underlying42, rfl, rfl, 0, by kernel_rfl⟩
instance : TyField Tryz.prog 42 4 4 := ⟨_, _, Tryz.underlying42, rfl, rfl, 0, by kernel_rfl⟩
instance : TyField Tryz.prog 42 5 5 := ⟨_, _, Tryz.underlying42, rfl, rfl, 0, by kernel_rfl⟩
instance : TyField Tryz.prog 42 6 6 := ⟨_, _, Tryz.underlying42, rfl, rfl, 0, by kernel_rfl⟩
instance : TyField Tryz.prog 47 0 0 := ⟨_, _, Tryz.underlying47, rfl, rfl, 2, by kernel_rfl⟩
instance : TyField Tryz.prog 47 1 3 := ⟨_, _, Tryz.underlying47, rfl, rfl, 0, by kernel_rfl⟩
instance : TyField Tryz.prog 47 2 4 := ⟨_, _, Tryz.underlying47, rfl, rfl, 0, by kernel_rfl⟩
instance : TyField Tryz.prog 47 3 5 := ⟨_, _, Tryz.underlying47, rfl, rfl, 0, by kernel_rfl⟩
instance : TyField Tryz.prog 47 4 6 := ⟨_, _, Tryz.underlying47, rfl, rfl, 0, by kernel_rfl⟩
instance : TyField Tryz.prog 49 0 0 := ⟨_, _, Tryz.underlying49, rfl, rfl, 0, by kernel_rfl⟩
instance : TyField Tryz.prog 49 1 1 := ⟨_, _, Tryz.underlying49, rfl, rfl, 0, by kernel_rfl⟩
instance : TyField Tryz.prog 52 0 0 := ⟨_, _, Tryz.underlying52, rfl, rfl, 0, by kernel_rfl⟩
instance : TyField Tryz.prog 52 1 1 := ⟨_, _, Tryz.underlying52, rfl, rfl, 0, by kernel_rfl⟩
instance : TyField Tryz.prog 52 2 2 := ⟨_, _, Tryz.underlying52, rfl, rfl, 1, by kernel_rfl⟩
instance : TyField Tryz.prog 52 3 4 := ⟨_, _, Tryz.underlying52, rfl, rfl, 1, by kernel_rfl⟩
instance : TyField Tryz.prog 55 0 0 := ⟨_, _, Tryz.underlying55, rfl, rfl, 0, by kernel_rfl⟩
instance : TyField Tryz.prog 55 1 1 := ⟨_, _, Tryz.underlying55, rfl, rfl, 0, by kernel_rfl⟩
instance : TyField Tryz.prog 55 2 2 := ⟨_, _, Tryz.underlying55, rfl, rfl, 1, by kernel_rfl⟩
instance : TyField Tryz.prog 58 0 0 := ⟨_, _, Tryz.underlying58, rfl, rfl, 0, by kernel_rfl⟩
instance : TyField Tryz.prog 58 1 1 := ⟨_, _, Tryz.underlying58, rfl, rfl, 0, by kernel_rfl⟩
instance : TyField Tryz.prog 58 2 2 := ⟨_, _, Tryz.underlying58, rfl, rfl, 0, by kernel_rfl⟩
instance : TyField Tryz.prog 62 0 0 := ⟨_, _, Tryz.underlying62, rfl, rfl, 2, by kernel_rfl⟩
instance : TyField Tryz.prog 62 1 3 := ⟨_, _, Tryz.underlying62, rfl, rfl, 0, by kernel_rfl⟩
instance : TyField Tryz.prog 62 2 4 := ⟨_, _, Tryz.underlying62, rfl, rfl, 0, by kernel_rfl⟩
instance : TyField Tryz.prog 62 3 5 := ⟨_, _, Tryz.underlying62, rfl, rfl, 0, by kernel_rfl⟩
instance : TyField Tryz.prog 62 4 6 := ⟨_, _, Tryz.underlying62, rfl, rfl, 0, by kernel_rfl⟩
instance : TyField Tryz.prog 67 0 0 := ⟨_, _, Tryz.underlying67, rfl, rfl, 0, by kernel_rfl⟩
instance : TyField Tryz.prog 67 1 1 := ⟨_, _, Tryz.underlying67, rfl, rfl, 0, by kernel_rfl⟩
instance : TyField Tryz.prog 70 0 0 := ⟨_, _, Tryz.underlying70, rfl, rfl, 0, by kernel_rfl⟩
instance : TyField Tryz.prog 70 1 1 := ⟨_, _, Tryz.underlying70, rfl, rfl, 0, by kernel_rfl⟩
instance : TyField Tryz.prog 72 0 0 := ⟨_, _, Tryz.underlying72, rfl, rfl, 0, by kernel_rfl⟩
instance : TyField Tryz.prog 72 1 1 := ⟨_, _, Tryz.underlying72, rfl, rfl, 0, by kernel_rfl⟩
instance : TyField Tryz.prog 72 2 2 := ⟨_, _, Tryz.underlying72, rfl, rfl, 0, by kernel_rfl⟩
instance : TyField Tryz.prog 72 3 3 := ⟨_, _, Tryz.underlying72, rfl, rfl, 1, by kernel_rfl⟩
instance : TyField Tryz.prog 74 0 0 := ⟨_, _, Tryz.underlying74, rfl, rfl, 0, by kernel_rfl⟩
instance : TyField Tryz.prog 74 1 1 := ⟨_, _, Tryz.underlying74, rfl, rfl, 0, by kernel_rfl⟩
instance : TyField Tryz.prog 74 2 2 := ⟨_, _, Tryz.underlying74, rfl, rfl, 0, by kernel_rfl⟩
instance : TyField Tryz.prog 78 0 0 := ⟨_, _, Tryz.underlying78, rfl, rfl, 0, by kernel_rfl⟩
instance : TyField Tryz.prog 78 1 1 := ⟨_, _, Tryz.underlying78, rfl, rfl, 0, by kernel_rfl⟩
instance : TyField Tryz.prog 78 2 2 := ⟨_, _, Tryz.underlying78, rfl, rfl, 0, by kernel_rfl⟩
instance : TyField Tryz.prog 80 0 0 := ⟨_, _, Tryz.underlying80, rfl, rfl, 0, by kernel_rfl⟩
instance : TyField Tryz.prog 80 1 1 := ⟨_, _, Tryz.underlying80, rfl, rfl, 0, by kernel_rfl⟩
instance : TyField Tryz.prog 80 2 2 := ⟨_, _, Tryz.underlying80, rfl, rfl, 1, by kernel_rfl⟩
instance : TyField Tryz.prog 82 0 0 := ⟨_, _, Tryz.underlying82, rfl, rfl, 0, by kernel_rfl⟩
instance : TyField Tryz.prog 82 1 1 := ⟨_, _, Tryz.underlying82, rfl, rfl, 0, by kernel_rfl⟩
instance : TyField Tryz.prog 82 2 2 := ⟨_, _, Tryz.underlying82, rfl, rfl, 1, by kernel_rfl⟩
instance : TyField Tryz.prog 82 3 4 := ⟨_, _, Tryz.underlying82, rfl, rfl, 1, by kernel_rfl⟩
instance : TyField Tryz.prog 89 0 0 := ⟨_, _, Tryz.underlying89, rfl, rfl, 39, by kernel_rfl⟩
instance : TyField Tryz.prog 89 1 40 := ⟨_, _, Tryz.underlying89, rfl, rfl, 3, by kernel_rfl⟩
instance : TyField Tryz.prog 89 2 44 := ⟨_, _, Tryz.underlying89, rfl, rfl, 0, by kernel_rfl⟩
instance : TyField Tryz.prog 89 3 45 := ⟨_, _, Tryz.underlying89, rfl, rfl, 0, by kernel_rfl⟩
instance : TyField Tryz.prog 91 0 0 := ⟨_, _, Tryz.underlying91, rfl, rfl, 0, by kernel_rfl⟩
instance : TyField Tryz.prog 91 1 1 := ⟨_, _, Tryz.underlying91, rfl, rfl, 0, by kernel_rfl⟩
instance : TyField Tryz.prog 93 0 0 := ⟨_, _, Tryz.underlying93, rfl, rfl, 0, by kernel_rfl⟩
instance : TyField Tryz.prog 93 1 1 := ⟨_, _, Tryz.underlying93, rfl, rfl, 0, by kernel_rfl⟩
instance : TyField Tryz.prog 93 2 2 := ⟨_, _, Tryz.underlying93, rfl, rfl, 0, by kernel_rfl⟩
instance : TyField Tryz.prog 93 3 3 := ⟨_, _, Tryz.underlying93, rfl, rfl, 1, by kernel_rfl⟩
instance : TyField Tryz.prog 99 0 0 := ⟨_, _, Tryz.underlying99, rfl, rfl, 0, by kernel_rfl⟩
instance : TyField Tryz.prog 99 1 1 := ⟨_, _, Tryz.underlying99, rfl, rfl, 0, by kernel_rfl⟩
instance : TyField Tryz.prog 126 0 0 := ⟨_, _, Tryz.underlying126, rfl, rfl, 6, by kernel_rfl⟩
instance : TyField Tryz.prog 126 1 7 := ⟨_, _, Tryz.underlying126, rfl, rfl, 0, by kernel_rfl⟩
instance : TyField Tryz.prog 150 0 0 := ⟨_, _, Tryz.underlying150, rfl, rfl, 6, by kernel_rfl⟩
instance : TyField Tryz.prog 150 1 7 := ⟨_, _, Tryz.underlying150, rfl, rfl, 0, by kernel_rfl⟩
instance : TyField Tryz.prog 150 2 8 := ⟨_, _, Tryz.underlying150, rfl, rfl, 9, by kernel_rfl⟩
instance : TyField Tryz.prog 150 3 18 := ⟨_, _, Tryz.underlying150, rfl, rfl, 0, by kernel_rfl⟩
instance : TyField Tryz.prog 152 0 0 := ⟨_, _, Tryz.underlying152, rfl, rfl, 0, by kernel_rfl⟩
instance : TyField Tryz.prog 152 1 1 := ⟨_, _, Tryz.underlying152, rfl, rfl, 0, by kernel_rfl⟩
instance : TyField Tryz.prog 161 0 0 := ⟨_, _, Tryz.underlying161, rfl, rfl, 0, by kernel_rfl⟩
instance : TyField Tryz.prog 161 1 1 := ⟨_, _, Tryz.underlying161, rfl, rfl, 0, by kernel_rfl⟩
instance : TyField Tryz.prog 173 0 0 := ⟨_, _, Tryz.underlying173, rfl, rfl, 1, by kernel_rfl⟩
instance : TyField Tryz.prog 173 1 2 := ⟨_, _, Tryz.underlying173, rfl, rfl, 0, by kernel_rfl⟩
instance : TyField Tryz.prog 190 0 0 := ⟨_, _, Tryz.underlying190, rfl, rfl, 0, by kernel_rfl⟩
instance : TyField Tryz.prog 190 1 1 := ⟨_, _, Tryz.underlying190, rfl, rfl, 0, by kernel_rfl⟩
instance : TyField Tryz.prog 195 0 0 := ⟨_, _, Tryz.underlying195, rfl, rfl, 0, by kernel_rfl⟩
instance : TyField Tryz.prog 195 1 1 := ⟨_, _, Tryz.underlying195, rfl, rfl, 0, by kernel_rfl⟩
instance : TyField Tryz.prog 202 0 0 := ⟨_, _, Tryz.underlying202, rfl, rfl, 0, by kernel_rfl⟩
instance : TyField Tryz.prog 202 1 1 := ⟨_, _, Tryz.underlying202, rfl, rfl, 0, by kernel_rfl⟩
instance : TyField Tryz.prog 202 2 2 := ⟨_, _, Tryz.underlying202, rfl, rfl, 0, by kernel_rfl⟩
instance : TyPlaces Tryz.prog 42 [(0, 1), (1, 1), (2, 1), (3, 1), (4, 1), (5, 1), (6, 1)] := ⟨_, Tryz.underlying42, places_run (by kernel_rfl)⟩
instance : TyPlaces Tryz.prog 47 [(0, 3), (3, 1), (4, 1), (5, 1), (6, 1)] := ⟨_, Tryz.underlying47, places_run (by kernel_rfl)⟩
instance : TyPlaces Tryz.prog 49 [(0, 1), (1, 1)] := ⟨_, Tryz.underlying49, places_run (by kernel_rfl)⟩
instance : TyPlaces Tryz.prog 52 [(0, 1), (1, 1), (2, 2), (4, 2)] := ⟨_, Tryz.underlying52, places_run (by kernel_rfl)⟩
instance : TyPlaces Tryz.prog 55 [(0, 1), (1, 1), (2, 2)] := ⟨_, Tryz.underlying55, places_run (by kernel_rfl)⟩
instance : TyPlaces Tryz.prog 58 [(0, 1), (1, 1), (2, 1)] := ⟨_, Tryz.underlying58, places_run (by kernel_rfl)⟩
instance : TyPlaces Tryz.prog 62 [(0, 3), (3, 1), (4, 1), (5, 1), (6, 1)] := ⟨_, Tryz.underlying62, places_run (by kernel_rfl)⟩
instance : TyPlaces Tryz.prog 67 [(0, 1), (1, 1)] := ⟨_, Tryz.underlying67, places_run (by kernel_rfl)⟩
instance : TyPlaces Tryz.prog 78 [(0, 1), (1, 1), (2, 1)] := ⟨_, Tryz.underlying78, places_run (by kernel_rfl)⟩
instance : TyPlaces Tryz.prog 80 [(0, 1), (1, 1), (2, 2)] := ⟨_, Tryz.underlying80, places_run (by kernel_rfl)⟩
instance : TyPlaces Tryz.prog 82 [(0, 1), (1, 1), (2, 2), (4, 2)] := ⟨_, Tryz.underlying82, places_run (by kernel_rfl)⟩
instance : TyPlaces Tryz.prog 91 [(0, 1), (1, 1)] := ⟨_, Tryz.underlying91, places_run (by kernel_rfl)⟩
instance : TyPlaces Tryz.prog 93 [(0, 1), (1, 1), (2, 1), (3, 2)] := ⟨_, Tryz.underlying93, places_run (by kernel_rfl)⟩
instance : TyPlaces Tryz.prog 99 [(0, 1), (1, 1)] := ⟨_, Tryz.underlying99, places_run (by kernel_rfl)⟩
instance : TyPlaces Tryz.prog 126 [(0, 7), (7, 1)] := ⟨_, Tryz.underlying126, places_run (by kernel_rfl)⟩
instance : TyPlaces Tryz.prog 150 [(0, 7), (7, 1), (8, 10), (18, 1)] := ⟨_, Tryz.underlying150, places_run (by kernel_rfl)⟩
instance : TyPlaces Tryz.prog 152 [(0, 1), (1, 1)] := ⟨_, Tryz.underlying152, places_run (by kernel_rfl)⟩
instance : TyPlaces Tryz.prog 161 [(0, 1), (1, 1)] := ⟨_, Tryz.underlying161, places_run (by kernel_rfl)⟩
instance : TyPlaces Tryz.prog 173 [(0, 2), (2, 1)] := ⟨_, Tryz.underlying173, places_run (by kernel_rfl)⟩
instance : TyPlaces Tryz.prog 190 [(0, 1), (1, 1)] := ⟨_, Tryz.underlying190, places_run (by kernel_rfl)⟩
instance : TyPlaces Tryz.prog 195 [(0, 1), (1, 1)] := ⟨_, Tryz.underlying195, places_run (by kernel_rfl)⟩
instance : TyPlaces Tryz.prog 202 [(0, 1), (1, 1), (2, 1)] := ⟨_, Tryz.underlying202, places_run (by kernel_rfl)⟩
instance : TyEq2 Tryz.prog 67 .i64 .i64 := tyEq2 Tryz.underlying67 (by kernel_rfl) (by kernel_rfl) (by kernel_rfl) (by kernel_rfl) rfl rfl Tryz.underlying3 Tryz.underlying3
instance : TyEqIB Tryz.prog 152 := tyEqIB Tryz.underlying152 (by kernel_rfl) (by kernel_rfl) (by kernel_rfl) (by kernel_rfl) rfl rfl Tryz.underlying3 Tryz.underlying4
theorem ckF3 : CkF Tryz.prog 3 1 false 1 := ckF_int Tryz.underlying3 (by kernel_rfl)
theorem eqF3 : EqF Tryz.prog 3 1 false 1 := ckF3.eqf
theorem eqF104 : EqF Tryz.prog 104 4 true 2 := eqF_arr Tryz.underlying104 eqF3 rfl (by kernel_rfl)
theorem eqF106 : EqF Tryz.prog 106 16 true 3 := eqF_arr Tryz.underlying106 eqF104 rfl (by kernel_rfl)
theorem ckF67 : CkF Tryz.prog 67 2 true 2 := ckF_struct (m := 1) Tryz.underlying67 (by kernel_rfl) (by kernel_rfl) (.cons (by kernel_rfl) rfl (ckF3.up (by decide)) (.cons (by kernel_rfl) rfl (ckF3.up (by decide)) .nil))
theorem ckF82 : CkF Tryz.prog 82 6 true 3 := ckF_struct (m := 2) Tryz.underlying82 (by kernel_rfl) (by kernel_rfl) (.cons (by kernel_rfl) rfl (ckF3.up (by decide)) (.cons (by kernel_rfl) rfl (ckF3.up (by decide)) (.cons (by kernel_rfl) rfl (ckF67.up (by decide)) (.cons (by kernel_rfl) rfl (ckF67.up (by decide)) .nil))))
theorem tyMapF124 : TyMapF Tryz.prog 124 82 67 6 3 [0, 0] := tyMapF Tryz.underlying124 ckF82 (by decide) tinfo67 rfl
instance : TyMapIB Tryz.prog 148 152 3 := tyMapIB Tryz.underlying148 inferInstance tinfo3
instance : TyBool Tryz.prog 4 := ⟨Tryz.underlying4⟩
instance : TyElem Tryz.prog 3 1 8 := tyElem tinfo3 rfl
instance : TyElem Tryz.prog 4 1 1 := tyElem tinfo4 rfl
instance : TyElem Tryz.prog 5 1 1 := tyElem tinfo5 rfl
instance : TyElem Tryz.prog 27 1 24 := tyElem tinfo27 rfl
instance : TyElem Tryz.prog 52 6 48 := tyElem tinfo52 rfl
instance : TyElem Tryz.prog 55 4 32 := tyElem tinfo55 rfl
instance : TyElem Tryz.prog 67 2 16 := tyElem tinfo67 rfl
instance : TyElem Tryz.prog 72 5 40 := tyElem tinfo72 rfl
instance : TyElem Tryz.prog 74 3 24 := tyElem tinfo74 rfl
instance : TyElem Tryz.prog 78 3 24 := tyElem tinfo78 rfl
instance : TyElem Tryz.prog 80 4 32 := tyElem tinfo80 rfl
instance : TyElem Tryz.prog 82 6 48 := tyElem tinfo82 rfl
instance : TyElem Tryz.prog 89 46 64 := tyElem tinfo89 rfl
instance : TyElem Tryz.prog 93 5 40 := tyElem tinfo93 rfl
instance : TyElem Tryz.prog 152 2 16 := tyElem tinfo152 rfl
instance : TyElem Tryz.prog 173 3 24 := tyElem tinfo173 rfl
instance : TyElem Tryz.prog 202 3 24 := tyElem tinfo202 rfl
instance : TySlice Tryz.prog 22 4 1 := ⟨Tryz.underlying22, by kernel_rfl⟩
instance : TySlice Tryz.prog 23 72 5 := ⟨Tryz.underlying23, by kernel_rfl⟩
instance : TySlice Tryz.prog 24 74 3 := ⟨Tryz.underlying24, by kernel_rfl⟩
instance : TySlice Tryz.prog 27 3 1 := ⟨Tryz.underlying27, by kernel_rfl⟩
instance : TySlice Tryz.prog 28 27 1 := ⟨Tryz.underlying28, by kernel_rfl⟩
instance : TySlice Tryz.prog 31 5 1 := ⟨Tryz.underlying31, by kernel_rfl⟩
instance : TySlice Tryz.prog 39 93 5 := ⟨Tryz.underlying39, by kernel_rfl⟩
instance : TySlice Tryz.prog 40 78 3 := ⟨Tryz.underlying40, by kernel_rfl⟩
instance : TySlice Tryz.prog 44 55 4 := ⟨Tryz.underlying44, by kernel_rfl⟩
instance : TySlice Tryz.prog 45 52 6 := ⟨Tryz.underlying45, by kernel_rfl⟩
instance : TySlice Tryz.prog 59 80 4 := ⟨Tryz.underlying59, by kernel_rfl⟩
instance : TySlice Tryz.prog 60 82 6 := ⟨Tryz.underlying60, by kernel_rfl⟩
instance : TySlice Tryz.prog 64 67 2 := ⟨Tryz.underlying64, by kernel_rfl⟩
instance : TySlice Tryz.prog 83 89 46 := ⟨Tryz.underlying83, by kernel_rfl⟩
instance : TySlice Tryz.prog 170 173 3 := ⟨Tryz.underlying170, by kernel_rfl⟩
instance : TySlice Tryz.prog 176 152 2 := ⟨Tryz.underlying176, by kernel_rfl⟩
instance : TySlice Tryz.prog 203 202 3 := ⟨Tryz.underlying203, by kernel_rfl⟩
instance : TyArr Tryz.prog 86 4 4 1 := ⟨Tryz.underlying86, by kernel_rfl⟩
instance : TyArrB Tryz.prog 86 4 := ⟨⟨4, Tryz.underlying86, Tryz.underlying4, by kernel_rfl⟩, by kernel_rfl⟩
instance : TyArr Tryz.prog 87 10 86 4 := ⟨Tryz.underlying87, by kernel_rfl⟩
instance : TyArr Tryz.prog 104 4 3 1 := ⟨Tryz.underlying104, by kernel_rfl⟩
instance : TyArr Tryz.prog 106 4 104 4 := ⟨Tryz.underlying106, by kernel_rfl⟩
instance : TyArr Tryz.prog 143 10 3 1 := ⟨Tryz.underlying143, by kernel_rfl⟩
instance : TyArr Tryz.prog 146 10 4 1 := ⟨Tryz.underlying146, by kernel_rfl⟩
instance : TyArrB Tryz.prog 146 10 := ⟨⟨4, Tryz.underlying146, Tryz.underlying4, by kernel_rfl⟩, by kernel_rfl⟩
instance : TyArr Tryz.prog 191 4 190 2 := ⟨Tryz.underlying191, by kernel_rfl⟩
instance : TyArrI Tryz.prog 104 4 := ⟨⟨3, Tryz.underlying104, Tryz.underlying3, by kernel_rfl⟩, by kernel_rfl⟩
instance : TyArrI Tryz.prog 143 10 := ⟨⟨3, Tryz.underlying143, Tryz.underlying3, by kernel_rfl⟩, by kernel_rfl⟩
instance : TyInt Tryz.prog 3 .i64 := ⟨Tryz.underlying3⟩
instance : TyInt Tryz.prog 5 .u8 := ⟨Tryz.underlying5⟩
instance : TyInt Tryz.prog 36 .i64 := ⟨Tryz.underlying36⟩
instance : GoFn Tryz.prog 3 := ⟨_, Tryz.func3, by kernel_rfl, by kernel_rfl⟩
instance : GoFn Tryz.prog 4 := ⟨_, Tryz.func4, by kernel_rfl, by kernel_rfl⟩
instance : GoFn Tryz.prog 5 := ⟨_, Tryz.func5, by kernel_rfl, by kernel_rfl⟩
instance : GoFn Tryz.prog 6 := ⟨_, Tryz.func6, by kernel_rfl, by kernel_rfl⟩
instance : GoFn Tryz.prog 7 := ⟨_, Tryz.func7, by kernel_rfl, by kernel_rfl⟩
instance : GoFn Tryz.prog 8 := ⟨_, Tryz.func8, by kernel_rfl, by kernel_rfl⟩
instance : GoFn Tryz.prog 9 := ⟨_, Tryz.func9, by kernel_rfl, by kernel_rfl⟩
instance : GoFn Tryz.prog 10 := ⟨_, Tryz.func10, by kernel_rfl, by kernel_rfl⟩
instance : GoFn Tryz.prog 11 := ⟨_, Tryz.func11, by kernel_rfl, by kernel_rfl⟩
instance : GoFn Tryz.prog 12 := ⟨_, Tryz.func12, by kernel_rfl, by kernel_rfl⟩
instance : GoFn Tryz.prog 13 := ⟨_, Tryz.func13, by kernel_rfl, by kernel_rfl⟩
instance : GoFn Tryz.prog 14 := ⟨_, Tryz.func14, by kernel_rfl, by kernel_rfl⟩
instance : GoFn Tryz.prog 15 := ⟨_, Tryz.func15, by kernel_rfl, by kernel_rfl⟩
instance : GoFn Tryz.prog 16 := ⟨_, Tryz.func16, by kernel_rfl, by kernel_rfl⟩
instance : GoFn Tryz.prog 17 := ⟨_, Tryz.func17, by kernel_rfl, by kernel_rfl⟩
instance : GoFn Tryz.prog 18 := ⟨_, Tryz.func18, by kernel_rfl, by kernel_rfl⟩
instance : GoFn Tryz.prog 19 := ⟨_, Tryz.func19, by kernel_rfl, by kernel_rfl⟩
instance : GoFn Tryz.prog 20 := ⟨_, Tryz.func20, by kernel_rfl, by kernel_rfl⟩
instance : GoFn Tryz.prog 21 := ⟨_, Tryz.func21, by kernel_rfl, by kernel_rfl⟩
instance : GoFn Tryz.prog 22 := ⟨_, Tryz.func22, by kernel_rfl, by kernel_rfl⟩
instance : GoFn Tryz.prog 23 := ⟨_, Tryz.func23, by kernel_rfl, by kernel_rfl⟩
instance : GoFn Tryz.prog 24 := ⟨_, Tryz.func24, by kernel_rfl, by kernel_rfl⟩
instance : GoFn Tryz.prog 25 := ⟨_, Tryz.func25, by kernel_rfl, by kernel_rfl⟩
instance : GoFn Tryz.prog 26 := ⟨_, Tryz.func26, by kernel_rfl, by kernel_rfl⟩
instance : GoFn Tryz.prog 27 := ⟨_, Tryz.func27, by kernel_rfl, by kernel_rfl⟩
instance : GoFn Tryz.prog 28 := ⟨_, Tryz.func28, by kernel_rfl, by kernel_rfl⟩
instance : GoFn Tryz.prog 29 := ⟨_, Tryz.func29, by kernel_rfl, by kernel_rfl⟩
instance : GoFn Tryz.prog 30 := ⟨_, Tryz.func30, by kernel_rfl, by kernel_rfl⟩
instance : GoFn Tryz.prog 31 := ⟨_, Tryz.func31, by kernel_rfl, by kernel_rfl⟩
instance : GoFn Tryz.prog 32 := ⟨_, Tryz.func32, by kernel_rfl, by kernel_rfl⟩
instance : GoFn Tryz.prog 33 := ⟨_, Tryz.func33, by kernel_rfl, by kernel_rfl⟩
instance : GoFn Tryz.prog 34 := ⟨_, Tryz.func34, by kernel_rfl, by kernel_rfl⟩
instance : GoFn Tryz.prog 35 := ⟨_, Tryz.func35, by kernel_rfl, by kernel_rfl⟩
instance : GoFn Tryz.prog 36 := ⟨_, Tryz.func36, by kernel_rfl, by kernel_rfl⟩
instance : GoFn Tryz.prog 37 := ⟨_, Tryz.func37, by kernel_rfl, by kernel_rfl⟩
instance : GoFn Tryz.prog 38 := ⟨_, Tryz.func38, by kernel_rfl, by kernel_rfl⟩
instance : GoFn Tryz.prog 39 := ⟨_, Tryz.func39, by kernel_rfl, by kernel_rfl⟩
instance : GoFn Tryz.prog 40 := ⟨_, Tryz.func40, by kernel_rfl, by kernel_rfl⟩
instance : GoFn Tryz.prog 41 := ⟨_, Tryz.func41, by kernel_rfl, by kernel_rfl⟩
instance : GoFn Tryz.prog 42 := ⟨_, Tryz.func42, by kernel_rfl, by kernel_rfl⟩
instance : GoFn Tryz.prog 43 := ⟨_, Tryz.func43, by kernel_rfl, by kernel_rfl⟩
instance : GoFn Tryz.prog 44 := ⟨_, Tryz.func44, by kernel_rfl, by kernel_rfl⟩
instance : GoFn Tryz.prog 45 := ⟨_, Tryz.func45, by kernel_rfl, by kernel_rfl⟩
instance : GoFn Tryz.prog 46 := ⟨_, Tryz.func46, by kernel_rfl, by kernel_rfl⟩
instance : GoFn Tryz.prog 47 := ⟨_, Tryz.func47, by kernel_rfl, by kernel_rfl⟩
instance : GoFn Tryz.prog 48 := ⟨_, Tryz.func48, by kernel_rfl, by kernel_rfl⟩
instance : GoFn Tryz.prog 49 := ⟨_, Tryz.func49, by kernel_rfl, by kernel_rfl⟩
instance : GoFn Tryz.prog 50 := ⟨_, Tryz.func50, by kernel_rfl, by kernel_rfl⟩
instance : GoFn Tryz.prog 51 := ⟨_, Tryz.func51, by kernel_rfl, by kernel_rfl⟩
instance : GoFn Tryz.prog 52 := ⟨_, Tryz.func52, by kernel_rfl, by kernel_rfl⟩
instance : GoFn Tryz.prog 53 := ⟨_, Tryz.func53, by kernel_rfl, by kernel_rfl⟩
instance : GoFn Tryz.prog 54 := ⟨_, Tryz.func54, by kernel_rfl, by kernel_rfl⟩
instance : GoFn Tryz.prog 55 := ⟨_, Tryz.func55, by kernel_rfl, by kernel_rfl⟩
instance : GoFn Tryz.prog 56 := ⟨_, Tryz.func56, by kernel_rfl, by kernel_rfl⟩
instance : GoFn Tryz.prog 57 := ⟨_, Tryz.func57, by kernel_rfl, by kernel_rfl⟩
instance : GoFn Tryz.prog 58 := ⟨_, Tryz.func58, by kernel_rfl, by kernel_rfl⟩
instance : GoFn Tryz.prog 59 := ⟨_, Tryz.func59, by kernel_rfl, by kernel_rfl⟩
instance : GoFn Tryz.prog 60 := ⟨_, Tryz.func60, by kernel_rfl, by kernel_rfl⟩
instance : GoFn Tryz.prog 61 := ⟨_, Tryz.func61, by kernel_rfl, by kernel_rfl⟩
instance : GoFn Tryz.prog 62 := ⟨_, Tryz.func62, by kernel_rfl, by kernel_rfl⟩
instance : GoFn Tryz.prog 63 := ⟨_, Tryz.func63, by kernel_rfl, by kernel_rfl⟩
instance : GoFn Tryz.prog 64 := ⟨_, Tryz.func64, by kernel_rfl, by kernel_rfl⟩
instance : GoFn Tryz.prog 65 := ⟨_, Tryz.func65, by kernel_rfl, by kernel_rfl⟩
instance : GoFn Tryz.prog 66 := ⟨_, Tryz.func66, by kernel_rfl, by kernel_rfl⟩
instance : GoFn Tryz.prog 67 := ⟨_, Tryz.func67, by kernel_rfl, by kernel_rfl⟩
instance : GoFn Tryz.prog 68 := ⟨_, Tryz.func68, by kernel_rfl, by kernel_rfl⟩
instance : GoFn Tryz.prog 69 := ⟨_, Tryz.func69, by kernel_rfl, by kernel_rfl⟩
instance : GoFn Tryz.prog 70 := ⟨_, Tryz.func70, by kernel_rfl, by kernel_rfl⟩
instance : GoFn Tryz.prog 71 := ⟨_, Tryz.func71, by kernel_rfl, by kernel_rfl⟩
instance : GoFn Tryz.prog 72 := ⟨_, Tryz.func72, by kernel_rfl, by kernel_rfl⟩
instance : GoFn Tryz.prog 73 := ⟨_, Tryz.func73, by kernel_rfl, by kernel_rfl⟩
instance : GoFn Tryz.prog 74 := ⟨_, Tryz.func74, by kernel_rfl, by kernel_rfl⟩
instance : GoFn Tryz.prog 75 := ⟨_, Tryz.func75, by kernel_rfl, by kernel_rfl⟩
instance : GoFn Tryz.prog 76 := ⟨_, Tryz.func76, by kernel_rfl, by kernel_rfl⟩
instance : GoFn Tryz.prog 77 := ⟨_, Tryz.func77, by kernel_rfl, by kernel_rfl⟩
instance : GoFn Tryz.prog 78 := ⟨_, Tryz.func78, by kernel_rfl, by kernel_rfl⟩
instance : GoFn Tryz.prog 79 := ⟨_, Tryz.func79, by kernel_rfl, by kernel_rfl⟩
instance : GoFn Tryz.prog 80 := ⟨_, Tryz.func80, by kernel_rfl, by kernel_rfl⟩
instance : GoFn Tryz.prog 81 := ⟨_, Tryz.func81, by kernel_rfl, by kernel_rfl⟩
instance : GoFn Tryz.prog 82 := ⟨_, Tryz.func82, by kernel_rfl, by kernel_rfl⟩
instance : GoFn Tryz.prog 83 := ⟨_, Tryz.func83, by kernel_rfl, by kernel_rfl⟩
instance : GoFn Tryz.prog 84 := ⟨_, Tryz.func84, by kernel_rfl, by kernel_rfl⟩
instance : GoFn Tryz.prog 85 := ⟨_, Tryz.func85, by kernel_rfl, by kernel_rfl⟩
instance : GoFn Tryz.prog 86 := ⟨_, Tryz.func86, by kernel_rfl, by kernel_rfl⟩
instance : GoFn Tryz.prog 87 := ⟨_, Tryz.func87, by kernel_rfl, by kernel_rfl⟩
instance : GoFn Tryz.prog 88 := ⟨_, Tryz.func88, by kernel_rfl, by kernel_rfl⟩
instance : GoFn Tryz.prog 89 := ⟨_, Tryz.func89, by kernel_rfl, by kernel_rfl⟩
instance : GoFn Tryz.prog 90 := ⟨_, Tryz.func90, by kernel_rfl, by kernel_rfl⟩
instance : GoFn Tryz.prog 91 := ⟨_, Tryz.func91, by kernel_rfl, by kernel_rfl⟩
instance : GoFn Tryz.prog 92 := ⟨_, Tryz.func92, by kernel_rfl, by kernel_rfl⟩
instance : GoFn Tryz.prog 93 := ⟨_, Tryz.func93, by kernel_rfl, by kernel_rfl⟩
instance : GoFn Tryz.prog 94 := ⟨_, Tryz.func94, by kernel_rfl, by kernel_rfl⟩
instance : GoFn Tryz.prog 95 := ⟨_, Tryz.func95, by kernel_rfl, by kernel_rfl⟩
instance : GoFn Tryz.prog 96 := ⟨_, Tryz.func96, by kernel_rfl, by kernel_rfl⟩
instance : GoFn Tryz.prog 97 := ⟨_, Tryz.func97, by kernel_rfl, by kernel_rfl⟩
instance : GoFn Tryz.prog 98 := ⟨_, Tryz.func98, by kernel_rfl, by kernel_rfl⟩
instance : GoFn Tryz.prog 99 := ⟨_, Tryz.func99, by kernel_rfl, by kernel_rfl⟩
instance : GoFn Tryz.prog 100 := ⟨_, Tryz.func100, by kernel_rfl, by kernel_rfl⟩
instance : GoFn Tryz.prog 101 := ⟨_, Tryz.func101, by kernel_rfl, by kernel_rfl⟩
instance : GoFn Tryz.prog 102 := ⟨_, Tryz.func102, by kernel_rfl, by kernel_rfl⟩
instance : GoFn Tryz.prog 103 := ⟨_, Tryz.func103, by kernel_rfl, by kernel_rfl⟩
instance : GoFn Tryz.prog 104 := ⟨_, Tryz.func104, by kernel_rfl, by kernel_rfl⟩
instance : GoFn Tryz.prog 105 := ⟨_, Tryz.func105, by kernel_rfl, by kernel_rfl⟩
instance : GoFn Tryz.prog 106 := ⟨_, Tryz.func106, by kernel_rfl, by kernel_rfl⟩
instance : GoFn Tryz.prog 107 := ⟨_, Tryz.func107, by kernel_rfl, by kernel_rfl⟩
instance : GoFn Tryz.prog 108 := ⟨_, Tryz.func108, by kernel_rfl, by kernel_rfl⟩
instance : GoFn Tryz.prog 109 := ⟨_, Tryz.func109, by kernel_rfl, by kernel_rfl⟩
instance : GoFn Tryz.prog 110 := ⟨_, Tryz.func110, by kernel_rfl, by kernel_rfl⟩
instance : GoFn Tryz.prog 111 := ⟨_, Tryz.func111, by kernel_rfl, by kernel_rfl⟩
instance : GoFn Tryz.prog 112 := ⟨_, Tryz.func112, by kernel_rfl, by kernel_rfl⟩
instance : GoFn Tryz.prog 113 := ⟨_, Tryz.func113, by kernel_rfl, by kernel_rfl⟩
instance : GoFn Tryz.prog 114 := ⟨_, Tryz.func114, by kernel_rfl, by kernel_rfl⟩
instance : GoFn Tryz.prog 115 := ⟨_, Tryz.func115, by kernel_rfl, by kernel_rfl⟩
instance : GoFn Tryz.prog 116 := ⟨_, Tryz.func116, by kernel_rfl, by kernel_rfl⟩
instance : GoFn Tryz.prog 117 := ⟨_, Tryz.func117, by kernel_rfl, by kernel_rfl⟩
instance : GoFn Tryz.prog 118 := ⟨_, Tryz.func118, by kernel_rfl, by kernel_rfl⟩
instance : GoFn Tryz.prog 119 := ⟨_, Tryz.func119, by kernel_rfl, by kernel_rfl⟩
instance : GoFn Tryz.prog 120 := ⟨_, Tryz.func120, by kernel_rfl, by kernel_rfl⟩
instance : GoFn Tryz.prog 121 := ⟨_, Tryz.func121, by kernel_rfl, by kernel_rfl⟩
instance : GoFn Tryz.prog 122 := ⟨_, Tryz.func122, by kernel_rfl, by kernel_rfl⟩
instance : GoFn Tryz.prog 123 := ⟨_, Tryz.func123, by kernel_rfl, by kernel_rfl⟩
instance : GoFn Tryz.prog 124 := ⟨_, Tryz.func124, by kernel_rfl, by kernel_rfl⟩
instance : GoFn Tryz.prog 125 := ⟨_, Tryz.func125, by kernel_rfl, by kernel_rfl⟩
instance : GoFn Tryz.prog 126 := ⟨_, Tryz.func126, by kernel_rfl, by kernel_rfl⟩
end Go.Sp
/-
  General lemmas, picked out of other parts by pick.py.
-/
namespace Go.Sp
open Go Go.Proofs
abbrev vi (n : Int) : Value := .int .i64 n
/-- A slice that reads as integers. -/
def RdI (w : World) (sl : Value) (xs : List Int) : Prop := Reads w sl 1 xs.length (xs.map vi)
theorem RdI.fr {w w' : World} {sl : Value} {xs : List Int} (h : RdI w sl xs) (f : Fr [] w w') : RdI w' sl xs := by
  obtain ⟨h1, ad, cap, h2, h3⟩ := h
  refine ⟨h1, ad, cap, h2, fun hn => ?_⟩
  obtain ⟨b, o, h4, h5⟩ := h3 hn
  refine ⟨b, o, h4, ?_⟩
  clear h1 h2 h3 h4 hn
  generalize xs.map vi = vs at h5
  generalize xs.length * 1 = n at h5
  induction h5 with
  | nil => exact .nil
  | cons hv _ ih => exact .cons (f.cell (p := ⟨b, _, none⟩) (by simp) hv) ih
theorem CA.get {f : Nat → Option Value} {o n : Nat} {vs : List Value} (h : CA f o n vs) : ∀ (i : Nat) (v : Value), vs[i]? = some v → f (o + i) = some v := by
  induction h with
  | nil => intro i v hv; simp at hv
  | @cons o n v vs hv _ ih =>
    intro i u hu
    cases i with
    | zero => simp at hu; subst hu; exact hv
    | succ i => have := ih i u (by simpa using hu); rw [← this]; congr 1; omega
/-- A slice of integers, laid open. -/
theorem RdI.open {w : World} {sl : Value} {xs : List Int} (h : RdI w sl xs) : ∃ ad cap b o, sl = .slice ad xs.length cap ∧ (0 < xs.length → ad = some ⟨b, o, none⟩) ∧ ∀ w', Fr [] w w' → ∀ i, i < xs.length → w'.cell? ⟨b, o + i, none⟩ = some (vi (xs.getD i 0)) := by
  by_cases hn : xs.length = 0
  · obtain ⟨_, ad, cap, h2, _⟩ := h
    exact ⟨ad, cap, 0, 0, h2, fun h => by omega, fun _ _ i hi => by omega⟩
  · have h' := h
    obtain ⟨_, ad, cap, h2, h3⟩ := h
    obtain ⟨b, o, h4, h5⟩ := h3 hn
    refine ⟨ad, cap, b, o, h2, fun _ => h4, fun w' f i hi => ?_⟩
    obtain ⟨_, ad', cap', h2', h3'⟩ := h'.fr f
    obtain ⟨b', o', h4', h5'⟩ := h3' hn
    have e : ad' = ad := by rw [h2] at h2'; injection h2' with e1 e2 e3; exact e1.symm
    rw [e, h4] at h4'
    injection h4' with e1
    injection e1 with e2 e3
    subst e2; subst e3
    refine h5'.get i _ ?_
    rw [List.getElem?_map, List.getElem?_eq_getElem hi, List.getD_eq_getElem?_getD, List.getElem?_eq_getElem hi]
    rfl
/-- The minimum of two. -/
theorem min_c (a b : Int) (sl : Value) (w : World) (hr : RdI w sl [a, b]) : CnV Tryz.prog 112 #[sl] w (vi (min a b)) := by
  obtain ⟨ad, cap, b0, o, rfl, had, hcell⟩ := hr.open
  have had' := had (by simp)
  refine cnv (vs := [_]) Tryz.func112 rfl rfl ?_
  all_goals refine tc_seq fun K1 hK1 => ?_
  all_goals refine tc_region ?_
  all_goals refine tl_q (y_assign rfl) rfl ?_
  all_goals refine tl_nil ?_
  all_goals (refine hK1 ?_; try (clear hK1; clear K1))
  all_goals refine tc_seq fun K2 hK2 => ?_
  all_goals refine tc_seq fun K3 hK3 => ?_
  have hl2 : ([a, b].length : Int) = 2 := rfl
  all_goals refine tc_region ?_
  all_goals refine tl_q (y_move rfl) rfl ?_
  all_goals refine tl_q (y_len rfl) rfl ?_
  all_goals refine tl_q (y_lss rfl rfl) rfl ?_
  all_goals refine tl_nil ?_
  all_goals (refine hK3 ?_; try (clear hK3; clear K3))
  all_goals (
   refine tc_cond rfl (fun hc => ?_) (fun hc => ?_)
   · try simp only [qn1, qn2, qn3, qn4, qn5, qn6, qn7, qn8] at hc
     all_goals first | (exfalso; with_reducible exact bft hc) | (exfalso; with_reducible exact btf hc) | (exfalso; omega) | skip
     all_goals (exfalso; first | omega | simp_all | contradiction)
   · try simp only [qn1, qn2, qn3, qn4, qn5, qn6, qn7, qn8] at hc
     all_goals first | (exfalso; with_reducible exact bft hc) | (exfalso; with_reducible exact btf hc) | (exfalso; omega) | skip
     all_goals refine tc_skip ?_
     all_goals (refine hK2 ?_; try (clear hK2; clear K2))
     all_goals refine tc_seq fun K4 hK4 => ?_
     all_goals refine tc_region ?_
     all_goals refine tl_q (y_move rfl) rfl ?_
     all_goals (first | refine tl_q (y_index rfl rfl (by omega) had') rfl ?_ | refine tl_q (y_index rfl rfl (by omega) rfl) rfl ?_ | refine tl_q (y_indexA rfl rfl (by omega)) rfl ?_)
     all_goals (first | refine tl_q (y_load1 rfl (by repeat constructor) (by rfl)) rfl ?_ | refine tl_q (y_load1o rfl (fun w' hw' => hcell w' (hw'.fr (by simp)) _ (by decide))) rfl ?_ | refine tl_q (y_load1o rfl (fun w' hw' => hcell w' (hw'.fr (by simp)) _ (by omega))) rfl ?_)
     all_goals refine tl_q (y_assign rfl) rfl ?_
     all_goals refine tl_nil ?_
     all_goals (refine hK4 ?_; try (clear hK4; clear K4))
     all_goals refine tc_seq fun K5 hK5 => ?_
     all_goals refine tc_seq fun K6 hK6 => ?_
     all_goals refine tc_region ?_
     all_goals refine tl_q (y_assign rfl) rfl ?_
     all_goals refine tl_nil ?_
     all_goals (refine hK6 ?_; try (clear hK6; clear K6))
     all_goals refine tc_block ?_
     all_goals (
      refine tc_loop (fun p : Int × Int => (p.1 = a ∧ p.2 = 1) ∨ (p.1 = min a b ∧ p.2 = 2)) (fun p => [(0, .slice ad [a, b].length cap), (3, vi p.1), (4, vi p.2)]) (fun _ => [(w, [])]) (fun _ => []) (fun p => (2 - p.2).toNat) ?_ ?_
      · exact tk_start (a, 1) (.inl ⟨rfl, rfl⟩) (.cons rfl (.cons rfl (.cons rfl .nil))) (fun _ h => h)
      · rintro ⟨m, i⟩ hI
        dsimp only at hI ⊢
        all_goals refine tc_seq fun K7 hK7 => ?_
        all_goals refine tc_seq fun K8 hK8 => ?_
        all_goals refine tc_region ?_
        all_goals refine tl_q (y_move rfl) rfl ?_
        all_goals refine tl_q (y_move rfl) rfl ?_
        all_goals refine tl_q (y_len rfl) rfl ?_
        all_goals refine tl_q (y_lss rfl rfl) rfl ?_
        all_goals refine tl_nil ?_
        all_goals (refine hK8 ?_; try (clear hK8; clear K8))
        all_goals (
         refine tc_cond rfl (fun hc => ?_) (fun hc => ?_)
         · try simp only [qn1, qn2, qn3, qn4, qn5, qn6, qn7, qn8] at hc
           all_goals first | (exfalso; with_reducible exact bft hc) | (exfalso; with_reducible exact btf hc) | (exfalso; omega) | skip
           all_goals refine tc_skip ?_
           all_goals (refine hK7 ?_; try (clear hK7; clear K7))
           all_goals refine tc_seq fun K9 hK9 => ?_
           all_goals refine tc_block ?_
           all_goals refine tc_region ?_
           all_goals refine tl_q (y_move rfl) rfl ?_
           all_goals refine tl_q (y_move rfl) rfl ?_
           all_goals refine tl_q (y_move rfl) rfl ?_
           all_goals (first | refine tl_q (y_index rfl rfl (by omega) had') rfl ?_ | refine tl_q (y_index rfl rfl (by omega) rfl) rfl ?_ | refine tl_q (y_indexA rfl rfl (by omega)) rfl ?_)
           all_goals (first | refine tl_q (y_load1 rfl (by repeat constructor) (by rfl)) rfl ?_ | refine tl_q (y_load1o rfl (fun w' hw' => hcell w' (hw'.fr (by simp)) _ (by decide))) rfl ?_ | refine tl_q (y_load1o rfl (fun w' hw' => hcell w' (hw'.fr (by simp)) _ (by omega))) rfl ?_)
           all_goals refine tl_q (y_min rfl rfl) rfl ?_
           all_goals refine tl_q (y_assign rfl) rfl ?_
           all_goals refine tl_nil ?_
           all_goals (refine hK9 ?_; try (clear hK9; clear K9))
           all_goals refine tc_region ?_
           all_goals refine tl_q (y_move rfl) rfl ?_
           all_goals refine tl_q (y_add rfl rfl (by omega)) rfl ?_
           all_goals refine tl_q (y_assign rfl) rfl ?_
           all_goals refine tl_nil ?_
           all_goals (
            obtain ⟨rfl, rfl⟩ : m = a ∧ i = 1 := by omega
            exact tk_round (min m b, 2) (.inr ⟨rfl, rfl⟩) (by simp) (.cons rfl (.cons rfl (.cons rfl .nil))) (fun _ h => h))
         · try simp only [qn1, qn2, qn3, qn4, qn5, qn6, qn7, qn8] at hc
           all_goals first | (exfalso; with_reducible exact bft hc) | (exfalso; with_reducible exact btf hc) | (exfalso; omega) | skip
           all_goals refine tc_exit ?_
           all_goals (refine hK5 ?_; try (clear hK5; clear K5))
           all_goals refine tc_seq fun K10 hK10 => ?_
           all_goals refine tc_region ?_
           all_goals refine tl_q (y_move rfl) rfl ?_
           all_goals refine tl_q (y_assign rfl) rfl ?_
           all_goals refine tl_nil ?_
           all_goals (refine hK10 ?_; try (clear hK10; clear K10))
           all_goals refine tc_ret ?_
           all_goals (repeat (first | refine tk_then_ret ?_ | refine tk_block_ret ?_ | refine tk_scope_ret ?_))
           all_goals first | refine tk_ret rfl rfl (.cons (.tmp rfl) .nil) ?_ | refine tk_retM rfl (by repeat constructor) rfl (.cons (.tmp rfl) .nil) ?_
           all_goals (
            have hm : m = min a b := by omega
            exact fun w' hw' => ⟨by rw [hm]; rfl, hw'.fr (by simp)⟩))))
theorem RdI.own {bs : List (World × List Nat)} {H : List (Nat × Obj)} {w : World} {b : Nat} {xs : List Int} {e : TypeId} {f : Nat × Nat} {cap : Nat} {junk : List Value} (hw : HG bs H w) (hm : HM b (.cells (xs.map vi ++ junk).toArray e f) H) : RdI w (.slice (some ⟨b, 0, none⟩) xs.length cap) xs := by
  refine ⟨by simp, _, _, rfl, fun _ => ⟨b, 0, rfl, ?_⟩⟩
  have := CA_pre (xs.map vi) junk e f
  rw [List.length_map] at this
  rw [Nat.mul_one]
  exact this.cells (hw.heap _ hm.mem)
theorem RdI.own0 {bs : List (World × List Nat)} {H : List (Nat × Obj)} {w : World} {b : Nat} {xs : List Int} {e : TypeId} {f : Nat × Nat} {cap : Nat} (hw : HG bs H w) (hm : HM b (.cells (xs.map vi).toArray e f) H) : RdI w (.slice (some ⟨b, 0, none⟩) xs.length cap) xs :=
  RdI.own (junk := []) hw (by rw [List.append_nil]; exact hm)
def idxF (xs : List Int) (p : Int → Bool) : Int := if xs.any p then (xs.findIdx p : Int) else -1
theorem idxF_hit {xs : List Int} {p : Int → Bool} {k : Nat} (hk : k < xs.length) (hp : p (xs.getD k 0) = true) (hn : ∀ j, j < k → p (xs.getD j 0) = false) : idxF xs p = k := by
  rw [List.getD_eq_getElem?_getD, List.getElem?_eq_getElem hk] at hp
  simp only [Option.getD_some] at hp
  have h1 : xs.any p = true := List.any_eq_true.2 ⟨_, List.getElem_mem hk, hp⟩
  unfold idxF
  rw [if_pos h1]
  have : xs.findIdx p = k := by
    apply (List.findIdx_eq hk).2
    refine ⟨hp, fun j hj => ?_⟩
    have := hn j hj
    rw [List.getD_eq_getElem?_getD, List.getElem?_eq_getElem (Nat.lt_trans hj hk)] at this
    simpa using this
  rw [this]
theorem idxF_miss {xs : List Int} {p : Int → Bool} (hn : ∀ j, j < xs.length → p (xs.getD j 0) = false) : idxF xs p = -1 := by
  unfold idxF
  rw [if_neg]
  intro h
  obtain ⟨x, hx, hp⟩ := List.any_eq_true.1 h
  obtain ⟨j, hj, rfl⟩ := List.getElem_of_mem hx
  have := hn j hj
  rw [List.getD_eq_getElem?_getD, List.getElem?_eq_getElem hj] at this
  simp only [Option.getD_some] at this
  rw [this] at hp; cases hp
theorem idxF_any (xs : List Int) (p : Int → Bool) : decide (0 ≤ idxF xs p) = xs.any p := by
  unfold idxF
  cases h : xs.any p
  · simp
  · simp
abbrev rV (r : Int × Int) : Value := .agg #[vi r.1, vi r.2]
abbrev ptr (b : Nat) : Value := .pointer (some ⟨b, 0, none⟩)
theorem RdI.frM {w w' : World} {sl : Value} {xs : List Int} {bm : Nat} {es : Array MapEntry} {ck : Nat} {S : List Nat} (h : RdI w sl xs) (f : Fr S w w') (hS : ∀ x ∈ S, ∃ es ck, w.heap[x]? = some (.map es ck)) : RdI w' sl xs := by
  obtain ⟨h1, ad, cap, h2, h3⟩ := h
  refine ⟨h1, ad, cap, h2, fun hn => ?_⟩
  obtain ⟨b, o, h4, h5⟩ := h3 hn
  refine ⟨b, o, h4, ?_⟩
  clear h1 h2 h3 h4 hn
  generalize xs.map vi = vs at h5
  generalize xs.length * 1 = n at h5
  induction h5 with
  | nil => exact .nil
  | @cons o n v vs hv _ ih =>
    refine .cons (f.cell (p := ⟨b, o, none⟩) (fun hb => ?_) hv) ih
    obtain ⟨es, ck, he⟩ := hS b hb
    simp [World.cell?, he] at hv
theorem RdI.one {w : World} {sl : Value} {xs : List Int} (h : RdI w sl xs) : sl.oneCell' = true := by obtain ⟨_, ad, cap, rfl, _⟩ := h; rfl
def flatR (l : List (Int × Int)) : List Value := l.flatMap fun r => [vi r.1, vi r.2]
/-- A slice that reads as readings. -/
def RdR (w : World) (v : Value) (l : List (Int × Int)) : Prop := Reads w v 2 l.length (flatR l)
theorem Reads.frS {w w' : World} {v : Value} {sz n : Nat} {vs : List Value} {S : List Nat} (h : Reads w v sz n vs) (f : Fr S w w') (hS : ∀ p m c, v = .slice (some p) m c → p.block ∉ S) : Reads w' v sz n vs := by
  obtain ⟨h1, ad, cap, h2, h3⟩ := h
  refine ⟨h1, ad, cap, h2, fun hn => ?_⟩
  obtain ⟨b, o, h4, h5⟩ := h3 hn
  refine ⟨b, o, h4, ?_⟩
  have hb : b ∉ S := hS ⟨b, o, none⟩ n cap (by rw [h2, h4])
  clear h1 h2 h3 h4 hn
  generalize n * sz = q at h5
  induction h5 with
  | nil => exact .nil
  | cons hv _ ih => exact .cons (f.cell (p := ⟨b, _, none⟩) hb hv) ih
theorem RdR.fr {w w' : World} {v : Value} {l : List (Int × Int)} (h : RdR w v l) (f : Fr [] w w') : RdR w' v l := Reads.frS h f (by simp)
theorem RdR.one {w : World} {v : Value} {l : List (Int × Int)} (h : RdR w v l) : v.oneCell' = true := by obtain ⟨_, ad, cap, rfl, _⟩ := h; rfl
theorem index_c (xs : List Int) (hx : (xs.length : Int) ≤ 9000000000000000000) (v : Int) (sl : Value) (w : World) (hr : RdI w sl xs) : CnV Tryz.prog 52 #[sl, vi v] w (vi (idxF xs (fun x => decide (v = x)))) := by
  obtain ⟨ad, cp, b0, o, rfl, had, hcell⟩ := hr.open
  refine cnv (vs := [_, _]) Tryz.func52 rfl rfl ?_
  all_goals refine tc_seq fun K1 hK1 => ?_
  all_goals refine tc_region ?_
  all_goals refine tl_q (y_assign rfl) rfl ?_
  all_goals refine tl_nil ?_
  all_goals (refine hK1 ?_; try (clear hK1; clear K1))
  all_goals refine tc_seq fun K2 hK2 => ?_
  all_goals refine tc_seq fun K3 hK3 => ?_
  all_goals refine tc_region ?_
  all_goals refine tl_q (y_move rfl) rfl ?_
  all_goals refine tl_q (y_len rfl) rfl ?_
  all_goals refine tl_q (y_move rfl) rfl ?_
  all_goals refine tl_nil ?_
  all_goals (refine hK3 ?_; try (clear hK3; clear K3))
  all_goals refine tc_block ?_
  all_goals (
   refine tc_loop (fun k : Nat => k ≤ xs.length ∧ ∀ j, j < k → decide (v = xs.getD j 0) = false) (fun k => [(0, .slice ad xs.length cp), (1, vi v), (7, vi xs.length), (8, vi k)]) (fun _ => [(w, [])]) (fun _ => []) (fun k => xs.length - k) ?_ ?_
   · exact tk_start 0 ⟨Nat.zero_le _, fun j hj => absurd hj (Nat.not_lt_zero j)⟩ (.cons rfl (.cons rfl (.cons rfl (.cons rfl .nil)))) (fun _ h => h)
   · rintro k ⟨hk, hj⟩
     all_goals refine tc_seq fun K4 hK4 => ?_
     all_goals refine tc_region ?_
     all_goals refine tl_q (y_lss rfl rfl) rfl ?_
     all_goals refine tl_nil ?_
     all_goals (refine hK4 ?_; try (clear hK4; clear K4))
     all_goals refine tc_seq fun K5 hK5 => ?_
     all_goals (
      refine tc_cond rfl (fun hc => ?_) (fun hc => ?_)
      · try simp only [qn1, qn2, qn3, qn4, qn5, qn6, qn7, qn8] at hc
        all_goals first | (exfalso; with_reducible exact bft hc) | (exfalso; with_reducible exact btf hc) | (exfalso; omega) | skip
        all_goals refine tc_skip ?_
        all_goals (refine hK5 ?_; try (clear hK5; clear K5))
        all_goals refine tc_seq fun K6 hK6 => ?_
        all_goals refine tc_block ?_
        all_goals refine tc_seq fun K7 hK7 => ?_
        all_goals refine tc_region ?_
        all_goals refine tl_q (y_move rfl) rfl ?_
        all_goals refine tl_q (y_assign rfl) rfl ?_
        all_goals refine tl_nil ?_
        all_goals (refine hK7 ?_; try (clear hK7; clear K7))
        all_goals refine tc_seq fun K8 hK8 => ?_
        have had' := had (by omega)
        all_goals refine tc_region ?_
        all_goals refine tl_q (y_move rfl) rfl ?_
        all_goals refine tl_q (y_move rfl) rfl ?_
        all_goals refine tl_q (y_move rfl) rfl ?_
        all_goals (first | refine tl_q (y_index rfl rfl (by omega) had') rfl ?_ | refine tl_q (y_index rfl rfl (by omega) rfl) rfl ?_ | refine tl_q (y_indexA rfl rfl (by omega)) rfl ?_)
        all_goals (first | refine tl_q (y_load1 rfl (by repeat constructor) (by rfl)) rfl ?_ | refine tl_q (y_load1o rfl (fun w' hw' => hcell w' (hw'.fr (by simp)) (Int.toNat k * 1) (by omega))) rfl ?_)
        all_goals refine tl_q (y_eql rfl rfl) rfl ?_
        all_goals refine tl_nil ?_
        all_goals (refine hK8 ?_; try (clear hK8; clear K8))
        all_goals (
         refine tc_cond rfl (fun hc => ?_) (fun hc => ?_)
         · try simp only [qn1, qn2, qn3, qn4, qn5, qn6, qn7, qn8] at hc
           all_goals first | (exfalso; with_reducible exact bft hc) | (exfalso; with_reducible exact btf hc) | (exfalso; omega) | skip
           all_goals refine tc_seq fun K9 hK9 => ?_
           all_goals refine tc_region ?_
           all_goals refine tl_q (y_move rfl) rfl ?_
           all_goals refine tl_q (y_assign rfl) rfl ?_
           all_goals refine tl_nil ?_
           all_goals (refine hK9 ?_; try (clear hK9; clear K9))
           all_goals refine tc_ret ?_
           all_goals (repeat (first | refine tk_then_ret ?_ | refine tk_block_ret ?_ | refine tk_scope_ret ?_))
           all_goals first | refine tk_ret rfl rfl (.cons (.tmp rfl) .nil) ?_ | refine tk_retM rfl (by repeat constructor) rfl (.cons (.tmp rfl) .nil) ?_
           all_goals (
            first | exact fun w' hw' => ⟨by rw [idxF_hit (k := k) (by omega) (by simpa using hc) hj]; rfl, hw'.fr (by simp)⟩ | exact fun w' hw' => ⟨by rw [idxF_miss (fun j hjj => hj j (by omega))]; rfl, hw'.fr (by simp)⟩)
         · try simp only [qn1, qn2, qn3, qn4, qn5, qn6, qn7, qn8] at hc
           all_goals first | (exfalso; with_reducible exact bft hc) | (exfalso; with_reducible exact btf hc) | (exfalso; omega) | skip
           all_goals refine tc_skip ?_
           all_goals (refine hK6 ?_; try (clear hK6; clear K6))
           all_goals refine tc_region ?_
           all_goals refine tl_q (y_add rfl rfl (by omega)) rfl ?_
           all_goals refine tl_q (y_move rfl) rfl ?_
           all_goals refine tl_nil ?_
           all_goals (
            exact tk_round (k + 1) ⟨by omega, fun j hj' => by rcases Nat.lt_succ_iff_lt_or_eq.1 hj' with h | rfl; exact hj j h; simpa using hc⟩ (by omega) (.cons rfl (.cons rfl (.cons rfl (.cons rfl .nil)))) (fun _ h => h)))
      · try simp only [qn1, qn2, qn3, qn4, qn5, qn6, qn7, qn8] at hc
        all_goals first | (exfalso; with_reducible exact bft hc) | (exfalso; with_reducible exact btf hc) | (exfalso; omega) | skip
        all_goals refine tc_exit ?_
        all_goals (refine hK2 ?_; try (clear hK2; clear K2))
        all_goals refine tc_seq fun K10 hK10 => ?_
        all_goals refine tc_region ?_
        all_goals refine tl_q (y_assign rfl) rfl ?_
        all_goals refine tl_nil ?_
        all_goals (refine hK10 ?_; try (clear hK10; clear K10))
        all_goals refine tc_ret ?_
        all_goals (repeat (first | refine tk_then_ret ?_ | refine tk_block_ret ?_ | refine tk_scope_ret ?_))
        all_goals first | refine tk_ret rfl rfl (.cons (.tmp rfl) .nil) ?_ | refine tk_retM rfl (by repeat constructor) rfl (.cons (.tmp rfl) .nil) ?_
        all_goals (
         first | exact fun w' hw' => ⟨by rw [idxF_hit (k := k) (by omega) (by simpa using hc) hj]; rfl, hw'.fr (by simp)⟩ | exact fun w' hw' => ⟨by rw [idxF_miss (fun j hjj => hj j (by omega))]; rfl, hw'.fr (by simp)⟩)))
theorem contains_c (xs : List Int) (hx : (xs.length : Int) ≤ 9000000000000000000) (v : Int) (sl : Value) (w : World) (hr : RdI w sl xs) : CnV Tryz.prog 34 #[sl, vi v] w (.bool (decide (v ∈ xs))) := by
  refine cnv (vs := [_, _]) Tryz.func34 rfl rfl ?_
  all_goals refine tc_seq fun K1 hK1 => ?_
  all_goals refine tc_region ?_
  all_goals refine tl_q (y_assign rfl) rfl ?_
  all_goals refine tl_nil ?_
  all_goals (refine hK1 ?_; try (clear hK1; clear K1))
  all_goals refine tc_seq fun K2 hK2 => ?_
  all_goals refine tc_region ?_
  all_goals refine tl_q (y_move rfl) rfl ?_
  all_goals refine tl_q (y_move rfl) rfl ?_
  all_goals refine tl_e (e_callV rfl (.cons rfl (.cons rfl .nil)) (fun w' hw' => index_c xs hx v _ w' (hr.fr (hw'.fr (by simp))))) rfl (fun _ _ => ?_)
  all_goals refine tl_q (y_geq rfl rfl) rfl ?_
  all_goals refine tl_q (y_assign rfl) rfl ?_
  all_goals refine tl_nil ?_
  all_goals (refine hK2 ?_; try (clear hK2; clear K2))
  all_goals refine tc_ret ?_
  all_goals (repeat (first | refine tk_then_ret ?_ | refine tk_block_ret ?_ | refine tk_scope_ret ?_))
  all_goals first | refine tk_ret rfl rfl (.cons (.tmp rfl) .nil) ?_ | refine tk_retM rfl (by repeat constructor) rfl (.cons (.tmp rfl) .nil) ?_
  all_goals (
   exact fun w' hw' => ⟨by simp only [outV, idxF_any]; congr 2; rw [Bool.eq_iff_iff]; simp, hw'.fr (by simp)⟩)
def sepS (v : Value) (S : List Nat) : Prop := ∀ p m c, v = .slice (some p) m c → p.block ∉ S
/-- A slice of the call's own: nil, or at the head of a block that is known whole. -/
theorem clone_nil (w : World) : CnV Tryz.prog 66 #[.slice none 0 0] w (.slice none 0 0) := by
  refine cnv (vs := [_]) Tryz.func66 rfl rfl ?_
  all_goals refine tc_seq fun K1 hK1 => ?_
  all_goals refine tc_region ?_
  all_goals refine tl_q (y_assign rfl) rfl ?_
  all_goals refine tl_nil ?_
  all_goals (refine hK1 ?_; try (clear hK1; clear K1))
  all_goals refine tc_seq fun K2 hK2 => ?_
  all_goals refine tc_seq fun K3 hK3 => ?_
  all_goals refine tc_region ?_
  all_goals refine tl_q (y_move rfl) rfl ?_
  all_goals refine tl_q (y_eql_nil rfl rfl) rfl ?_
  all_goals refine tl_nil ?_
  all_goals (refine hK3 ?_; try (clear hK3; clear K3))
  all_goals (
   refine tc_cond rfl (fun hc => ?_) (fun hc => ?_)
   · try simp only [qn1, qn2, qn3, qn4, qn5, qn6, qn7, qn8] at hc
     all_goals first | (exfalso; with_reducible exact bft hc) | (exfalso; with_reducible exact btf hc) | (exfalso; omega) | skip
     all_goals refine tc_seq fun K4 hK4 => ?_
     all_goals refine tc_region ?_
     all_goals refine tl_q (y_assign rfl) rfl ?_
     all_goals refine tl_nil ?_
     all_goals (refine hK4 ?_; try (clear hK4; clear K4))
     all_goals refine tc_ret ?_
     all_goals (repeat (first | refine tk_then_ret ?_ | refine tk_block_ret ?_ | refine tk_scope_ret ?_))
     all_goals first | refine tk_ret rfl rfl (.cons (.tmp rfl) .nil) ?_ | refine tk_retM rfl (by repeat constructor) rfl (.cons (.tmp rfl) .nil) ?_
     all_goals (
      exact fun w' hw' => ⟨rfl, hw'.fr (by simp)⟩)
   · try simp only [qn1, qn2, qn3, qn4, qn5, qn6, qn7, qn8] at hc
     all_goals first | (exfalso; with_reducible exact bft hc) | (exfalso; with_reducible exact btf hc) | (exfalso; omega) | skip
     all_goals refine tc_skip ?_
     all_goals (refine hK2 ?_; try (clear hK2; clear K2))
     all_goals refine tc_seq fun K5 hK5 => ?_
     all_goals refine tc_region ?_
     all_goals refine tl_e (e_bslice rfl (by (repeat (first | exact .nil | apply PV.one rfl rfl | apply PV.two rfl)); done) rfl rfl) rfl (fun _ _ => ?_)
     all_goals refine tl_q (y_move rfl) rfl ?_
     all_goals (exfalso; simp at hc)
     skip
     all_goals refine tl_nil ?_
     all_goals skip
     all_goals (refine hK5 ?_; try (clear hK5; clear K5))
     all_goals refine tc_ret ?_
     all_goals (repeat (first | refine tk_then_ret ?_ | refine tk_block_ret ?_ | refine tk_scope_ret ?_))
     all_goals first | refine tk_ret rfl rfl (.cons (.tmp rfl) .nil) ?_ | refine tk_retM rfl (by repeat constructor) rfl (.cons (.tmp rfl) .nil) ?_
     all_goals (
      exact fun w' hw' => ⟨rfl, hw'.fr (by simp)⟩))
theorem clone_own (b cap : Nat) (xs : List Int) (hx : xs.length ≤ 1000) (w : World) (hr : RdI w (.slice (some ⟨b, 0, none⟩) xs.length cap) xs) :
    CnX Tryz.prog 66 #[.slice (some ⟨b, 0, none⟩) xs.length cap] w [] (fun r : Nat × Nat × List Value => .slice (some ⟨r.1, 0, none⟩) xs.length r.2.1)
      (fun r w' => (xs.length ≤ r.2.1 ∧ r.2.2.length = r.2.1 - xs.length) ∧ w.heap.size ≤ r.1 ∧ w'.heap[r.1]? = some (.cells (xs.map vi ++ r.2.2).toArray 3 (0, 0))) := by
  refine cnx0 (vs := [_]) Tryz.func66 rfl rfl ?_
  all_goals refine tc_seq fun K1 hK1 => ?_
  all_goals refine tc_region ?_
  all_goals refine tl_q (y_assign rfl) rfl ?_
  all_goals refine tl_nil ?_
  all_goals (refine hK1 ?_; try (clear hK1; clear K1))
  all_goals refine tc_seq fun K2 hK2 => ?_
  all_goals refine tc_seq fun K3 hK3 => ?_
  all_goals refine tc_region ?_
  all_goals refine tl_q (y_move rfl) rfl ?_
  all_goals refine tl_q (y_eql_nil rfl rfl) rfl ?_
  all_goals refine tl_nil ?_
  all_goals (refine hK3 ?_; try (clear hK3; clear K3))
  all_goals (
   refine tc_cond rfl (fun hc => ?_) (fun hc => ?_)
   · try simp only [qn1, qn2, qn3, qn4, qn5, qn6, qn7, qn8] at hc
     all_goals first | (exfalso; with_reducible exact bft hc) | (exfalso; with_reducible exact btf hc) | (exfalso; omega) | (exfalso; exact Bool.noConfusion hc; done) | skip
     all_goals refine tc_seq fun K4 hK4 => ?_
     all_goals refine tc_region ?_
     all_goals refine tl_q (y_assign rfl) rfl ?_
     all_goals refine tl_nil ?_
     all_goals (refine hK4 ?_; try (clear hK4; clear K4))
     all_goals refine tc_ret ?_
     all_goals (repeat (first | refine tk_then_ret ?_ | refine tk_block_ret ?_ | refine tk_scope_ret ?_))
     all_goals first | refine tk_ret rfl rfl (.cons (.tmp rfl) .nil) ?_ | refine tk_retM rfl (by repeat constructor) rfl (.cons (.tmp rfl) .nil) ?_
     all_goals (
      refine fun w' hw' => ⟨r, by simp [outV], hw'.fr (by simp), ?_, ?_, ?_⟩
      · simpa using hq
      · exact (hw'.own _ (HM.mem (b := r.1) (by repeat constructor)) (w, []) (by simp)).resolve_left (by simp)
      · have := hw'.heap _ (HM.mem (b := r.1) (by repeat constructor))
        simpa using this)
   · try simp only [qn1, qn2, qn3, qn4, qn5, qn6, qn7, qn8] at hc
     all_goals first | (exfalso; with_reducible exact bft hc) | (exfalso; with_reducible exact btf hc) | (exfalso; omega) | (exfalso; exact Bool.noConfusion hc; done) | skip
     all_goals refine tc_skip ?_
     all_goals (refine hK2 ?_; try (clear hK2; clear K2))
     all_goals refine tc_seq fun K5 hK5 => ?_
     all_goals refine tc_region ?_
     all_goals refine tl_e (e_bslice rfl (by (repeat (first | exact .nil | apply PV.one rfl rfl | apply PV.two rfl)); done) rfl rfl) rfl (fun _ _ => ?_)
     all_goals refine tl_q (y_move rfl) rfl ?_
     all_goals refine tl_e (e_append_own (old := []) (junk := []) rfl rfl rfl (by repeat constructor) rfl rfl (Nat.le_refl 0) (fun w' hw' => hr.fr (hw'.fr (by simp))) (fun u hu => by obtain ⟨_, _, rfl⟩ := List.mem_map.1 hu; rfl) (by omega) rfl) rfl (fun r hq => ?_)
     all_goals refine tl_q (y_assign rfl) rfl ?_
     all_goals refine tl_nil ?_
     all_goals (refine hK5 ?_; try (clear hK5; clear K5))
     all_goals refine tc_ret ?_
     all_goals (repeat (first | refine tk_then_ret ?_ | refine tk_block_ret ?_ | refine tk_scope_ret ?_))
     all_goals first | refine tk_ret rfl rfl (.cons (.tmp rfl) .nil) ?_ | refine tk_retM rfl (by repeat constructor) rfl (.cons (.tmp rfl) .nil) ?_
     all_goals (
      refine fun w' hw' => ⟨r, by simp [outV], hw'.fr (by simp), ?_, ?_, ?_⟩
      · simpa using hq
      · exact (hw'.own _ (HM.mem (b := r.1) (by repeat constructor)) (w, []) (by simp)).resolve_left (by simp)
      · have := hw'.heap _ (HM.mem (b := r.1) (by repeat constructor))
        simpa using this))
theorem Fr.keepS {S : List Nat} {w w' : World} (h : Fr S w w') {b : Nat} {o : Obj} (hS : b ∉ S) (hb : w.heap[b]? = some o) : w'.heap[b]? = some o := by
  rw [h.block b (by rcases Nat.lt_or_ge b w.heap.size with h | h; exact h; rw [Array.getElem?_eq_none h] at hb; cases hb) hS]; exact hb
theorem Fr.keep {w w' : World} (h : Fr [] w w') {b : Nat} {o : Obj} (hb : w.heap[b]? = some o) : w'.heap[b]? = some o := h.keepS (by simp) hb
theorem RdI.frS {w w' : World} {sl : Value} {xs : List Int} {S : List Nat} (h : RdI w sl xs) (f : Fr S w w') (hS : sepS sl S) : RdI w' sl xs := Reads.frS h f hS
/-- A slice that holds l: nil, or at the head of a block beyond S. -/
def SlSt (w : World) (sl : Value) (l : List Int) (S : List Nat) : Prop :=
  (l = [] ∧ sl = .slice none 0 0) ∨ ∃ b n cap, ∃ junk : List Value, n = l.length ∧ sl = .slice (some ⟨b, 0, none⟩) n cap ∧ w.heap[b]? = some (.cells (l.map vi ++ junk).toArray 3 (0, 0)) ∧ b ∉ S
theorem SlSt.sep {w : World} {sl : Value} {l : List Int} {S : List Nat} (h : SlSt w sl l S) : sepS sl S := by
  rcases h with ⟨_, rfl⟩ | ⟨b, n, cap, junk, _, rfl, _, hb⟩
  · intro p m c h; cases h
  · intro p m c h; cases h; exact hb
theorem SlSt.rd {w : World} {sl : Value} {l : List Int} {S : List Nat} (h : SlSt w sl l S) : RdI w sl l := by
  rcases h with ⟨rfl, rfl⟩ | ⟨b, n, cap, junk, rfl, rfl, h, hb⟩
  · exact ⟨rfl, none, 0, rfl, fun h => absurd rfl h⟩
  · refine ⟨by simp, _, _, rfl, fun _ => ⟨b, 0, rfl, ?_⟩⟩
    have := CA_pre (l.map vi) junk 3 (0, 0)
    rw [List.length_map] at this
    rw [Nat.mul_one]
    exact this.cells h
theorem cell0 {w : World} {b o : Nat} {cs : Array Value} {e : TypeId} {f : Nat × Nat} {v : Value} (h : w.heap[b]? = some (.cells cs e f)) (hv : cs[o]? = some v) : w.cell? ⟨b, o, none⟩ = some v := by simp [World.cell?, h, hv]
theorem RdI.at {w : World} {b o cp : Nat} {xs : List Int} (h : RdI w (.slice (some ⟨b, o, none⟩) xs.length cp) xs) {i : Nat} (hi : i < xs.length) : w.cell? ⟨b, o + i, none⟩ = some (vi (xs.getD i 0)) := by
  obtain ⟨_, _, _, _, e, had, hcell⟩ := h.open
  cases e
  cases had (by omega)
  exact hcell w (Fr.refl _ _) i hi
theorem RdI.nil (w : World) : RdI w (.slice none 0 0) [] := ⟨rfl, none, 0, rfl, fun h => absurd rfl h⟩
theorem Reads.frM {w w' : World} {v : Value} {sz n : Nat} {vs : List Value} {S : List Nat} (h : Reads w v sz n vs) (f : Fr S w w') (hS : ∀ x ∈ S, ∃ es ck, w.heap[x]? = some (.map es ck)) : Reads w' v sz n vs := by
  obtain ⟨h1, ad, cap, h2, h3⟩ := h
  refine ⟨h1, ad, cap, h2, fun hn => ?_⟩
  obtain ⟨b, o, h4, h5⟩ := h3 hn
  refine ⟨b, o, h4, ?_⟩
  clear h1 h2 h3 h4 hn
  generalize n * sz = q at h5
  induction h5 with
  | nil => exact .nil
  | @cons o n v vs hv _ ih =>
    refine .cons (f.cell (p := ⟨b, o, none⟩) (fun hb => ?_) hv) ih
    obtain ⟨es, ck, he⟩ := hS b hb
    simp [World.cell?, he] at hv
theorem KnS.mem {H : List (Nat × Obj)} {S : List Nat} {w1 : World} (h : KnS H S w1 w1) : ∀ p ∈ H, p.1 ∈ S := fun p hp =>
  (h.own p.1 (List.mem_map.2 ⟨p, hp, rfl⟩)).resolve_right (fun hh => by
    have := h.kn p hp
    rw [Array.getElem?_eq_none hh] at this; cases this)
theorem HG.sw {bs : List (World × List Nat)} {p q : Nat × Obj} {H : List (Nat × Obj)} {w : World} (h : HG bs (p :: q :: H) w) : HG bs (q :: p :: H) w := h.perm (List.Perm.swap _ _ _)
abbrev slV (n : Nat) (x : Option Addr × Nat) : Value := .slice x.1 n x.2
/-- The slice's array is newer than w. -/
def NewS (w : World) (v : Value) : Prop := ∀ p m c, v = .slice (some p) m c → w.heap.size ≤ p.block
theorem NewS.nil (w : World) (n c : Nat) : NewS w (.slice none n c) := fun p m c h => by cases h
theorem NewS.own {bs : List (World × List Nat)} {H : List (Nat × Obj)} {w w' : World} {b o n c : Nat} {ob : Obj} (hw : HG bs H w') (hm : HM b ob H) (hb : (w, []) ∈ bs) : NewS w (.slice (some ⟨b, o, none⟩) n c) := fun p m c h => by
  cases h
  exact (hw.own _ hm.mem (w, []) hb).resolve_left (by simp)
end Go.Sp
/-
  Disputes, plainly: by how much one node can be above another one.
-/
namespace Go.Sp
open Go Go.Proofs
/-- A number of the grid. -/
def gAt (g : List Int) (u v : Nat) : Int := g.getD (u * 4 + v) 0
def gLst (g : List Int) (u v : Nat) (n : Int) : List Int := g.set (u * 4 + v) (min (gAt g u v) n)
def gBtw (g : List Int) (u v : Nat) (lo hi : Int) : List Int := gLst (gLst g u v hi) v u (-lo)
def gVia (g : List Int) (x u v : Nat) : List Int := gLst g u v (gAt g u x + gAt g x v)
def gTo (g : List Int) (x u k : Nat) : List Int := (List.range k).foldl (fun g v => gVia g x u v) g
def gFrom (g : List Int) (x k : Nat) : List Int := (List.range k).foldl (fun g u => gTo g x u 4) g
def gRnd (g : List Int) (k : Nat) : List Int := (List.range k).foldl (fun g x => gFrom g x 4) g
def gCls (g : List Int) (k : Nat) : List Int := (List.range k).foldl (fun g _ => gRnd g 4) g
theorem gTo_succ (g : List Int) (x u k : Nat) : gTo g x u (k + 1) = gVia (gTo g x u k) x u k := by simp [gTo, List.range_succ]
theorem gFrom_succ (g : List Int) (x k : Nat) : gFrom g x (k + 1) = gTo (gFrom g x k) x k 4 := by simp [gFrom, List.range_succ]
theorem gRnd_succ (g : List Int) (k : Nat) : gRnd g (k + 1) = gFrom (gRnd g k) k 4 := by simp [gRnd, List.range_succ]
theorem gCls_succ (g : List Int) (k : Nat) : gCls g (k + 1) = gRnd (gCls g k) 4 := by simp [gCls, List.range_succ]
theorem gLst_len (g : List Int) (u v : Nat) (n : Int) : (gLst g u v n).length = g.length := by simp [gLst]
theorem gBtw_len (g : List Int) (u v : Nat) (lo hi : Int) : (gBtw g u v lo hi).length = g.length := by simp [gBtw, gLst_len]
theorem gTo_len (g : List Int) (x u : Nat) : ∀ k, (gTo g x u k).length = g.length
  | 0 => rfl
  | k + 1 => by rw [gTo_succ, gVia, gLst_len, gTo_len g x u k]
theorem gFrom_len (g : List Int) (x : Nat) : ∀ k, (gFrom g x k).length = g.length
  | 0 => rfl
  | k + 1 => by rw [gFrom_succ, gTo_len, gFrom_len g x k]
theorem gRnd_len (g : List Int) : ∀ k, (gRnd g k).length = g.length
  | 0 => rfl
  | k + 1 => by rw [gRnd_succ, gFrom_len, gRnd_len g k]
theorem gCls_len (g : List Int) : ∀ k, (gCls g k).length = g.length
  | 0 => rfl
  | k + 1 => by rw [gCls_succ, gRnd_len, gCls_len g k]
theorem gAt_lst {g : List Int} (hg : g.length = 16) {u v u' v' : Nat} (n : Int) (hu : u < 4) (hv : v < 4) (hu' : u' < 4) (hv' : v' < 4) : gAt (gLst g u v n) u' v' = if u' = u ∧ v' = v then min (gAt g u v) n else gAt g u' v' := by
  unfold gLst gAt
  rw [List.getD_eq_getElem?_getD, List.getElem?_set]
  by_cases h : u' = u ∧ v' = v
  · obtain ⟨rfl, rfl⟩ := h
    rw [if_pos rfl, if_pos (by omega), if_pos ⟨rfl, rfl⟩]; rfl
  · rw [if_neg (by omega), if_neg h, List.getD_eq_getElem?_getD]
/-- One grid's numbers are at most those of another one. -/
def gLe (g h : List Int) : Prop := ∀ u v, u < 4 → v < 4 → gAt g u v ≤ gAt h u v
theorem gLe.refl (g : List Int) : gLe g g := fun _ _ _ _ => Int.le_refl _
theorem gLe.trans {a b c : List Int} (h : gLe a b) (k : gLe b c) : gLe a c := fun u v hu hv => Int.le_trans (h u v hu hv) (k u v hu hv)
theorem gLst_le {g : List Int} (hg : g.length = 16) {u v : Nat} (n : Int) (hu : u < 4) (hv : v < 4) : gLe (gLst g u v n) g := by
  intro u' v' hu' hv'
  rw [gAt_lst hg n hu hv hu' hv']
  by_cases h : u' = u ∧ v' = v
  · rw [if_pos h, h.1, h.2]; omega
  · rw [if_neg h]; omega
theorem gLst_at {g : List Int} (hg : g.length = 16) {u v : Nat} (n : Int) (hu : u < 4) (hv : v < 4) : gAt (gLst g u v n) u v ≤ n := by
  rw [gAt_lst hg n hu hv hu hv, if_pos ⟨rfl, rfl⟩]; omega
theorem gTo_le {g : List Int} (hg : g.length = 16) {x u : Nat} (hu : u < 4) (a : Nat) : ∀ b, a + b ≤ 4 → gLe (gTo g x u (a + b)) (gTo g x u a)
  | 0, _ => gLe.refl _
  | b + 1, h => by
    rw [show a + (b + 1) = (a + b) + 1 by omega, gTo_succ]
    exact (gLst_le (by rw [gTo_len, hg]) _ hu (by omega)).trans (gTo_le hg hu a b (by omega))
theorem gFrom_le {g : List Int} (hg : g.length = 16) {x : Nat} (a : Nat) : ∀ b, a + b ≤ 4 → gLe (gFrom g x (a + b)) (gFrom g x a)
  | 0, _ => gLe.refl _
  | b + 1, h => by
    rw [show a + (b + 1) = (a + b) + 1 by omega, gFrom_succ]
    exact (gTo_le (by rw [gFrom_len, hg]) (by omega) 0 4 (by omega)).trans (gFrom_le hg a b (by omega))
theorem gRnd_le {g : List Int} (hg : g.length = 16) (a : Nat) : ∀ b, a + b ≤ 4 → gLe (gRnd g (a + b)) (gRnd g a)
  | 0, _ => gLe.refl _
  | b + 1, h => by
    rw [show a + (b + 1) = (a + b) + 1 by omega, gRnd_succ]
    exact (gFrom_le (by rw [gRnd_len, hg]) 0 4 (by omega)).trans (gRnd_le hg a b (by omega))
theorem gRnd_le0 {g : List Int} (hg : g.length = 16) : gLe (gRnd g 4) g := by
  have h := gRnd_le hg 0 4 (by omega)
  exact h
theorem gCls_le {g : List Int} (hg : g.length = 16) (a : Nat) : ∀ b, gLe (gCls g (a + b)) (gCls g a)
  | 0 => gLe.refl _
  | b + 1 => by
    rw [show a + (b + 1) = (a + b) + 1 by omega, gCls_succ]
    exact (gRnd_le0 (by rw [gCls_len, hg])).trans (gCls_le hg a b)
/-- After a round nothing is more than the way over a third node. -/
theorem gRnd_via {g : List Int} (hg : g.length = 16) {u x v : Nat} (hu : u < 4) (hx : x < 4) (hv : v < 4) : gAt (gRnd g 4) u v ≤ gAt g u x + gAt g x v := by
  have h1 := gRnd_le hg (x + 1) (3 - x) (by omega) u v hu hv
  rw [show x + 1 + (3 - x) = 4 by omega, gRnd_succ g x] at h1
  have l1 : (gRnd g x).length = 16 := by rw [gRnd_len, hg]
  have h2 := gFrom_le l1 (x := x) (u + 1) (3 - u) (by omega) u v hu hv
  rw [show u + 1 + (3 - u) = 4 by omega, gFrom_succ (gRnd g x) x u] at h2
  have l2 : (gFrom (gRnd g x) x u).length = 16 := by rw [gFrom_len, l1]
  have h3 := gTo_le l2 (x := x) hu (v + 1) (3 - v) (by omega) u v hu hv
  rw [show v + 1 + (3 - v) = 4 by omega, gTo_succ (gFrom (gRnd g x) x u) x u v] at h3
  have l3 : (gTo (gFrom (gRnd g x) x u) x u v).length = 16 := by rw [gTo_len, l2]
  have h4 := gLst_at l3 (gAt (gTo (gFrom (gRnd g x) x u) x u v) u x + gAt (gTo (gFrom (gRnd g x) x u) x u v) x v) hu hv
  have a1 := gTo_le l2 (x := x) hu 0 v (by omega)
  have a2 := gFrom_le l1 (x := x) 0 u (by omega)
  have a3 := gRnd_le hg 0 x (by omega)
  rw [Nat.zero_add] at a1 a2 a3
  have a := (a1.trans a2).trans a3
  have b1 := a u x hu hx
  have b2 := a x v hx hv
  have c1 : gAt (gRnd g 0) u x = gAt g u x := rfl
  have c2 : gAt (gRnd g 0) x v = gAt g x v := rfl
  unfold gVia at h3
  omega
/-- Strengths by which a grid is right. -/
def gSat (x : Nat → Int) (g : List Int) : Prop := ∀ u v, u < 4 → v < 4 → x v - x u ≤ gAt g u v
theorem gLst_sat {x : Nat → Int} {g : List Int} (hg : g.length = 16) (h : gSat x g) {u v : Nat} {n : Int} (hu : u < 4) (hv : v < 4) (hn : x v - x u ≤ n) : gSat x (gLst g u v n) := by
  intro u' v' hu' hv'
  rw [gAt_lst hg n hu hv hu' hv']
  by_cases e : u' = u ∧ v' = v
  · have := h u v hu hv
    rw [if_pos e, e.1, e.2]; omega
  · rw [if_neg e]; exact h u' v' hu' hv'
theorem gBtw_sat {x : Nat → Int} {g : List Int} (hg : g.length = 16) (h : gSat x g) {u v : Nat} {lo hi : Int} (hu : u < 4) (hv : v < 4) (h1 : lo ≤ x v - x u) (h2 : x v - x u ≤ hi) : gSat x (gBtw g u v lo hi) :=
  gLst_sat (by rw [gLst_len, hg]) (gLst_sat hg h hu hv h2) hv hu (by omega)
theorem gBtw_le {g : List Int} (hg : g.length = 16) {u v : Nat} (lo hi : Int) (hu : u < 4) (hv : v < 4) : gLe (gBtw g u v lo hi) g :=
  (gLst_le (by rw [gLst_len, hg]) _ hv hu).trans (gLst_le hg _ hu hv)
theorem gBtw_hi {g : List Int} (hg : g.length = 16) {u v : Nat} (lo hi : Int) (hu : u < 4) (hv : v < 4) : gAt (gBtw g u v lo hi) u v ≤ hi := by
  have h1 := gLst_le (g := gLst g u v hi) (by rw [gLst_len, hg]) (-lo) hv hu u v hu hv
  have h2 := gLst_at hg hi hu hv
  unfold gBtw; omega
theorem gBtw_lo {g : List Int} (hg : g.length = 16) {u v : Nat} (lo hi : Int) (hu : u < 4) (hv : v < 4) : gAt (gBtw g u v lo hi) v u ≤ -lo :=
  gLst_at (by rw [gLst_len, hg]) _ hv hu
theorem gVia_sat {x : Nat → Int} {g : List Int} (hg : g.length = 16) (h : gSat x g) {y u v : Nat} (hy : y < 4) (hu : u < 4) (hv : v < 4) : gSat x (gVia g y u v) := by
  have h1 := h u y hu hy
  have h2 := h y v hy hv
  exact gLst_sat hg h hu hv (by omega)
theorem gTo_sat {x : Nat → Int} {g : List Int} (hg : g.length = 16) (h : gSat x g) {y u : Nat} (hy : y < 4) (hu : u < 4) : ∀ k, k ≤ 4 → gSat x (gTo g y u k)
  | 0, _ => h
  | k + 1, hk => by rw [gTo_succ]; exact gVia_sat (by rw [gTo_len, hg]) (gTo_sat hg h hy hu k (by omega)) hy hu (by omega)
theorem gFrom_sat {x : Nat → Int} {g : List Int} (hg : g.length = 16) (h : gSat x g) {y : Nat} (hy : y < 4) : ∀ k, k ≤ 4 → gSat x (gFrom g y k)
  | 0, _ => h
  | k + 1, hk => by rw [gFrom_succ]; exact gTo_sat (by rw [gFrom_len, hg]) (gFrom_sat hg h hy k (by omega)) hy (by omega) 4 (by omega)
theorem gRnd_sat {x : Nat → Int} {g : List Int} (hg : g.length = 16) (h : gSat x g) : ∀ k, k ≤ 4 → gSat x (gRnd g k)
  | 0, _ => h
  | k + 1, hk => by rw [gRnd_succ]; exact gFrom_sat (by rw [gRnd_len, hg]) (gRnd_sat hg h k (by omega)) (by omega) 4 (by omega)
theorem gCls_sat {x : Nat → Int} {g : List Int} (hg : g.length = 16) (h : gSat x g) : ∀ k, gSat x (gCls g k)
  | 0 => h
  | k + 1 => by rw [gCls_succ]; exact gRnd_sat (by rw [gCls_len, hg]) (gCls_sat hg h k) 4 (by omega)
/-- A round that changes nothing is followed by none that does. -/
theorem gCls_stop {g : List Int} {k : Nat} (h : gRnd (gCls g k) 4 = gCls g k) : ∀ n, gCls g (k + n) = gCls g k
  | 0 => rfl
  | n + 1 => by rw [show k + (n + 1) = (k + n) + 1 by omega, gCls_succ, gCls_stop h n, h]
def gOk (g : List Int) : Prop := ∀ n, n < 4 → 0 ≤ gAt g n n
theorem gSat.ok {x : Nat → Int} {g : List Int} (h : gSat x g) : gOk g := fun n hn => by have := h n n hn hn; omega
def gZero : List Int := [0, 2000, 2000, 2000, 2000, 0, 2000, 2000, 2000, 2000, 0, 2000, 2000, 2000, 2000, 0]
abbrev L4 := Int × Int × Int × Int
abbrev F3 := Int × Int × Int
def gSam (g : List Int) (k : Nat) : List Int := (List.range k).foldl (fun g s => gBtw g 0 (s + 1) 0 2000) g
def gLnk (g : List Int) (l : List L4) : List Int := l.foldl (fun g x => gBtw g (x.1.toNat + 1) (x.2.1.toNat + 1) x.2.2.1 x.2.2.2) g
def gFct (g : List Int) (l : List F3) : List Int := l.foldl (fun g x => gBtw g 0 (x.1.toNat + 1) x.2.1 x.2.2) g
def gAll (S : Nat) (ls : List L4) (fs : List F3) : List Int := gFct (gLnk (gSam gZero S) ls) fs
def gApt (S : Nat) (ls : List L4) (fs : List F3) : List Int := gCls (gAll S ls fs) 4
theorem gSam_succ (g : List Int) (k : Nat) : gSam g (k + 1) = gBtw (gSam g k) 0 (k + 1) 0 2000 := by simp [gSam, List.range_succ]
theorem gSam_len (g : List Int) : ∀ k, (gSam g k).length = g.length
  | 0 => rfl
  | k + 1 => by rw [gSam_succ, gBtw_len, gSam_len g k]
theorem gLnk_len : ∀ (l : List L4) (g : List Int), (gLnk g l).length = g.length
  | [], _ => rfl
  | x :: l, g => by
    show (gLnk (gBtw g _ _ _ _) l).length = _
    rw [gLnk_len l, gBtw_len]
theorem gFct_len : ∀ (l : List F3) (g : List Int), (gFct g l).length = g.length
  | [], _ => rfl
  | x :: l, g => by
    show (gFct (gBtw g _ _ _ _) l).length = _
    rw [gFct_len l, gBtw_len]
theorem gAll_len (S : Nat) (ls : List L4) (fs : List F3) : (gAll S ls fs).length = 16 := by rw [gAll, gFct_len, gLnk_len, gSam_len]; rfl
def lkOk (x : L4) : Prop := (0 ≤ x.1 ∧ x.1 < 3) ∧ 0 ≤ x.2.1 ∧ x.2.1 < 3
def fcOk (x : F3) : Prop := 0 ≤ x.1 ∧ x.1 < 3
theorem gSam_sat {x : Nat → Int} {g : List Int} (hg : g.length = 16) (h : gSat x g) (h0 : x 0 = 0) (hx : ∀ s, s < 3 → 0 ≤ x (s + 1) ∧ x (s + 1) ≤ 2000) : ∀ k, k ≤ 3 → gSat x (gSam g k)
  | 0, _ => h
  | k + 1, hk => by
    have := hx k (by omega)
    rw [gSam_succ]; exact gBtw_sat (by rw [gSam_len, hg]) (gSam_sat hg h h0 hx k (by omega)) (by omega) (by omega) (by omega) (by omega)
theorem gLnk_sat {x : Nat → Int} : ∀ {l : List L4} {g : List Int}, g.length = 16 → gSat x g → (∀ y ∈ l, lkOk y) → (∀ y ∈ l, y.2.2.1 ≤ x (y.2.1.toNat + 1) - x (y.1.toNat + 1) ∧ x (y.2.1.toNat + 1) - x (y.1.toNat + 1) ≤ y.2.2.2) → gSat x (gLnk g l)
  | [], _, _, h, _, _ => h
  | y :: l, g, hg, h, hk, hx => by
    have h1 := hk y (.head _)
    have h2 := hx y (.head _)
    unfold lkOk at h1
    exact gLnk_sat (l := l) (by rw [gBtw_len, hg]) (gBtw_sat hg h (by omega) (by omega) h2.1 h2.2) (fun z hz => hk z (.tail _ hz)) (fun z hz => hx z (.tail _ hz))
theorem gFct_sat {x : Nat → Int} (h0 : x 0 = 0) : ∀ {l : List F3} {g : List Int}, g.length = 16 → gSat x g → (∀ y ∈ l, fcOk y) → (∀ y ∈ l, y.2.1 ≤ x (y.1.toNat + 1) ∧ x (y.1.toNat + 1) ≤ y.2.2) → gSat x (gFct g l)
  | [], _, _, h, _, _ => h
  | y :: l, g, hg, h, hk, hx => by
    have h1 := hk y (.head _)
    have h2 := hx y (.head _)
    unfold fcOk at h1
    exact gFct_sat h0 (l := l) (by rw [gBtw_len, hg]) (gBtw_sat hg h (by omega) (by omega) (by omega) (by omega)) (fun z hz => hk z (.tail _ hz)) (fun z hz => hx z (.tail _ hz))
theorem gZero_sat {x : Nat → Int} (h0 : x 0 = 0) (hx : ∀ s, s < 3 → 0 ≤ x (s + 1) ∧ x (s + 1) ≤ 2000) : gSat x gZero := by
  have h1 := hx 0 (by omega)
  have h2 := hx 1 (by omega)
  have h3 := hx 2 (by omega)
  simp only [Nat.zero_add, Nat.reduceAdd] at h1 h2 h3
  intro u v hu hv
  match u, v, hu, hv with
  | 0, 0, _, _ => show x 0 - x 0 ≤ 0; omega
  | 0, 1, _, _ => show x 1 - x 0 ≤ 2000; omega
  | 0, 2, _, _ => show x 2 - x 0 ≤ 2000; omega
  | 0, 3, _, _ => show x 3 - x 0 ≤ 2000; omega
  | 1, 0, _, _ => show x 0 - x 1 ≤ 2000; omega
  | 1, 1, _, _ => show x 1 - x 1 ≤ 0; omega
  | 1, 2, _, _ => show x 2 - x 1 ≤ 2000; omega
  | 1, 3, _, _ => show x 3 - x 1 ≤ 2000; omega
  | 2, 0, _, _ => show x 0 - x 2 ≤ 2000; omega
  | 2, 1, _, _ => show x 1 - x 2 ≤ 2000; omega
  | 2, 2, _, _ => show x 2 - x 2 ≤ 0; omega
  | 2, 3, _, _ => show x 3 - x 2 ≤ 2000; omega
  | 3, 0, _, _ => show x 0 - x 3 ≤ 2000; omega
  | 3, 1, _, _ => show x 1 - x 3 ≤ 2000; omega
  | 3, 2, _, _ => show x 2 - x 3 ≤ 2000; omega
  | 3, 3, _, _ => show x 3 - x 3 ≤ 0; omega
/-- Strengths by which all is right are right in the grid. -/
theorem gApt_sat {x : Nat → Int} (h0 : x 0 = 0) (hx : ∀ s, s < 3 → 0 ≤ x (s + 1) ∧ x (s + 1) ≤ 2000) {S : Nat} (hS : S ≤ 3) {ls : List L4} {fs : List F3} (hl : ∀ y ∈ ls, lkOk y) (hf : ∀ y ∈ fs, fcOk y)
    (h1 : ∀ y ∈ ls, y.2.2.1 ≤ x (y.2.1.toNat + 1) - x (y.1.toNat + 1) ∧ x (y.2.1.toNat + 1) - x (y.1.toNat + 1) ≤ y.2.2.2) (h2 : ∀ y ∈ fs, y.2.1 ≤ x (y.1.toNat + 1) ∧ x (y.1.toNat + 1) ≤ y.2.2) : gSat x (gApt S ls fs) :=
  gCls_sat (gAll_len _ _ _) (gFct_sat h0 (by rw [gLnk_len, gSam_len]; rfl) (gLnk_sat (by rw [gSam_len]; rfl) (gSam_sat rfl (gZero_sat h0 hx) h0 hx S hS) hl h1) hf h2) 4
theorem gLnk_le : ∀ {l : List L4} {g : List Int}, g.length = 16 → (∀ y ∈ l, lkOk y) → gLe (gLnk g l) g
  | [], _, _, _ => gLe.refl _
  | y :: l, g, hg, hk => by
    have h1 := hk y (.head _)
    unfold lkOk at h1
    exact (gLnk_le (l := l) (by rw [gBtw_len, hg]) (fun z hz => hk z (.tail _ hz))).trans (gBtw_le hg _ _ (by omega) (by omega))
theorem gFct_le : ∀ {l : List F3} {g : List Int}, g.length = 16 → (∀ y ∈ l, fcOk y) → gLe (gFct g l) g
  | [], _, _, _ => gLe.refl _
  | y :: l, g, hg, hk => by
    have h1 := hk y (.head _)
    unfold fcOk at h1
    exact (gFct_le (l := l) (by rw [gBtw_len, hg]) (fun z hz => hk z (.tail _ hz))).trans (gBtw_le hg _ _ (by omega) (by omega))
theorem gLnk_mem : ∀ {l : List L4} {g : List Int}, g.length = 16 → (∀ y ∈ l, lkOk y) → ∀ y ∈ l, gAt (gLnk g l) (y.1.toNat + 1) (y.2.1.toNat + 1) ≤ y.2.2.2 ∧ gAt (gLnk g l) (y.2.1.toNat + 1) (y.1.toNat + 1) ≤ -y.2.2.1
  | [], _, _, _, y, hy => by cases hy
  | z :: l, g, hg, hk, y, hy => by
    rcases List.mem_cons.1 hy with rfl | hy
    · have h1 := hk y (.head _)
      unfold lkOk at h1
      have hle := gLnk_le (l := l) (g := gBtw g (y.1.toNat + 1) (y.2.1.toNat + 1) y.2.2.1 y.2.2.2) (by rw [gBtw_len, hg]) (fun z hz => hk z (.tail _ hz))
      exact ⟨Int.le_trans (hle _ _ (by omega) (by omega)) (gBtw_hi hg _ _ (by omega) (by omega)), Int.le_trans (hle _ _ (by omega) (by omega)) (gBtw_lo hg _ _ (by omega) (by omega))⟩
    · exact gLnk_mem (l := l) (by rw [gBtw_len, hg]) (fun z hz => hk z (.tail _ hz)) y hy
theorem gFct_mem : ∀ {l : List F3} {g : List Int}, g.length = 16 → (∀ y ∈ l, fcOk y) → ∀ y ∈ l, gAt (gFct g l) 0 (y.1.toNat + 1) ≤ y.2.2 ∧ gAt (gFct g l) (y.1.toNat + 1) 0 ≤ -y.2.1
  | [], _, _, _, y, hy => by cases hy
  | z :: l, g, hg, hk, y, hy => by
    rcases List.mem_cons.1 hy with rfl | hy
    · have h1 := hk y (.head _)
      unfold fcOk at h1
      have hle := gFct_le (l := l) (g := gBtw g 0 (y.1.toNat + 1) y.2.1 y.2.2) (by rw [gBtw_len, hg]) (fun z hz => hk z (.tail _ hz))
      exact ⟨Int.le_trans (hle _ _ (by omega) (by omega)) (gBtw_hi hg _ _ (by omega) (by omega)), Int.le_trans (hle _ _ (by omega) (by omega)) (gBtw_lo hg _ _ (by omega) (by omega))⟩
    · exact gFct_mem (l := l) (by rw [gBtw_len, hg]) (fun z hz => hk z (.tail _ hz)) y hy
/-- The grid before the conclusions: what a link and a fact say. -/
theorem gAll_lnk {S : Nat} {ls : List L4} {fs : List F3} (hl : ∀ y ∈ ls, lkOk y) (hf : ∀ y ∈ fs, fcOk y) {y : L4} (hy : y ∈ ls) : gAt (gAll S ls fs) (y.1.toNat + 1) (y.2.1.toNat + 1) ≤ y.2.2.2 ∧ gAt (gAll S ls fs) (y.2.1.toNat + 1) (y.1.toNat + 1) ≤ -y.2.2.1 := by
  have h := gLnk_mem (g := gSam gZero S) (by rw [gSam_len]; rfl) hl y hy
  have hle := gFct_le (l := fs) (g := gLnk (gSam gZero S) ls) (by rw [gLnk_len, gSam_len]; rfl) hf
  have hk := hl y hy
  unfold lkOk at hk
  unfold gAll
  have h1 := hle (y.1.toNat + 1) (y.2.1.toNat + 1) (by omega) (by omega)
  have h2 := hle (y.2.1.toNat + 1) (y.1.toNat + 1) (by omega) (by omega)
  exact ⟨Int.le_trans h1 h.1, Int.le_trans h2 h.2⟩
theorem gAll_fct {S : Nat} {ls : List L4} {fs : List F3} (hf : ∀ y ∈ fs, fcOk y) {y : F3} (hy : y ∈ fs) : gAt (gAll S ls fs) 0 (y.1.toNat + 1) ≤ y.2.2 ∧ gAt (gAll S ls fs) (y.1.toNat + 1) 0 ≤ -y.2.1 := by
  unfold gAll
  exact gFct_mem (by rw [gLnk_len, gSam_len]; rfl) hf y hy
theorem gCls_zero (g : List Int) : gCls g 0 = g := by simp [gCls]
theorem gCls_four {g : List Int} (hg : g.length = 16) {u v : Nat} (hu : u < 4) (hv : v < 4) : gAt (gCls g 4) u v ≤ gAt (gRnd (gRnd g 4) 4) u v := by
  have h := gCls_le hg 2 2 u v hu hv
  have e : gCls g 2 = gRnd (gRnd g 4) 4 := by rw [gCls_succ g 1, gCls_succ g 0, gCls_zero]
  rw [e] at h
  exact h
/-- A way over two nodes. -/
theorem gCls_way2 {g : List Int} (hg : g.length = 16) {u x y v : Nat} (hu : u < 4) (hx : x < 4) (hy : y < 4) (hv : v < 4) : gAt (gCls g 4) u v ≤ gAt g u x + gAt g x y + gAt g y v := by
  have h1 := gRnd_via hg hu hx hy
  have h2 := gRnd_le0 hg y v hy hv
  have h3 := gRnd_via (g := gRnd g 4) (by rw [gRnd_len, hg]) hu hy hv
  have h4 := gCls_four hg hu hv
  generalize gAt (gCls g 4) u v = a at *
  generalize gAt (gRnd (gRnd g 4) 4) u v = b at *
  omega
/-- A way over three nodes. -/
theorem gCls_way3 {g : List Int} (hg : g.length = 16) {u x y z v : Nat} (hu : u < 4) (hx : x < 4) (hy : y < 4) (hz : z < 4) (hv : v < 4) : gAt (gCls g 4) u v ≤ gAt g u x + gAt g x y + (gAt g y z + gAt g z v) := by
  have h1 := gRnd_via hg hu hx hy
  have h2 := gRnd_via hg hy hz hv
  have h3 := gRnd_via (g := gRnd g 4) (by rw [gRnd_len, hg]) hu hy hv
  have h4 := gCls_four hg hu hv
  generalize gAt (gCls g 4) u v = a at *
  generalize gAt (gRnd (gRnd g 4) 4) u v = b at *
  omega
theorem gApt_two {S : Nat} {ls : List L4} {fs : List F3} {u x y v : Nat} (hu : u < 4) (hx : x < 4) (hy : y < 4) (hv : v < 4) : gAt (gApt S ls fs) u v ≤ gAt (gAll S ls fs) u x + gAt (gAll S ls fs) x y + gAt (gAll S ls fs) y v :=
  gCls_way2 (gAll_len S ls fs) hu hx hy hv
theorem gApt_three {S : Nat} {ls : List L4} {fs : List F3} {u x y z v : Nat} (hu : u < 4) (hx : x < 4) (hy : y < 4) (hz : z < 4) (hv : v < 4) : gAt (gApt S ls fs) u v ≤ gAt (gAll S ls fs) u x + gAt (gAll S ls fs) x y + (gAt (gAll S ls fs) y z + gAt (gAll S ls fs) z v) :=
  gCls_way3 (gAll_len S ls fs) hu hx hy hz hv
end Go.Sp
/-
  One liquid's bottles, plainly: a link of 0 between those that were never opened.
-/
namespace Go.Sp
open Go Go.Proofs
/-- The first bottle that was never opened; below some one; or -1. -/
def fstN (N : Nat → Bool) : Nat → Int
  | 0 => -1
  | k + 1 => if N k = true ∧ fstN N k < 0 then (k : Int) else fstN N k
def lnkN (N : Nat → Bool) : Nat → List L4
  | 0 => []
  | k + 1 => if N k = true ∧ 0 ≤ fstN N k then lnkN N k ++ [(fstN N k, (k : Int), 0, 0)] else lnkN N k
def whoN (N : Nat → Bool) (m : Nat → Int × Int) : Nat → Int × Int
  | 0 => (0, 2000)
  | k + 1 => if N k = true then (max (whoN N m k).1 (m k).1, min (whoN N m k).2 (m k).2) else whoN N m k
def cntN (N : Nat → Bool) : Nat → Nat
  | 0 => 0
  | k + 1 => if N k = true then cntN N k + 1 else cntN N k
theorem fstN_lt (N : Nat → Bool) : ∀ k, -1 ≤ fstN N k ∧ fstN N k < (k : Int)
  | 0 => by simp [fstN]
  | k + 1 => by
    have := fstN_lt N k
    unfold fstN
    by_cases h : N k = true ∧ fstN N k < 0
    · rw [if_pos h]; omega
    · rw [if_neg h]; omega
theorem fstN_is (N : Nat → Bool) : ∀ k, 0 ≤ fstN N k → N (fstN N k).toNat = true
  | 0, h => by simp [fstN] at h
  | k + 1, h => by
    by_cases hc : N k = true ∧ fstN N k < 0
    · rw [fstN, if_pos hc]; exact hc.1
    · rw [fstN, if_neg hc] at h ⊢; exact fstN_is N k h
theorem fstN_of (N : Nat → Bool) : ∀ k i, i < k → N i = true → 0 ≤ fstN N k
  | 0, _, h, _ => absurd h (Nat.not_lt_zero _)
  | k + 1, i, h, hi => by
    by_cases hc : N k = true ∧ fstN N k < 0
    · rw [fstN, if_pos hc]; omega
    · rw [fstN, if_neg hc]
      rcases Nat.lt_succ_iff_lt_or_eq.1 h with h | rfl
      · exact fstN_of N k i h hi
      · have : ¬ fstN N i < 0 := fun g => hc ⟨hi, g⟩
        omega
theorem fstN_st (N : Nat → Bool) (k : Nat) (h : 0 ≤ fstN N k) : fstN N (k + 1) = fstN N k := by
  rw [fstN, if_neg (fun g => by omega)]
theorem lnkN_mem (N : Nat → Bool) : ∀ k, ∀ y ∈ lnkN N k, 0 ≤ fstN N k ∧ ∃ i, i < k ∧ N i = true ∧ fstN N k < (i : Int) ∧ y = (fstN N k, (i : Int), 0, 0)
  | 0, y, hy => by cases hy
  | k + 1, y, hy => by
    by_cases hc : N k = true ∧ 0 ≤ fstN N k
    · rw [lnkN, if_pos hc] at hy
      rw [fstN_st N k hc.2]
      rcases List.mem_append.1 hy with hy | hy
      · obtain ⟨h0, i, hi, h1, h2, h3⟩ := lnkN_mem N k y hy
        exact ⟨h0, i, by omega, h1, h2, h3⟩
      · obtain rfl := List.mem_singleton.1 hy
        exact ⟨hc.2, k, by omega, hc.1, (fstN_lt N k).2, rfl⟩
    · rw [lnkN, if_neg hc] at hy
      obtain ⟨h0, i, hi, h1, h2, h3⟩ := lnkN_mem N k y hy
      rw [fstN_st N k h0]
      exact ⟨h0, i, by omega, h1, h2, h3⟩
theorem lnkN_of (N : Nat → Bool) : ∀ k i, i < k → N i = true → (i : Int) ≠ fstN N k → (fstN N k, (i : Int), 0, 0) ∈ lnkN N k
  | 0, _, h, _, _ => absurd h (Nat.not_lt_zero _)
  | k + 1, i, h, hi, hne => by
    by_cases hc : N k = true ∧ 0 ≤ fstN N k
    · rw [lnkN, if_pos hc, fstN_st N k hc.2]
      rw [fstN_st N k hc.2] at hne
      rcases Nat.lt_succ_iff_lt_or_eq.1 h with h | rfl
      · exact List.mem_append.2 (.inl (lnkN_of N k i h hi hne))
      · exact List.mem_append.2 (.inr (List.mem_singleton.2 rfl))
    · rw [lnkN, if_neg hc]
      rcases Nat.lt_succ_iff_lt_or_eq.1 h with h | rfl
      · have h0 := fstN_of N k i h hi
        rw [fstN_st N k h0] at hne ⊢
        exact lnkN_of N k i h hi hne
      · exfalso
        have h0 : fstN N i < 0 := by
          rcases Int.lt_or_le (fstN N i) 0 with g | g
          · exact g
          · exact absurd ⟨hi, g⟩ hc
        rw [fstN, if_pos ⟨hi, h0⟩] at hne
        exact hne rfl
theorem lnkN_ok (N : Nat → Bool) {S : Nat} (hS : S ≤ 3) : ∀ y ∈ lnkN N S, lkOk y := by
  intro y hy
  obtain ⟨h0, i, hi, _, hlt, rfl⟩ := lnkN_mem N S y hy
  have := (fstN_lt N S).2
  unfold lkOk
  dsimp only
  omega
theorem lnkN_len (N : Nat → Bool) : ∀ k, (lnkN N k).length ≤ k
  | 0 => Nat.le_refl _
  | k + 1 => by
    have := lnkN_len N k
    by_cases hc : N k = true ∧ 0 ≤ fstN N k
    · rw [lnkN, if_pos hc, List.length_append, List.length_singleton]; omega
    · rw [lnkN, if_neg hc]; omega
theorem whoN_le (N : Nat → Bool) (m : Nat → Int × Int) : ∀ k, 0 ≤ (whoN N m k).1 ∧ (whoN N m k).2 ≤ 2000 ∧ ∀ i, i < k → N i = true → (m i).1 ≤ (whoN N m k).1 ∧ (whoN N m k).2 ≤ (m i).2
  | 0 => ⟨by show (0 : Int) ≤ 0; decide, by show (2000 : Int) ≤ 2000; decide, fun i hi => absurd hi (Nat.not_lt_zero _)⟩
  | k + 1 => by
    obtain ⟨h1, h2, h3⟩ := whoN_le N m k
    by_cases hc : N k = true
    · rw [whoN, if_pos hc]
      refine ⟨by dsimp only; omega, by dsimp only; omega, fun i hi hn => ?_⟩
      dsimp only
      rcases Nat.lt_succ_iff_lt_or_eq.1 hi with hi | rfl
      · have := h3 i hi hn; omega
      · omega
    · rw [whoN, if_neg hc]
      refine ⟨h1, h2, fun i hi hn => ?_⟩
      rcases Nat.lt_succ_iff_lt_or_eq.1 hi with hi | rfl
      · exact h3 i hi hn
      · exact absurd hn hc
theorem whoN_lo (N : Nat → Bool) (m : Nat → Int × Int) : ∀ k, (whoN N m k).1 = 0 ∨ ∃ i, i < k ∧ N i = true ∧ (whoN N m k).1 = (m i).1
  | 0 => .inl rfl
  | k + 1 => by
    by_cases hc : N k = true
    · rw [whoN, if_pos hc]
      dsimp only
      rcases Int.le_total (whoN N m k).1 (m k).1 with g | g
      · exact .inr ⟨k, by omega, hc, by omega⟩
      · rcases whoN_lo N m k with h | ⟨i, hi, hn, h⟩
        · exact .inl (by omega)
        · exact .inr ⟨i, by omega, hn, by omega⟩
    · rw [whoN, if_neg hc]
      rcases whoN_lo N m k with h | ⟨i, hi, hn, h⟩
      · exact .inl h
      · exact .inr ⟨i, by omega, hn, h⟩
theorem whoN_hi (N : Nat → Bool) (m : Nat → Int × Int) : ∀ k, (whoN N m k).2 = 2000 ∨ ∃ i, i < k ∧ N i = true ∧ (whoN N m k).2 = (m i).2
  | 0 => .inl rfl
  | k + 1 => by
    by_cases hc : N k = true
    · rw [whoN, if_pos hc]
      dsimp only
      rcases Int.le_total (m k).2 (whoN N m k).2 with g | g
      · exact .inr ⟨k, by omega, hc, by omega⟩
      · rcases whoN_hi N m k with h | ⟨i, hi, hn, h⟩
        · exact .inl (by omega)
        · exact .inr ⟨i, by omega, hn, by omega⟩
    · rw [whoN, if_neg hc]
      rcases whoN_hi N m k with h | ⟨i, hi, hn, h⟩
      · exact .inl h
      · exact .inr ⟨i, by omega, hn, h⟩
/-- The facts but some: one for each bottle. -/
def keptN (m : Nat → Int × Int) (out : List Int) : Nat → List F3
  | 0 => []
  | k + 1 => if (k : Int) ∈ out then keptN m out k else keptN m out k ++ [((k : Int), (m k).1, (m k).2)]
theorem keptN_mem (m : Nat → Int × Int) (out : List Int) : ∀ k y, y ∈ keptN m out k ↔ ∃ i, i < k ∧ (i : Int) ∉ out ∧ y = ((i : Int), (m i).1, (m i).2)
  | 0, y => ⟨fun h => absurd h List.not_mem_nil, fun ⟨_, h, _⟩ => absurd h (Nat.not_lt_zero _)⟩
  | k + 1, y => by
    have ih := keptN_mem m out k y
    by_cases hc : (k : Int) ∈ out
    · rw [keptN, if_pos hc, ih]
      constructor
      · rintro ⟨i, hi, h⟩; exact ⟨i, by omega, h⟩
      · rintro ⟨i, hi, h1, h2⟩
        rcases Nat.lt_succ_iff_lt_or_eq.1 hi with hi | rfl
        · exact ⟨i, hi, h1, h2⟩
        · exact absurd hc h1
    · rw [keptN, if_neg hc, List.mem_append, ih, List.mem_singleton]
      constructor
      · rintro (⟨i, hi, h⟩ | h)
        · exact ⟨i, by omega, h⟩
        · exact ⟨k, by omega, hc, h⟩
      · rintro ⟨i, hi, h1, h2⟩
        rcases Nat.lt_succ_iff_lt_or_eq.1 hi with hi | rfl
        · exact .inl ⟨i, hi, h1, h2⟩
        · exact .inr h2
theorem keptN_ok (m : Nat → Int × Int) (out : List Int) {S : Nat} (hS : S ≤ 3) : ∀ y ∈ keptN m out S, fcOk y := by
  intro y hy
  obtain ⟨i, hi, _, rfl⟩ := (keptN_mem m out S y).1 hy
  unfold fcOk; dsimp only; omega
def MnOk (S : Nat) (m : Nat → Int × Int) : Prop := ∀ i, i < S → 0 ≤ (m i).1 ∧ (m i).1 ≤ (m i).2 ∧ (m i).2 ≤ 2000
/-- Strengths of all bottles: one for those that were never opened. -/
def oneX (S : Nat) (N : Nat → Bool) (m : Nat → Int × Int) (v : Int) : Nat → Int
  | 0 => 0
  | s + 1 => if s < S then if N s = true then v else (m s).1 else 0
theorem oneX_succ (S : Nat) (N : Nat → Bool) (m : Nat → Int × Int) (v : Int) (s : Nat) : oneX S N m v (s + 1) = if s < S then if N s = true then v else (m s).1 else 0 := rfl
theorem one_sat {S : Nat} (hS : S ≤ 3) {N : Nat → Bool} {m : Nat → Int × Int} (hm : MnOk S m) {out : List Int} {v : Int} (hv : 0 ≤ v ∧ v ≤ 2000) (h : ∀ i, i < S → N i = true → (i : Int) ∉ out → (m i).1 ≤ v ∧ v ≤ (m i).2) : gSat (oneX S N m v) (gApt S (lnkN N S) (keptN m out S)) := by
  have h0 : oneX S N m v 0 = 0 := rfl
  refine gApt_sat (x := oneX S N m v) (S := S) (ls := lnkN N S) (fs := keptN m out S) h0 (fun s _ => ?_) hS (lnkN_ok N hS) (keptN_ok m out hS) (fun y hy => ?_) (fun y hy => ?_)
  · simp only [oneX_succ]
    by_cases h1 : s < S
    · rw [if_pos h1]
      by_cases h2 : N s = true
      · rw [if_pos h2]; exact hv
      · rw [if_neg h2]; have := hm s h1; omega
    · rw [if_neg h1]; omega
  · obtain ⟨h0, i, hi, hn, _, rfl⟩ := lnkN_mem N S y hy
    have hl := (fstN_lt N S).2
    have hf := fstN_is N S h0
    dsimp only
    rw [show ((i : Nat) : Int).toNat = i by omega]
    simp only [oneX_succ]
    rw [if_pos hi, if_pos hn, if_pos (by omega), if_pos hf]
    omega
  · obtain ⟨i, hi, hno, rfl⟩ := (keptN_mem m out S y).1 hy
    dsimp only
    rw [show ((i : Nat) : Int).toNat = i by omega]
    simp only [oneX_succ]
    rw [if_pos hi]
    have := hm i hi
    by_cases h2 : N i = true
    · rw [if_pos h2]; exact h i hi h2 hno
    · rw [if_neg h2]; omega
theorem gAll_diag {S : Nat} (hS : S ≤ 3) {ls : List L4} {fs : List F3} (hl : ∀ y ∈ ls, lkOk y) (hf : ∀ y ∈ fs, fcOk y) {n : Nat} (hn : n < 4) : gAt (gAll S ls fs) n n ≤ 0 := by
  have h1 := gFct_le (l := fs) (g := gLnk (gSam gZero S) ls) (by rw [gLnk_len, gSam_len]; rfl) hf n n hn hn
  have h2 := gLnk_le (l := ls) (g := gSam gZero S) (by rw [gSam_len]; rfl) hl n n hn hn
  have h3 : ∀ k, k ≤ 3 → gLe (gSam gZero k) gZero := by
    intro k
    induction k with
    | zero => exact fun _ => gLe.refl _
    | succ k ih => intro hk; rw [gSam_succ]; exact (gBtw_le (by rw [gSam_len]; rfl) _ _ (by omega) (by omega)).trans (ih (by omega))
  have h4 := h3 S hS n n hn hn
  have h5 : gAt gZero n n = 0 := by
    match n, hn with
    | 0, _ => rfl
    | 1, _ => rfl
    | 2, _ => rfl
    | 3, _ => rfl
  unfold gAll
  omega
/-- From a bottle that was never opened to the first one, and back. -/
theorem star_link {S : Nat} (hS : S ≤ 3) {N : Nat → Bool} {m : Nat → Int × Int} {out : List Int} {i : Nat} (hi : i < S) (hn : N i = true) :
    gAt (gAll S (lnkN N S) (keptN m out S)) (i + 1) ((fstN N S).toNat + 1) ≤ 0 ∧ gAt (gAll S (lnkN N S) (keptN m out S)) ((fstN N S).toNat + 1) (i + 1) ≤ 0 := by
  have h0 := fstN_of N S i hi hn
  have hlt := (fstN_lt N S).2
  by_cases e : (i : Int) = fstN N S
  · rw [← e, show ((i : Nat) : Int).toNat = i by omega]
    have := gAll_diag hS (lnkN_ok N hS) (keptN_ok m out hS) (n := i + 1) (by omega)
    exact ⟨this, this⟩
  · have h := gAll_lnk (S := S) (lnkN_ok N hS) (keptN_ok m out hS) (lnkN_of N S i hi hn e)
    dsimp only at h
    rw [show ((i : Nat) : Int).toNat = i by omega] at h
    exact ⟨by have := h.2; omega, h.1⟩
theorem star_fact {S : Nat} (hS : S ≤ 3) {N : Nat → Bool} {m : Nat → Int × Int} {out : List Int} {i : Nat} (hi : i < S) (ho : (i : Int) ∉ out) :
    gAt (gAll S (lnkN N S) (keptN m out S)) 0 (i + 1) ≤ (m i).2 ∧ gAt (gAll S (lnkN N S) (keptN m out S)) (i + 1) 0 ≤ -(m i).1 := by
  have h := gAll_fct (S := S) (ls := lnkN N S) (keptN_ok m out hS) ((keptN_mem m out S _).2 ⟨i, hi, ho, rfl⟩)
  dsimp only at h
  rw [show ((i : Nat) : Int).toNat = i by omega] at h
  exact h
/-- The facts but some are right together if and only if what is left of the bottles that were never opened has a strength in common. -/
theorem star_ok {S : Nat} (hS : S ≤ 3) {N : Nat → Bool} {m : Nat → Int × Int} (hm : MnOk S m) (out : List Int) :
    gOk (gApt S (lnkN N S) (keptN m out S)) ↔ ∀ i j, i < S → j < S → N i = true → N j = true → (i : Int) ∉ out → (j : Int) ∉ out → (m i).1 ≤ (m j).2 := by
  constructor
  · intro h i j hi hj hni hnj hoi hoj
    have a1 := (star_fact (N := N) (m := m) hS hj hoj).1
    have a2 := (star_link (m := m) (out := out) hS hj hnj).1
    have a3 := (star_link (m := m) (out := out) hS hi hni).2
    have a4 := (star_fact (N := N) (m := m) hS hi hoi).2
    have h0 := fstN_of N S i hi hni
    have hlt := (fstN_lt N S).2
    have h1 := gApt_three (S := S) (ls := lnkN N S) (fs := keptN m out S) (u := 0) (x := j + 1) (y := (fstN N S).toNat + 1) (z := i + 1) (v := 0) (by omega) (by omega) (by omega) (by omega) (by omega)
    have h2 := h 0 (by omega)
    omega
  · intro h
    let N' : Nat → Bool := fun i => N i && decide ((i : Int) ∉ out)
    have hN' : ∀ i, N' i = true ↔ N i = true ∧ (i : Int) ∉ out := fun i => by simp [N']
    obtain ⟨b1, b2, b3⟩ := whoN_le N' m S
    have hv : (whoN N' m S).1 ≤ 2000 := by
      rcases whoN_lo N' m S with e | ⟨i, hi, _, e⟩
      · omega
      · have := hm i hi; omega
    refine (one_sat hS hm ⟨b1, hv⟩ (fun i hi hn ho => ⟨(b3 i hi ((hN' i).2 ⟨hn, ho⟩)).1, ?_⟩)).ok
    rcases whoN_lo N' m S with e | ⟨k, hk, hnk, e⟩
    · have := hm i hi; omega
    · rw [e]
      obtain ⟨g1, g2⟩ := (hN' k).1 hnk
      exact h k i hk hi g1 hn g2 ho
/-- The bounds of a bottle that was never opened, if all is right. -/
theorem star_bounds {S : Nat} (hS : S ≤ 3) {N : Nat → Bool} {m : Nat → Int × Int} (hm : MnOk S m) (hw : (whoN N m S).1 ≤ (whoN N m S).2) {i : Nat} (hi : i < S) (hn : N i = true) :
    -(gAt (gApt S (lnkN N S) (keptN m [] S)) (i + 1) 0) = (whoN N m S).1 ∧ gAt (gApt S (lnkN N S) (keptN m [] S)) 0 (i + 1) = (whoN N m S).2 := by
  obtain ⟨b1, b2, b3⟩ := whoN_le N m S
  have s1 := one_sat hS hm (out := []) (v := (whoN N m S).1) ⟨b1, by omega⟩ (fun j hj hnj _ => by have := b3 j hj hnj; omega)
  have s2 := one_sat hS hm (out := []) (v := (whoN N m S).2) ⟨by omega, b2⟩ (fun j hj hnj _ => by have := b3 j hj hnj; omega)
  have e : ∀ v, oneX S N m v (i + 1) = v := fun v => by rw [oneX_succ, if_pos hi, if_pos hn]
  have e0 : ∀ v, oneX S N m v 0 = 0 := fun v => rfl
  have c1 := s1 (i + 1) 0 (by omega) (by omega)
  have c2 := s2 0 (i + 1) (by omega) (by omega)
  rw [e, e0] at c1 c2
  have h0 := fstN_of N S i hi hn
  have hlt := (fstN_lt N S).2
  have up : ∀ j, j < S → N j = true → gAt (gApt S (lnkN N S) (keptN m [] S)) 0 (i + 1) ≤ (m j).2 ∧ gAt (gApt S (lnkN N S) (keptN m [] S)) (i + 1) 0 ≤ -(m j).1 := by
    intro j hj hnj
    have a1 := star_fact (N := N) (m := m) (out := []) hS hj (by simp)
    have a2 := star_link (m := m) (out := []) hS hj hnj
    have a3 := star_link (m := m) (out := []) hS hi hn
    have h1 := gApt_two (S := S) (ls := lnkN N S) (fs := keptN m [] S) (u := 0) (x := j + 1) (y := (fstN N S).toNat + 1) (v := i + 1) (by omega) (by omega) (by omega) (by omega)
    have h2 := gApt_two (S := S) (ls := lnkN N S) (fs := keptN m [] S) (u := i + 1) (x := (fstN N S).toNat + 1) (y := j + 1) (v := 0) (by omega) (by omega) (by omega) (by omega)
    omega
  have ui := up i hi hn
  have hmi := hm i hi
  constructor
  · rcases whoN_lo N m S with g | ⟨j, hj, hnj, g⟩
    · omega
    · have := up j hj hnj; omega
  · rcases whoN_hi N m S with g | ⟨j, hj, hnj, g⟩
    · have := b3 i hi hn; omega
    · have := up j hj hnj; omega
end Go.Sp
/-
  The shortest lists that can be left out, plainly.
-/
namespace Go.Sp
open Go Go.Proofs
/-- All lists that go on with so many numbers, from one on. -/
def addF (P : List Int → Bool) (n : Nat) : Nat → List Int → Nat → List (List Int)
  | 0, l, _ => if P l = true then [l] else []
  | m + 1, l, a => (List.range (n - m - a)).flatMap fun d => addF P n m (l ++ [((a + d : Nat) : Int)]) (a + d + 1)
/-- Those of the shortest that are found, up to some length. -/
def shoF (P : List Int → Bool) (n : Nat) : Nat → List (List Int)
  | 0 => []
  | k + 1 => if (shoF P n k).length = 0 then addF P n k [] 0 else shoF P n k
/-- Rising numbers from one on, below another one. -/
def risF (a n : Nat) : List Nat → Prop
  | [] => True
  | x :: l => a ≤ x ∧ x < n ∧ risF (x + 1) n l
theorem addF_mem (P : List Int → Bool) (n : Nat) : ∀ (m : Nat) (l : List Int) (a : Nat) (y : List Int), y ∈ addF P n m l a ↔ ∃ c : List Nat, c.length = m ∧ risF a n c ∧ y = l ++ c.map (fun x => ((x : Nat) : Int)) ∧ P y = true
  | 0, l, a, y => by
    unfold addF
    constructor
    · intro h
      by_cases hp : P l = true
      · rw [if_pos hp] at h
        obtain rfl := List.mem_singleton.1 h
        exact ⟨[], rfl, trivial, by simp, hp⟩
      · rw [if_neg hp] at h; cases h
    · rintro ⟨c, hc, _, rfl, hp⟩
      obtain rfl := List.eq_nil_of_length_eq_zero hc
      simp only [List.map_nil, List.append_nil] at hp ⊢
      rw [if_pos hp]; exact List.mem_singleton.2 rfl
  | m + 1, l, a, y => by
    unfold addF
    rw [List.mem_flatMap]
    constructor
    · rintro ⟨d, hd, h⟩
      rw [List.mem_range] at hd
      obtain ⟨c, hc, hr, rfl, hp⟩ := (addF_mem P n m _ _ y).1 h
      refine ⟨(a + d) :: c, by simp [hc], ⟨by omega, by omega, hr⟩, by simp, hp⟩
    · rintro ⟨c, hc, hr, rfl, hp⟩
      match c, hc, hr, hp with
      | x :: c, hc, hr, hp =>
        obtain ⟨h1, h2, h3⟩ := hr
        have hlen : c.length = m := by simpa using hc
        have hroom : ∀ (c : List Nat) (b : Nat), risF b n c → b ≤ n → b + c.length ≤ n := by
          intro c
          induction c with
          | nil => intro b _ hb; simpa using hb
          | cons z c ih => intro b hz hb; have := ih (z + 1) hz.2.2 (by have := hz.2.1; omega); have := hz.1; simp only [List.length_cons]; omega
        have := hroom c (x + 1) h3 (by omega)
        refine ⟨x - a, List.mem_range.2 (by omega), (addF_mem P n m _ _ _).2 ⟨c, hlen, ?_, ?_, hp⟩⟩
        · rw [show a + (x - a) + 1 = x + 1 by omega]; exact h3
        · rw [show a + (x - a) = x by omega]; simp
theorem shoF_none (P : List Int → Bool) (n : Nat) : ∀ k, (shoF P n k).length = 0 → ∀ j, j < k → (addF P n j [] 0).length = 0
  | 0, _, j, hj => absurd hj (Nat.not_lt_zero _)
  | k + 1, h, j, hj => by
    unfold shoF at h
    by_cases hc : (shoF P n k).length = 0
    · rw [if_pos hc] at h
      rcases Nat.lt_succ_iff_lt_or_eq.1 hj with hj | rfl
      · exact shoF_none P n k hc j hj
      · exact h
    · rw [if_neg hc] at h; exact absurd h hc
/-- What is found is of one length, and of a lesser length nothing is. -/
theorem shoF_some (P : List Int → Bool) (n : Nat) : ∀ k, (shoF P n k).length ≠ 0 → ∃ j, j < k ∧ shoF P n k = addF P n j [] 0 ∧ ∀ i, i < j → (addF P n i [] 0).length = 0
  | 0, h => absurd rfl h
  | k + 1, h => by
    by_cases hc : (shoF P n k).length = 0
    · rw [shoF, if_pos hc] at h ⊢
      exact ⟨k, by omega, rfl, shoF_none P n k hc⟩
    · rw [shoF, if_neg hc]
      obtain ⟨j, hj, h1, h2⟩ := shoF_some P n k hc
      exact ⟨j, by omega, h1, h2⟩
/-- The first of the shortest lists: it can be left out, and no shorter one can. -/
theorem sho_head {P : List Int → Bool} {n k : Nat} {c : List Nat} (hc : risF 0 n c) (hp : P (c.map fun x => ((x : Nat) : Int)) = true) (hk : c.length < k) :
    ∃ d : List Nat, (shoF P n k).head? = some (d.map fun x => ((x : Nat) : Int)) ∧ risF 0 n d ∧ P (d.map fun x => ((x : Nat) : Int)) = true ∧ ∀ c' : List Nat, risF 0 n c' → P (c'.map fun x => ((x : Nat) : Int)) = true → d.length ≤ c'.length := by
  have hin : ∀ c' : List Nat, risF 0 n c' → P (c'.map fun x => ((x : Nat) : Int)) = true → (addF P n c'.length [] 0).length ≠ 0 := by
    intro c' h1 h2 h3
    have hm := (addF_mem P n c'.length [] 0 (c'.map fun x => ((x : Nat) : Int))).2 ⟨c', rfl, h1, by simp, h2⟩
    rw [List.eq_nil_of_length_eq_zero h3] at hm
    cases hm
  have hne : (shoF P n k).length ≠ 0 := fun h => hin c hc hp (shoF_none P n k h _ hk)
  obtain ⟨j, hj, h1, h2⟩ := shoF_some P n k hne
  match e : shoF P n k, hne with
  | y :: r, _ =>
    have hy : y ∈ addF P n j [] 0 := by rw [← h1, e]; exact List.mem_cons_self
    obtain ⟨d, hd1, hd2, hd3, hd4⟩ := (addF_mem P n j [] 0 y).1 hy
    rw [List.nil_append] at hd3
    subst hd3
    refine ⟨d, by rw [List.head?_cons], hd2, hd4, fun c' hc1 hc2 => ?_⟩
    rcases Nat.lt_or_ge c'.length d.length with g | g
    · exact absurd (h2 c'.length (by omega)) (hin c' hc1 hc2)
    · exact g
theorem risF_mem {n : Nat} : ∀ {c : List Nat} {a : Nat}, risF a n c → ∀ x ∈ c, a ≤ x ∧ x < n
  | [], _, _, x, hx => by cases hx
  | z :: c, a, h, x, hx => by
    rcases List.mem_cons.1 hx with rfl | hx
    · exact ⟨h.1, h.2.1⟩
    · have := risF_mem h.2.2 x hx
      have := h.1
      omega
theorem risF_erase {n p : Nat} : ∀ {c : List Nat} {a : Nat}, risF a n c → risF a n (c.filter fun x => decide (x ≠ p))
  | [], _, _ => trivial
  | z :: c, a, h => by
    have ih := risF_erase (p := p) h.2.2
    by_cases e : z = p
    · rw [List.filter_cons_of_neg (by simp [e])]
      have hmono : ∀ {c : List Nat} {a b : Nat}, b ≤ a → risF a n c → risF b n c := by
        intro c a b hb hh
        match c, hh with
        | [], _ => trivial
        | w :: c, hh => exact ⟨by have := hh.1; omega, hh.2.1, hh.2.2⟩
      exact hmono (by have := h.1; omega) ih
    · rw [List.filter_cons_of_pos (by simp [e])]
      exact ⟨h.1, h.2.1, ih⟩
/-- All bottles that were never opened but the first one. -/
def othN (N : Nat → Bool) (f : Nat) : Nat → List Nat
  | 0 => []
  | k + 1 => if N k = true ∧ k ≠ f then othN N f k ++ [k] else othN N f k
theorem othN_mem (N : Nat → Bool) (f : Nat) : ∀ k x, x ∈ othN N f k ↔ x < k ∧ N x = true ∧ x ≠ f
  | 0, x => ⟨fun h => absurd h List.not_mem_nil, fun h => absurd h.1 (Nat.not_lt_zero _)⟩
  | k + 1, x => by
    have ih := othN_mem N f k x
    by_cases hc : N k = true ∧ k ≠ f
    · rw [othN, if_pos hc, List.mem_append, ih, List.mem_singleton]
      constructor
      · rintro (h | rfl)
        · exact ⟨by omega, h.2⟩
        · exact ⟨by omega, hc⟩
      · rintro ⟨h1, h2⟩
        rcases Nat.lt_succ_iff_lt_or_eq.1 h1 with h1 | rfl
        · exact .inl ⟨h1, h2⟩
        · exact .inr rfl
    · rw [othN, if_neg hc, ih]
      constructor
      · rintro ⟨h1, h2⟩; exact ⟨by omega, h2⟩
      · rintro ⟨h1, h2⟩
        rcases Nat.lt_succ_iff_lt_or_eq.1 h1 with h1 | rfl
        · exact ⟨h1, h2⟩
        · exact absurd h2 hc
theorem risF_snoc {n k : Nat} : ∀ {c : List Nat} {a : Nat}, risF a k c → a ≤ k → k < n → risF a n (c ++ [k])
  | [], a, _, ha, hk => ⟨ha, hk, trivial⟩
  | z :: c, a, h, _, hk => ⟨h.1, by have := h.2.1; omega, risF_snoc h.2.2 (by have := h.2.1; omega) hk⟩
theorem risF_up {n k : Nat} : ∀ {c : List Nat} {a : Nat}, risF a k c → k ≤ n → risF a n c
  | [], _, _, _ => trivial
  | z :: c, a, h, hk => ⟨h.1, by have := h.2.1; omega, risF_up h.2.2 hk⟩
theorem othN_ris (N : Nat → Bool) (f : Nat) : ∀ k, risF 0 k (othN N f k)
  | 0 => trivial
  | k + 1 => by
    by_cases hc : N k = true ∧ k ≠ f
    · rw [othN, if_pos hc]; exact risF_snoc (othN_ris N f k) (Nat.zero_le _) (by omega)
    · rw [othN, if_neg hc]; exact risF_up (othN_ris N f k) (by omega)
theorem othN_len (N : Nat → Bool) (f : Nat) (hf : N f = true) : ∀ k, (othN N f k).length + (if f < k then 1 else 0) = cntN N k
  | 0 => rfl
  | k + 1 => by
    have ih := othN_len N f hf k
    unfold othN cntN
    by_cases h1 : N k = true
    · rw [if_pos h1]
      by_cases h2 : k = f
      · subst h2
        rw [if_neg (by simp), if_pos (by omega)]
        rw [if_neg (by omega)] at ih
        omega
      · rw [if_pos ⟨h1, h2⟩, List.length_append, List.length_singleton]
        by_cases h3 : f < k
        · rw [if_pos h3] at ih; rw [if_pos (by omega)]; omega
        · rw [if_neg h3] at ih; rw [if_neg (by omega)]; omega
    · have h2 : k ≠ f := fun e => h1 (by rw [e]; exact hf)
      rw [if_neg h1, if_neg (fun g => h1 g.1)]
      by_cases h3 : f < k
      · rw [if_pos h3] at ih; rw [if_pos (by omega)]; exact ih
      · rw [if_neg h3] at ih; rw [if_neg (by omega)]; exact ih
/-- Whether nothing contradicts itself. -/
def gOkB (g : List Int) : Bool := (List.range 4).all fun n => decide (0 ≤ gAt g n n)
theorem gOkB_iff {g : List Int} : gOkB g = true ↔ gOk g := by
  unfold gOkB gOk
  rw [List.all_eq_true]
  constructor
  · intro h n hn; exact of_decide_eq_true (h n (List.mem_range.2 hn))
  · intro h n hn; exact decide_eq_true (h n (List.mem_range.1 hn))
theorem mem_cast {c : List Nat} {i : Nat} : ((i : Nat) : Int) ∈ c.map (fun x => ((x : Nat) : Int)) ↔ i ∈ c := by
  rw [List.mem_map]
  constructor
  · rintro ⟨a, h, e⟩; rw [← show a = i by omega]; exact h
  · exact fun h => ⟨i, h, rfl⟩
/-- The law: what is left out. -/
theorem star_leave {S : Nat} (hS : S ≤ 3) {N : Nat → Bool} {m : Nat → Int × Int} (hm : MnOk S m) {k : Nat} (hk : S < k) (P : List Int → Bool) (hP : ∀ c : List Nat, P (c.map fun x => ((x : Nat) : Int)) = true ↔ gOk (gApt S (lnkN N S) (keptN m (c.map fun x => ((x : Nat) : Int)) S))) :
    ∃ d : List Nat, (shoF P S k).head? = some (d.map fun x => ((x : Nat) : Int)) ∧
      (cntN N S = 0 ∨ (whoN N m S).1 ≤ (whoN N m S).2 → d = []) ∧
      (0 < cntN N S → (whoN N m S).2 < (whoN N m S).1 → d ≠ [] ∧ (∀ p ∈ d, p < S ∧ N p = true) ∧ d.length < cntN N S) := by
  have hPs : ∀ c : List Nat, P (c.map fun x => ((x : Nat) : Int)) = true ↔ ∀ i j, i < S → j < S → N i = true → N j = true → i ∉ c → j ∉ c → (m i).1 ≤ (m j).2 := by
    intro c
    rw [hP, star_ok hS hm]
    constructor
    · intro h i j hi hj h1 h2 h3 h4; exact h i j hi hj h1 h2 (fun g => h3 (mem_cast.1 g)) (fun g => h4 (mem_cast.1 g))
    · intro h i j hi hj h1 h2 h3 h4; exact h i j hi hj h1 h2 (fun g => h3 (mem_cast.2 g)) (fun g => h4 (mem_cast.2 g))
  obtain ⟨b1, b2, b3⟩ := whoN_le N m S
  have hcnt : cntN N S = 0 → ∀ i, i < S → N i ≠ true := by
    have : ∀ k, cntN N k = 0 → ∀ i, i < k → N i ≠ true := by
      intro k
      induction k with
      | zero => intro _ i hi; exact absurd hi (Nat.not_lt_zero _)
      | succ k ih =>
        intro h i hi
        unfold cntN at h
        by_cases hc : N k = true
        · rw [if_pos hc] at h; omega
        · rw [if_neg hc] at h
          rcases Nat.lt_succ_iff_lt_or_eq.1 hi with hi | rfl
          · exact ih h i hi
          · exact hc
    exact this S
  by_cases hgood : cntN N S = 0 ∨ (whoN N m S).1 ≤ (whoN N m S).2
  · have hp : P ([].map fun x => ((x : Nat) : Int)) = true := (hPs []).2 (fun i j hi hj h1 h2 _ _ => by
      rcases hgood with g | g
      · exact absurd h1 (hcnt g i hi)
      · have := b3 i hi h1; have := b3 j hj h2; omega)
    obtain ⟨d, hd1, hd2, hd3, hd4⟩ := sho_head (P := P) (n := S) (k := k) (c := []) trivial hp (by simp; omega)
    have hd0 : d = [] := List.eq_nil_of_length_eq_zero (by have := hd4 [] trivial hp; simpa using this)
    refine ⟨d, hd1, fun _ => hd0, fun h1 h2 => ?_⟩
    rcases hgood with g | g <;> omega
  · have hc0 : cntN N S ≠ 0 := fun g => hgood (.inl g)
    have hlt : (whoN N m S).2 < (whoN N m S).1 := by
      rcases Int.lt_or_le (whoN N m S).2 (whoN N m S).1 with g | g
      · exact g
      · exact absurd (.inr g) hgood
    have hsome : ∃ i, i < S ∧ N i = true := by
      rcases whoN_lo N m S with e | ⟨i, hi, hn, _⟩
      · rcases whoN_hi N m S with e2 | ⟨i, hi, hn, _⟩
        · omega
        · exact ⟨i, hi, hn⟩
      · exact ⟨i, hi, hn⟩
    obtain ⟨i0, hi0, hn0⟩ := hsome
    have hf0 := fstN_of N S i0 hi0 hn0
    have hfl := (fstN_lt N S).2
    have hfn := fstN_is N S hf0
    have hp : P ((othN N (fstN N S).toNat S).map fun x => ((x : Nat) : Int)) = true := (hPs _).2 (fun i j hi hj h1 h2 h3 h4 => by
      have e1 : i = (fstN N S).toNat := Classical.byContradiction fun g => h3 ((othN_mem N _ S i).2 ⟨hi, h1, g⟩)
      have e2 : j = (fstN N S).toNat := Classical.byContradiction fun g => h4 ((othN_mem N _ S j).2 ⟨hj, h2, g⟩)
      rw [e1, e2]
      have := hm (fstN N S).toNat (by omega)
      omega)
    have hlen := othN_len N (fstN N S).toNat hfn S
    rw [if_pos (by omega)] at hlen
    have hcl : ∀ k, cntN N k ≤ k := by
      intro k
      induction k with
      | zero => exact Nat.le_refl _
      | succ k ih => unfold cntN; by_cases hc : N k = true
                     · rw [if_pos hc]; omega
                     · rw [if_neg hc]; omega
    have := hcl S
    obtain ⟨d, hd1, hd2, hd3, hd4⟩ := sho_head (P := P) (n := S) (k := k) (othN_ris N _ S) hp (by omega)
    have hdl := hd4 _ (othN_ris N _ S) hp
    refine ⟨d, hd1, fun g => absurd g hgood, fun _ _ => ⟨fun e => ?_, fun p hp2 => ?_, by omega⟩⟩
    · subst e
      have hd3' := (hPs []).1 hd3
      rcases whoN_lo N m S with e | ⟨i, hi, hn, e⟩
      · rcases whoN_hi N m S with e2 | ⟨j, hj, hnj, e2⟩
        · omega
        · have := hm j hj; omega
      · rcases whoN_hi N m S with e2 | ⟨j, hj, hnj, e2⟩
        · have := hm i hi; omega
        · have := hd3' i j hi hj hn hnj (by simp) (by simp); omega
    · have hps := risF_mem hd2 p hp2
      refine ⟨hps.2, Classical.byContradiction fun hnp => ?_⟩
      have he : P ((d.filter fun x => decide (x ≠ p)).map fun x => ((x : Nat) : Int)) = true := (hPs _).2 (fun i j hi hj h1 h2 h3 h4 => by
        have hd3' := (hPs d).1 hd3
        refine hd3' i j hi hj h1 h2 (fun g => h3 (List.mem_filter.2 ⟨g, ?_⟩)) (fun g => h4 (List.mem_filter.2 ⟨g, ?_⟩))
        · exact decide_eq_true (fun e => hnp (by rw [← e]; exact h1))
        · exact decide_eq_true (fun e => hnp (by rw [← e]; exact h2)))
      have hlt2 := hd4 _ (risF_erase (p := p) hd2) he
      have hlen2 : (d.filter fun x => decide (x ≠ p)).length < d.length := by
        rcases Nat.lt_or_ge (d.filter fun x => decide (x ≠ p)).length d.length with g | g
        · exact g
        · exfalso
          have hle := List.length_filter_le (fun x => decide (x ≠ p)) d
          have heq : (d.filter fun x => decide (x ≠ p)).length = d.length := Nat.le_antisymm hle g
          have hall := List.length_filter_eq_length_iff.1 heq p hp2
          simp at hall
      omega
end Go.Sp
/-
  Tables, plainly: the strength at a point.
-/
namespace Go.Sp
open Go Go.Proofs
structure Tab where
  ws : List Int
  ms : List Int
  vs : List (List Int)
/-- Rising numbers from 0 to some one. -/
def risL (most : Int) (l : List Int) : Prop := ∀ i, i < l.length → (0 ≤ l.getD i 0 ∧ l.getD i 0 ≤ most) ∧ (0 < i → l.getD (i - 1) 0 < l.getD i 0)
structure VTab (t : Tab) : Prop where
  w2 : 2 ≤ t.ws.length
  w5 : t.ws.length ≤ 5
  m2 : 2 ≤ t.ms.length
  m5 : t.ms.length ≤ 5
  v : t.vs.length = t.ws.length
  wr : risL 40 t.ws
  mr : risL 60 t.ms
  row : ∀ i, i < t.vs.length → (t.vs.getD i []).length = t.ms.length ∧ ∀ k, k < t.ms.length → 0 ≤ (t.vs.getD i []).getD k 0 ∧ (t.vs.getD i []).getD k 0 ≤ 2000
theorem risL.le {most : Int} {l : List Int} (h : risL most l) (i : Nat) : ∀ d, i + d < l.length → l.getD i 0 ≤ l.getD (i + d) 0
  | 0, _ => Int.le_refl _
  | d + 1, hd => by
    have h1 := h.le i d (by omega)
    have h2 := (h (i + d + 1) (by omega)).2 (by omega)
    rw [show i + d + 1 - 1 = i + d by omega] at h2
    rw [show i + (d + 1) = i + d + 1 by omega]
    omega
/-- The index of an entry with the next one, between which a number is. -/
def IsCell (l : List Int) (n : Int) (i : Nat) : Prop := i + 2 ≤ l.length ∧ l.getD i 0 ≤ n ∧ (i + 2 = l.length ∨ n < l.getD (i + 1) 0)
theorem IsCell.one {most : Int} {l : List Int} (h : risL most l) {n : Int} {i j : Nat} (hi : IsCell l n i) (hj : IsCell l n j) : i = j := by
  have key : ∀ {i j : Nat}, IsCell l n i → IsCell l n j → ¬ i < j := by
    intro i j hi hj hlt
    have h1 := h.le (i + 1) (j - (i + 1)) (by have := hj.1; omega)
    rw [show i + 1 + (j - (i + 1)) = j by omega] at h1
    have h2 := hj.2.1
    rcases hi.2.2 with e | e
    · have := hj.1; omega
    · omega
  have := key hi hj
  have := key hj hi
  omega
/-- What a point of a cell is worth, of so much in all. -/
def atS (t : Tab) (i k : Nat) (w m : Int) : Int :=
  (t.vs.getD i []).getD k 0 * ((t.ws.getD (i + 1) 0 - w) * (t.ms.getD (k + 1) 0 - m)) + (t.vs.getD (i + 1) []).getD k 0 * ((w - t.ws.getD i 0) * (t.ms.getD (k + 1) 0 - m)) + (t.vs.getD i []).getD (k + 1) 0 * ((t.ws.getD (i + 1) 0 - w) * (m - t.ms.getD k 0)) + (t.vs.getD (i + 1) []).getD (k + 1) 0 * ((w - t.ws.getD i 0) * (m - t.ms.getD k 0))
def atA (t : Tab) (i k : Nat) : Int := (t.ws.getD (i + 1) 0 - t.ws.getD i 0) * (t.ms.getD (k + 1) 0 - t.ms.getD k 0)
def atC (t : Tab) (i k : Nat) (w m : Int) : Int := (2 * atS t i k w m + atA t i k) / (2 * atA t i k)
open Classical in
noncomputable def atF (t : Tab) (w m : Int) : Int := if h : ∃ p : Nat × Nat, IsCell t.ws w p.1 ∧ IsCell t.ms m p.2 then atC t h.choose.1 h.choose.2 w m else 0
theorem atF_is {t : Tab} (hv : VTab t) {w m : Int} {i k : Nat} (hi : IsCell t.ws w i) (hk : IsCell t.ms m k) : atF t w m = atC t i k w m := by
  have h : ∃ p : Nat × Nat, IsCell t.ws w p.1 ∧ IsCell t.ms m p.2 := ⟨(i, k), hi, hk⟩
  unfold atF
  rw [dif_pos h]
  have e1 := IsCell.one hv.wr h.choose_spec.1 hi
  have e2 := IsCell.one hv.mr h.choose_spec.2 hk
  rw [e1, e2]
/-- A point of a table. -/
def IsPt (t : Tab) (w m : Int) : Prop := (t.ws.getD 0 0 ≤ w ∧ w ≤ t.ws.getD (t.ws.length - 1) 0) ∧ t.ms.getD 0 0 ≤ m ∧ m ≤ t.ms.getD (t.ms.length - 1) 0
theorem div_half {n a : Int} (hn : 0 ≤ n) (ha : 0 < a) : (2 * n + a) / (2 * a) = n / a + if a ≤ 2 * (n - n / a * a) then 1 else 0 := by
  have e := Int.mul_ediv_add_emod n a
  have r0 := Int.emod_nonneg n (Int.ne_of_gt ha)
  have r1 := Int.emod_lt_of_pos n ha
  generalize hq : n / a = q at *
  generalize hr : n % a = r at *
  rw [Int.mul_comm a q] at e
  have e2 : 2 * n + a = (2 * r + a) + (2 * a) * q := by
    rw [Int.mul_assoc, Int.mul_comm a q]; omega
  rw [e2, Int.add_mul_ediv_left _ _ (by omega)]
  by_cases h : a ≤ 2 * (n - q * a)
  · rw [if_pos h]
    have e3 : 2 * r + a = (2 * r - a) + (2 * a) * 1 := by omega
    rw [e3, Int.add_mul_ediv_left _ _ (by omega), Int.ediv_eq_zero_of_lt (by omega) (by omega)]
    omega
  · rw [if_neg h, Int.ediv_eq_zero_of_lt (by omega) (by omega)]
    omega
structure AtB (t : Tab) (i k : Nat) (w m : Int) : Prop where
  a : 0 < atA t i k
  a2 : atA t i k ≤ 2400
  s : 0 ≤ atS t i k w m
  s2 : atS t i k w m ≤ 2000 * atA t i k
theorem at_bounds {t : Tab} (hv : VTab t) {w m : Int} {i k : Nat} (hi : IsCell t.ws w i) (hk : IsCell t.ms m k) (hp : IsPt t w m) : AtB t i k w m := by
  obtain ⟨hi1, hi2, hi3⟩ := hi
  obtain ⟨hk1, hk2, hk3⟩ := hk
  have hwi := (hv.wr (i + 1) (by omega)).2 (by omega)
  have hmk := (hv.mr (k + 1) (by omega)).2 (by omega)
  rw [Nat.add_sub_cancel] at hwi hmk
  have b1 := hv.wr i (by omega)
  have b2 := hv.wr (i + 1) (by omega)
  have b3 := hv.mr k (by omega)
  have b4 := hv.mr (k + 1) (by omega)
  have hw : w ≤ t.ws.getD (i + 1) 0 := by
    rcases hi3 with e | e
    · have := hp.1.2; rw [show t.ws.length - 1 = i + 1 by omega] at this; exact this
    · omega
  have hm : m ≤ t.ms.getD (k + 1) 0 := by
    rcases hk3 with e | e
    · have := hp.2.2; rw [show t.ms.length - 1 = k + 1 by omega] at this; exact this
    · omega
  have hvl := hv.v
  have v1 := (hv.row i (by omega)).2 k (by omega)
  have v2 := (hv.row (i + 1) (by omega)).2 k (by omega)
  have v3 := (hv.row i (by omega)).2 (k + 1) (by omega)
  have v4 := (hv.row (i + 1) (by omega)).2 (k + 1) (by omega)
  have key : ∀ {W0 W1 M0 M1 V1 V2 V3 V4 : Int}, W0 < W1 → M0 < M1 → W1 - W0 ≤ 40 → M1 - M0 ≤ 60 → W0 ≤ w → w ≤ W1 → M0 ≤ m → m ≤ M1 → (0 ≤ V1 ∧ V1 ≤ 2000) → (0 ≤ V2 ∧ V2 ≤ 2000) → (0 ≤ V3 ∧ V3 ≤ 2000) → (0 ≤ V4 ∧ V4 ≤ 2000) →
      (0 < (W1 - W0) * (M1 - M0) ∧ (W1 - W0) * (M1 - M0) ≤ 2400) ∧ 0 ≤ V1 * ((W1 - w) * (M1 - m)) + V2 * ((w - W0) * (M1 - m)) + V3 * ((W1 - w) * (m - M0)) + V4 * ((w - W0) * (m - M0)) ∧ V1 * ((W1 - w) * (M1 - m)) + V2 * ((w - W0) * (M1 - m)) + V3 * ((W1 - w) * (m - M0)) + V4 * ((w - W0) * (m - M0)) ≤ 2000 * ((W1 - W0) * (M1 - M0)) := by
    intro W0 W1 M0 M1 V1 V2 V3 V4 h1 h2 h3 h4 h5 h6 h7 h8 g1 g2 g3 g4
    have p1 : 0 ≤ (W1 - w) * (M1 - m) := Int.mul_nonneg (by omega) (by omega)
    have p2 : 0 ≤ (w - W0) * (M1 - m) := Int.mul_nonneg (by omega) (by omega)
    have p3 : 0 ≤ (W1 - w) * (m - M0) := Int.mul_nonneg (by omega) (by omega)
    have p4 : 0 ≤ (w - W0) * (m - M0) := Int.mul_nonneg (by omega) (by omega)
    have e : (W1 - W0) * (M1 - M0) = (W1 - w) * (M1 - m) + (w - W0) * (M1 - m) + (W1 - w) * (m - M0) + (w - W0) * (m - M0) := by
      have e1 : (W1 - w) * (M1 - m) + (W1 - w) * (m - M0) = (W1 - w) * (M1 - M0) := by rw [← Int.mul_add]; congr 1; omega
      have e2 : (w - W0) * (M1 - m) + (w - W0) * (m - M0) = (w - W0) * (M1 - M0) := by rw [← Int.mul_add]; congr 1; omega
      have e3 : (W1 - w) * (M1 - M0) + (w - W0) * (M1 - M0) = (W1 - W0) * (M1 - M0) := by rw [← Int.add_mul]; congr 1; omega
      omega
    have q1 := Int.mul_le_mul_of_nonneg_right g1.2 p1
    have q2 := Int.mul_le_mul_of_nonneg_right g2.2 p2
    have q3 := Int.mul_le_mul_of_nonneg_right g3.2 p3
    have q4 := Int.mul_le_mul_of_nonneg_right g4.2 p4
    have r1 := Int.mul_nonneg g1.1 p1
    have r2 := Int.mul_nonneg g2.1 p2
    have r3 := Int.mul_nonneg g3.1 p3
    have r4 := Int.mul_nonneg g4.1 p4
    have s1 : 0 < (W1 - W0) * (M1 - M0) := Int.mul_pos (by omega) (by omega)
    have s2 : (W1 - W0) * (M1 - M0) ≤ 40 * 60 := Int.le_trans (Int.mul_le_mul_of_nonneg_right h3 (by omega)) (Int.mul_le_mul_of_nonneg_left h4 (by decide))
    exact ⟨⟨s1, by omega⟩, by omega, by omega⟩
  obtain ⟨⟨k1, k2⟩, k3, k4⟩ := key hwi hmk (by omega) (by omega) hi2 hw hk2 hm v1 v2 v3 v4
  exact ⟨k1, k2, k3, k4⟩
theorem atC_le {t : Tab} {i k : Nat} {w m : Int} (h : AtB t i k w m) : 0 ≤ atC t i k w m ∧ atC t i k w m ≤ 2000 := by
  obtain ⟨h1, h2, h3, h4⟩ := h
  unfold atC
  refine ⟨Int.ediv_nonneg (by omega) (by omega), ?_⟩
  have : (2 * atS t i k w m + atA t i k) / (2 * atA t i k) < 2001 := Int.ediv_lt_of_lt_mul (by omega) (by omega)
  omega
theorem cell_ex {most : Int} {l : List Int} (h : risL most l) (h2 : 2 ≤ l.length) {n : Int} (h0 : l.getD 0 0 ≤ n) : ∃ i, IsCell l n i := by
  have : ∀ d i, i + d + 2 = l.length → l.getD i 0 ≤ n → ∃ j, IsCell l n j := by
    intro d
    induction d with
    | zero => intro i hi hn; exact ⟨i, by omega, hn, .inl (by omega)⟩
    | succ d ih =>
      intro i hi hn
      rcases Int.lt_or_le n (l.getD (i + 1) 0) with g | g
      · exact ⟨i, by omega, hn, .inr g⟩
      · exact ih (i + 1) (by omega) g
  exact this (l.length - 2) 0 (by omega) h0
theorem atF_le {t : Tab} (hv : VTab t) {w m : Int} (hp : IsPt t w m) : 0 ≤ atF t w m ∧ atF t w m ≤ 2000 := by
  obtain ⟨i, hi⟩ := cell_ex hv.wr hv.w2 hp.1.1
  obtain ⟨k, hk⟩ := cell_ex hv.mr hv.m2 hp.2.1
  rw [atF_is hv hi hk]
  exact atC_le (at_bounds hv hi hk hp)
/-- The bounds of the strengths at one warmth, from a mark on, over so many marks. -/
noncomputable def bndF (t : Tab) (w lo : Int) (r : Int × Int) : Nat → Int × Int
  | 0 => r
  | k + 1 => (min (bndF t w lo r k).1 (atF t w (lo + k)), max (bndF t w lo r k).2 (atF t w (lo + k)))
/-- What is started from makes no difference. -/
theorem bndF_eq {t : Tab} (hv : VTab t) {w lo : Int} {k : Nat} (hp : ∀ i, i < k + 1 → IsPt t w (lo + (i : Nat))) : bndF t w lo (9999, -1) (k + 1) = bndF t w lo (2000, 0) (k + 1) := by
  induction k with
  | zero =>
    have := atF_le hv (hp 0 (by omega))
    show (min 9999 (atF t w (lo + ((0 : Nat) : Int))), max (-1) (atF t w (lo + ((0 : Nat) : Int)))) = (min 2000 (atF t w (lo + ((0 : Nat) : Int))), max 0 (atF t w (lo + ((0 : Nat) : Int))))
    congr 1 <;> omega
  | succ k ih =>
    have ih' := ih (fun i hi => hp i (by omega))
    rw [bndF, ih']; rfl
theorem bndF_le {t : Tab} (hv : VTab t) {w lo : Int} : ∀ k, (∀ i, i < k + 1 → IsPt t w (lo + (i : Nat))) → 0 ≤ (bndF t w lo (2000, 0) (k + 1)).1 ∧ (bndF t w lo (2000, 0) (k + 1)).1 ≤ (bndF t w lo (2000, 0) (k + 1)).2 ∧ (bndF t w lo (2000, 0) (k + 1)).2 ≤ 2000
  | 0, hp => by
    have := atF_le hv (hp 0 (by omega))
    show 0 ≤ min 2000 (atF t w (lo + ((0 : Nat) : Int))) ∧ min 2000 (atF t w (lo + ((0 : Nat) : Int))) ≤ max 0 (atF t w (lo + ((0 : Nat) : Int))) ∧ max 0 (atF t w (lo + ((0 : Nat) : Int))) ≤ 2000
    omega
  | k + 1, hp => by
    have ih := bndF_le hv k (fun i hi => hp i (by omega))
    have := atF_le hv (hp (k + 1) (by omega))
    rw [bndF]
    dsimp only
    omega
end Go.Sp
/-
  Samples: what is spoken of; slices of structs, in general.
-/
namespace Go.Sp
open Go Go.Proofs
/-- A slice of structs of k cells that reads as xs. -/
def RdS {α : Type} (k : Nat) (enc : α → List Value) (w : World) (v : Value) (xs : List α) : Prop := Reads w v k xs.length (xs.flatMap enc)
theorem RdS.frS {α : Type} {k : Nat} {enc : α → List Value} {w w' : World} {v : Value} {xs : List α} {S : List Nat} (h : RdS k enc w v xs) (f : Fr S w w') (hS : sepS v S) : RdS k enc w' v xs := Reads.frS h f hS
theorem RdS.fr {α : Type} {k : Nat} {enc : α → List Value} {w w' : World} {v : Value} {xs : List α} (h : RdS k enc w v xs) (f : Fr [] w w') : RdS k enc w' v xs := Reads.frS h f (by simp)
theorem RdS.frM {α : Type} {k : Nat} {enc : α → List Value} {w w' : World} {v : Value} {xs : List α} {S : List Nat} (h : RdS k enc w v xs) (f : Fr S w w') (hS : ∀ x ∈ S, ∃ es ck, w.heap[x]? = some (.map es ck)) : RdS k enc w' v xs := Reads.frM h f hS
theorem RdS.one {α : Type} {k : Nat} {enc : α → List Value} {w : World} {v : Value} {xs : List α} (h : RdS k enc w v xs) : v.oneCell' = true := by obtain ⟨_, ad, cap, rfl, _⟩ := h; rfl
theorem RdS.nil {α : Type} (k : Nat) (enc : α → List Value) (w : World) (c : Nat) : RdS k enc w (.slice none 0 c) [] := ⟨by simp, none, c, rfl, fun h => absurd rfl h⟩
theorem flatS_get {α : Type} {k : Nat} {enc : α → List Value} (hk : ∀ x, (enc x).length = k) (d : α) (xs : List α) : ∀ (i j : Nat), i < xs.length → j < k → (xs.flatMap enc)[i * k + j]? = (enc (xs.getD i d))[j]? := by
  induction xs with
  | nil => intro i j hi; simp at hi
  | cons r l ih =>
    intro i j hi hj
    rw [List.flatMap_cons]
    cases i with
    | zero => rw [Nat.zero_mul, Nat.zero_add, List.getElem?_append_left (by rw [hk]; exact hj)]; rfl
    | succ i =>
      rw [List.getElem?_append_right (by rw [hk, Nat.succ_mul]; omega), hk, show (i + 1) * k + j - k = i * k + j from by rw [Nat.succ_mul]; omega, ih i j (by simpa using hi) hj]; rfl
theorem CA.ofGet {f : Nat → Option Value} : ∀ (vs : List Value) (o n : Nat), vs.length = n → (∀ j, j < n → f (o + j) = vs[j]?) → CA f o n vs
  | [], o, n, hn, _ => by subst hn; exact .nil
  | v :: vs, o, n, hn, h => by
    subst hn
    exact .cons (by simpa using h 0 (by simp)) (CA.ofGet vs (o + 1) vs.length rfl (fun j hj => by have := h (j + 1) (by simpa using hj); rw [show o + 1 + j = o + (j + 1) from by omega, this]; rfl))
/-- Laid open. -/
theorem RdS.open {α : Type} {k : Nat} {enc : α → List Value} {w : World} {v : Value} {xs : List α} (h : RdS k enc w v xs) (hk : ∀ x, (enc x).length = k) (d : α) :
    ∃ ad cap b o, v = .slice ad xs.length cap ∧ (0 < xs.length → ad = some ⟨b, o, none⟩) ∧ ∀ w' S, Fr S w w' → b ∉ S → ∀ i, i < xs.length → CA (fun n => w'.cell? ⟨b, n, none⟩) (o + i * k) k (enc (xs.getD i d)) := by
  by_cases hn : xs.length = 0
  · obtain ⟨_, ad, cap, h2, _⟩ := h
    exact ⟨ad, cap, 0, 0, h2, fun h => by omega, fun _ _ _ _ i hi => by omega⟩
  · obtain ⟨_, ad, cap, h2, h3⟩ := h
    obtain ⟨b, o, h4, h5⟩ := h3 hn
    refine ⟨ad, cap, b, o, h2, fun _ => h4, fun w' S f hb i hi => CA.ofGet _ _ _ (hk _) fun j hj => ?_⟩
    have hlt : j < (enc (xs.getD i d)).length := by rw [hk]; exact hj
    have g := flatS_get hk d xs i j hi hj
    rw [List.getElem?_eq_getElem hlt] at g ⊢
    have c := h5.get _ _ g
    exact f.cell (p := ⟨b, o + i * k + j, none⟩) hb (by rw [Nat.add_assoc]; exact c)
/-- The slice's own block, since it reads in w; when it has none, any. -/
theorem RdS.opens {α : Type} {k : Nat} {enc : α → List Value} {w : World} {v : Value} {xs : List α} (h : RdS k enc w v xs) (hk : ∀ x, (enc x).length = k) (d : α) {S : List Nat} (hS : sepS v S) :
    ∃ ad cap b o, v = .slice ad xs.length cap ∧ (0 < xs.length → ad = some ⟨b, o, none⟩) ∧ ∀ w', Fr S w w' → ∀ i, i < xs.length → CA (fun n => w'.cell? ⟨b, n, none⟩) (o + i * k) k (enc (xs.getD i d)) := by
  obtain ⟨ad, cap, b, o, rfl, h2, h3⟩ := h.open hk d
  exact ⟨ad, cap, b, o, rfl, h2, fun w' f i hi => h3 w' S f (hS ⟨b, o, none⟩ _ _ (by rw [h2 (by omega)])) i hi⟩
/-- A slice of the own block. -/
theorem RdS.own {α : Type} {k : Nat} {enc : α → List Value} (hk : ∀ x, (enc x).length = k) {bs : List (World × List Nat)} {H : List (Nat × Obj)} {w : World} {b : Nat} {xs : List α} {e : TypeId} {f : Nat × Nat} {cap : Nat} {junk : List Value} (hw : HG bs H w) (hm : HM b (.cells (xs.flatMap enc ++ junk).toArray e f) H) : RdS k enc w (.slice (some ⟨b, 0, none⟩) xs.length cap) xs := by
  have hl : ∀ xs : List α, (xs.flatMap enc).length = xs.length * k := fun xs => by
    induction xs with
    | nil => simp
    | cons r l ih => rw [List.flatMap_cons, List.length_append, hk, ih, List.length_cons, Nat.succ_mul]; omega
  refine ⟨hl xs, some ⟨b, 0, none⟩, cap, rfl, fun _ => ⟨b, 0, rfl, ?_⟩⟩
  have := CA_pre (xs.flatMap enc) junk e f
  rw [hl] at this
  exact this.cells (hw.heap _ hm.mem)
theorem flatS_len {α : Type} {k : Nat} {enc : α → List Value} (hk : ∀ x, (enc x).length = k) (xs : List α) : (xs.flatMap enc).length = xs.length * k := by
  induction xs with
  | nil => simp
  | cons r l ih => rw [List.flatMap_cons, List.length_append, hk, ih, List.length_cons, Nat.succ_mul]; omega
theorem RdS.int {w : World} {v : Value} {xs : List Int} : RdS 1 (fun n : Int => [vi n]) w v xs ↔ RdI w v xs := by
  unfold RdS RdI
  rw [show xs.flatMap (fun n : Int => [vi n]) = xs.map vi from by induction xs with | nil => rfl | cons a l ih => rw [List.flatMap_cons, ih]; rfl]
/-- A pass; a sight; a sample. -/
structure Pas where
  b : Int
  fr : Int
  to : Int
  lo : Int
  hi : Int
deriving DecidableEq, Inhabited
structure Sgt where
  b : Int
  h : Int
  wh : Bool
deriving DecidableEq, Inhabited
structure Smp where
  B : Int
  P : Int
  L : Int
  F : Int
  st : List Bool
  ps : List Pas
  sg : List Sgt
abbrev pas0 : Pas := ⟨0, 0, 0, 0, 0⟩
abbrev sgt0 : Sgt := ⟨0, 0, false⟩
def psE (p : Pas) : List Value := [vi p.b, vi p.fr, vi p.to, vi p.lo, vi p.hi]
abbrev psV (p : Pas) : Value := .agg #[vi p.b, vi p.fr, vi p.to, vi p.lo, vi p.hi]
def sgE (g : Sgt) : List Value := [vi g.b, vi g.h, .bool g.wh]
abbrev sgV (g : Sgt) : Value := .agg #[vi g.b, vi g.h, .bool g.wh]
def boE (b : Bool) : List Value := [.bool b]
theorem psE_len (p : Pas) : (psE p).length = 5 := rfl
theorem sgE_len (g : Sgt) : (sgE g).length = 3 := rfl
theorem boE_len (b : Bool) : (boE b).length = 1 := rfl
abbrev smV (s : Smp) (tv pv gv : Value) : Value := .agg #[vi s.B, vi s.P, vi s.L, vi s.F, tv, pv, gv]
structure RdSm (w : World) (s : Smp) (tv pv gv : Value) : Prop where
  st : RdS 1 boE w tv s.st
  ps : RdS 5 psE w pv s.ps
  sg : RdS 3 sgE w gv s.sg
theorem RdSm.fr {w w' : World} {s : Smp} {tv pv gv : Value} (h : RdSm w s tv pv gv) (f : Fr [] w w') : RdSm w' s tv pv gv := ⟨h.st.fr f, h.ps.fr f, h.sg.fr f⟩
theorem RdSm.frM {w w' : World} {s : Smp} {tv pv gv : Value} {S : List Nat} (h : RdSm w s tv pv gv) (f : Fr S w w') (hS : ∀ x ∈ S, ∃ es ck, w.heap[x]? = some (.map es ck)) : RdSm w' s tv pv gv := ⟨h.st.frM f hS, h.ps.frM f hS, h.sg.frM f hS⟩
def sepSm (tv pv gv : Value) (S : List Nat) : Prop := sepS tv S ∧ sepS pv S ∧ sepS gv S
theorem RdSm.frS {w w' : World} {s : Smp} {tv pv gv : Value} {S : List Nat} (h : RdSm w s tv pv gv) (f : Fr S w w') (hS : sepSm tv pv gv S) : RdSm w' s tv pv gv := ⟨h.st.frS f hS.1, h.ps.frS f hS.2.1, h.sg.frS f hS.2.2⟩
/-- Not too large for a machine: all that a law hands on has few entries. -/
structure Few (s : Smp) : Prop where
  st : s.st.length ≤ 9
  ps : s.ps.length ≤ 9
  sg : s.sg.length ≤ 9
def pasOk (s : Smp) (p : Pas) : Bool := decide ((0 ≤ p.b ∧ p.b ≤ s.B - 1) ∧ (0 ≤ p.fr ∧ p.fr ≤ s.P - 1) ∧ (0 ≤ p.to ∧ p.to ≤ s.P - 1) ∧ ¬ p.fr = p.to ∧ (0 ≤ p.lo ∧ p.lo ≤ s.L) ∧ (0 ≤ p.hi ∧ p.hi ≤ s.L) ∧ p.lo ≤ p.hi)
def sgtOk (s : Smp) (g : Sgt) : Bool := decide ((0 ≤ g.b ∧ g.b ≤ s.B - 1) ∧ (0 ≤ g.h ∧ g.h ≤ s.L))
/-- How many lists of hours there are. -/
def manyS : List Pas → Int
  | [] => 1
  | p :: l => (p.hi - p.lo + 1) * manyS l
/-- The error of a sample. -/
def chkS (s : Smp) : Int :=
  if 3 < s.B ∨ 4 < s.P ∨ 6 < s.ps.length ∨ 6 < s.sg.length then 3
  else if s.B < 1 ∨ s.P < 1 ∨ ¬ (0 ≤ s.L ∧ s.L ≤ 9) ∨ ¬ (s.st.length : Int) = s.P ∨ ¬ (0 ≤ s.F ∧ s.F ≤ s.P - 1) ∨ s.ps.all (pasOk s) = false ∨ s.sg.all (sgtOk s) = false then 1
  else if 1000 < manyS s.ps then 3 else 0
/-- Valid samples. -/
structure VSm (s : Smp) : Prop where
  b1 : 1 ≤ s.B
  b3 : s.B ≤ 3
  p1 : 1 ≤ s.P
  p4 : s.P ≤ 4
  l0 : 0 ≤ s.L
  l9 : s.L ≤ 9
  f0 : 0 ≤ s.F
  f1 : s.F < s.P
  st : (s.st.length : Int) = s.P
  n6 : s.ps.length ≤ 6
  g6 : s.sg.length ≤ 6
  ps : ∀ p ∈ s.ps, (0 ≤ p.b ∧ p.b < s.B) ∧ (0 ≤ p.fr ∧ p.fr < s.P) ∧ (0 ≤ p.to ∧ p.to < s.P) ∧ ¬ p.fr = p.to ∧ 0 ≤ p.lo ∧ p.lo ≤ p.hi ∧ p.hi ≤ s.L
  sg : ∀ g ∈ s.sg, (0 ≤ g.b ∧ g.b < s.B) ∧ 0 ≤ g.h ∧ g.h ≤ s.L
  many : manyS s.ps ≤ 1000
theorem chkS_0 {s : Smp} : chkS s = 0 ↔ VSm s := by
  unfold chkS
  constructor
  · intro h
    split at h
    · cases h
    · rename_i h1
      split at h
      · cases h
      · rename_i h2
        split at h
        · cases h
        · rename_i h3
          simp only [not_or, Decidable.not_not, Bool.not_eq_false] at h1 h2
          obtain ⟨a1, a2, a3, a4⟩ := h1
          obtain ⟨c1, c2, c3, c4, c5, c6, c7⟩ := h2
          refine ⟨by omega, by omega, by omega, by omega, c3.1, c3.2, c5.1, by omega, c4, by omega, by omega, fun p hp => ?_, fun g hg => ?_, by omega⟩
          · have := List.all_eq_true.1 c6 p hp
            unfold pasOk at this
            rw [decide_eq_true_eq] at this
            omega
          · have := List.all_eq_true.1 c7 g hg
            unfold sgtOk at this
            rw [decide_eq_true_eq] at this
            omega
  · intro h
    obtain ⟨b1, b3, p1, p4, l0, l9, f0, f1, hst, n6, g6, hps, hsg, hm⟩ := h
    rw [if_neg (by omega), if_neg, if_neg (by omega)]
    have e1 : s.ps.all (pasOk s) = true := List.all_eq_true.2 fun p hp => by
      have := hps p hp
      unfold pasOk
      rw [decide_eq_true_eq]
      omega
    have e2 : s.sg.all (sgtOk s) = true := List.all_eq_true.2 fun g hg => by
      have := hsg g hg
      unfold sgtOk
      rw [decide_eq_true_eq]
      omega
    rw [e1, e2]
    simp only [Bool.true_eq_false, or_false]
    omega
end Go.Sp
/-
  Package sample: small functions; CheckSample.
-/
namespace Go.Sp
open Go Go.Proofs
theorem mwithin_c (n lo hi : Int) (w : World) : CnV Tryz.prog 55 #[vi n, vi lo, vi hi] w (.bool (decide (lo ≤ n ∧ n ≤ hi))) := by
  refine cnv (vs := [_, _, _]) Tryz.func55 rfl rfl ?_
  all_goals refine tc_seq fun K1 hK1 => ?_; refine tc_region ?_; refine tl_q (y_assign rfl) rfl ?_; refine tl_nil ?_; ((refine hK1 ?_; try (clear hK1; clear K1)))
  all_goals refine tc_seq fun K2 hK2 => ?_; refine tc_region ?_; refine tl_q (y_move rfl) rfl ?_; refine tl_q (y_move rfl) rfl ?_; refine tl_q (y_leq rfl rfl) rfl ?_; refine tl_q (y_move rfl) rfl ?_; ((refine tl_gs rfl rfl (fun hc => ?_) (fun hc => ?_) <;> (skip) <;> (first | refine tl_sk rfl rfl rfl rfl ?_ | refine tl_qg rfl rfl (y_move rfl) rfl ?_)))
  all_goals (first | refine tl_sk rfl rfl rfl rfl ?_ | refine tl_qg rfl rfl (y_move rfl) rfl ?_); (first | refine tl_sk rfl rfl rfl rfl ?_ | refine tl_qg rfl rfl (y_leq rfl rfl) rfl ?_); (first | refine tl_q (y_pick_t rfl rfl) rfl ?_ | refine tl_q (y_pick_f rfl rfl) rfl ?_); refine tl_q (y_assign rfl) rfl ?_; refine tl_nil ?_; ((refine hK2 ?_; try (clear hK2; clear K2)))
  all_goals refine tc_ret ?_; (repeat (first | refine tk_then_ret ?_))
  all_goals (refine tk_ret rfl rfl (.cons (.tmp rfl) .nil) ?_)
  all_goals (
   refine fun w' hw' => ⟨?_, hw'.fr (by simp)⟩; simp only [outV, decide_eq_true_eq, decide_eq_false_iff_not] at *; simp [hc])
def idxG {α : Type} (xs : List α) (p : α → Bool) : Int := if xs.any p then (xs.findIdx p : Int) else -1
theorem idxG_hit {α : Type} {d : α} {xs : List α} {p : α → Bool} {k : Nat} (hk : k < xs.length) (hp : p (xs.getD k d) = true) (hn : ∀ j, j < k → p (xs.getD j d) = false) : idxG xs p = k := by
  rw [List.getD_eq_getElem?_getD, List.getElem?_eq_getElem hk] at hp
  simp only [Option.getD_some] at hp
  have h1 : xs.any p = true := List.any_eq_true.2 ⟨_, List.getElem_mem hk, hp⟩
  unfold idxG
  rw [if_pos h1]
  have : xs.findIdx p = k := by
    apply (List.findIdx_eq hk).2
    refine ⟨hp, fun j hj => ?_⟩
    have := hn j hj
    rw [List.getD_eq_getElem?_getD, List.getElem?_eq_getElem (Nat.lt_trans hj hk)] at this
    simpa using this
  rw [this]
theorem idxG_miss {α : Type} {d : α} {xs : List α} {p : α → Bool} (hn : ∀ j, j < xs.length → p (xs.getD j d) = false) : idxG xs p = -1 := by
  unfold idxG
  rw [if_neg]
  intro h
  obtain ⟨x, hx, hp⟩ := List.any_eq_true.1 h
  obtain ⟨j, hj, rfl⟩ := List.getElem_of_mem hx
  have := hn j hj
  rw [List.getD_eq_getElem?_getD, List.getElem?_eq_getElem hj] at this
  simp only [Option.getD_some] at this
  rw [this] at hp; cases hp
theorem idxG_any {α : Type} (xs : List α) (p : α → Bool) : decide (0 ≤ idxG xs p) = xs.any p := by
  unfold idxG
  cases h : xs.any p
  · simp
  · simp
def TestsG {α : Type} (P : Program) (V : α → Value) (g : FuncId) (first cap : Array Value) (p : α → Bool) (w : World) : Prop := ∀ (x : α) (w' : World), Fr [] w w' → CnV P g (first ++ #[V x] ++ cap) w' (.bool (p x))
theorem TestsG.fr {α : Type} {P : Program} {V : α → Value} {g : FuncId} {first cap : Array Value} {p : α → Bool} {w w1 : World} (h : TestsG P V g first cap p w) (f : Fr [] w w1) : TestsG P V g first cap p w1 := fun x w' f' => h x w' (f.trans f' (by simp))
theorem indexPs_c (g : FuncId) [GoFn Tryz.prog g] (first cap : Array Value) (p : Pas → Bool) (xs : List Pas) (hx : (xs.length : Int) ≤ 9000000000000000000) (sl : Value) (w : World) (hr : RdS 5 psE w sl xs) (ht : TestsG Tryz.prog psV g first cap p w) :
    CnV Tryz.prog 106 #[sl, .func (.func g) first cap] w (vi (idxG xs p)) := by
  obtain ⟨ad, cp, b0, o, rfl, had, hcell⟩ := hr.open psE_len pas0
  refine cnv (vs := [_, _]) Tryz.func106 rfl rfl ?_
  all_goals refine tc_seq fun K1 hK1 => ?_; refine tc_region ?_; refine tl_q (y_assign rfl) rfl ?_; refine tl_nil ?_; ((refine hK1 ?_; try (clear hK1; clear K1)))
  all_goals refine tc_seq fun K2 hK2 => ?_; refine tc_seq fun K3 hK3 => ?_; refine tc_region ?_; refine tl_q (y_move rfl) rfl ?_; refine tl_q (y_len rfl) rfl ?_; refine tl_q (y_move rfl) rfl ?_; refine tl_nil ?_; ((refine hK3 ?_; try (clear hK3; clear K3)))
  all_goals refine tc_block ?_
  all_goals (
   refine tc_loop (fun k : Nat => k ≤ xs.length ∧ ∀ j, j < k → p (xs.getD j pas0) = false) (fun k => [(0, .slice ad xs.length cp), (1, .func (.func g) first cap), (7, vi xs.length), (8, vi k)]) (fun _ => [(w, [])]) (fun _ => []) (fun k => xs.length - k) ?_ ?_
   · exact tk_start 0 ⟨Nat.zero_le _, fun j hj => absurd hj (Nat.not_lt_zero j)⟩ (.cons rfl (.cons rfl (.cons rfl (.cons rfl .nil)))) (fun _ h => h)
   · rintro k ⟨hk, hj⟩
     all_goals refine tc_seq fun K4 hK4 => ?_; refine tc_region ?_; refine tl_q (y_lss rfl rfl) rfl ?_; refine tl_nil ?_; ((refine hK4 ?_; try (clear hK4; clear K4)))
     all_goals refine tc_seq fun K5 hK5 => ?_
     all_goals (
      refine tc_cond rfl (fun hc => ?_) (fun hc => ?_)
      · try simp only [qn1, qn2, qn3, qn4, qn5, qn6, qn7, qn8] at hc
        all_goals refine tc_skip ?_; ((refine hK5 ?_; try (clear hK5; clear K5)))
        all_goals refine tc_seq fun K6 hK6 => ?_; refine tc_block ?_; refine tc_seq fun K7 hK7 => ?_; refine tc_region ?_; refine tl_q (y_move rfl) rfl ?_; refine tl_q (y_assign rfl) rfl ?_; refine tl_nil ?_; ((refine hK7 ?_; try (clear hK7; clear K7)))
        all_goals refine tc_seq fun K8 hK8 => ?_
        have had' := had (by omega)
        all_goals refine tc_region ?_; refine tl_q (y_move rfl) rfl ?_; refine tl_q (y_move rfl) rfl ?_; refine tl_q (y_move rfl) rfl ?_; refine tl_q (y_index rfl rfl (by omega) had') rfl ?_; refine tl_q (y_loadNo (vs := psE (xs.getD (Int.toNat k) pas0)) rfl (fun w' hw' => hcell w' [] (hw'.fr (by simp)) (by simp) (Int.toNat k) (by omega))) rfl ?_; refine tl_e (e_callVf rfl rfl (.cons rfl .nil) (fun w' hw' => ht (xs.getD (Int.toNat k) pas0) w' (hw'.fr (by simp)))) rfl (fun _ _ => ?_); refine tl_nil ?_; ((refine hK8 ?_; try (clear hK8; clear K8)))
        all_goals (
         refine tc_cond rfl (fun hc => ?_) (fun hc => ?_)
         · all_goals (skip)
           all_goals refine tc_seq fun K9 hK9 => ?_; refine tc_region ?_; refine tl_q (y_move rfl) rfl ?_; refine tl_q (y_assign rfl) rfl ?_; refine tl_nil ?_; ((refine hK9 ?_; try (clear hK9; clear K9)))
           all_goals refine tc_ret ?_; (repeat (first | refine tk_then_ret ?_ | refine tk_block_ret ?_))
           all_goals (refine tk_ret rfl rfl (.cons (.tmp rfl) .nil) ?_)
           all_goals (
            first | exact fun w' hw' => ⟨by rw [idxG_hit (k := k) (by omega) (by simpa using hc) hj]; rfl, hw'.fr (by simp)⟩ | exact fun w' hw' => ⟨by rw [idxG_miss (d := pas0) (fun j hjj => hj j (by omega))]; rfl, hw'.fr (by simp)⟩)
         · all_goals (skip)
           all_goals refine tc_skip ?_; ((refine hK6 ?_; try (clear hK6; clear K6)))
           all_goals refine tc_region ?_; refine tl_q (y_add rfl rfl (by omega)) rfl ?_; refine tl_q (y_move rfl) rfl ?_; refine tl_nil ?_
           all_goals (
            exact tk_round (k + 1) ⟨by omega, fun j hj' => by rcases Nat.lt_succ_iff_lt_or_eq.1 hj' with h | rfl; exact hj j h; simpa using hc⟩ (by omega) (.cons rfl (.cons rfl (.cons rfl (.cons rfl .nil)))) (fun _ h => h)))
      · try simp only [qn1, qn2, qn3, qn4, qn5, qn6, qn7, qn8] at hc
        all_goals refine tc_exit ?_; ((refine hK2 ?_; try (clear hK2; clear K2)))
        all_goals refine tc_seq fun K10 hK10 => ?_; refine tc_region ?_; refine tl_q (y_assign rfl) rfl ?_; refine tl_nil ?_; ((refine hK10 ?_; try (clear hK10; clear K10)))
        all_goals refine tc_ret ?_; (repeat (first | refine tk_then_ret ?_))
        all_goals (refine tk_ret rfl rfl (.cons (.tmp rfl) .nil) ?_)
        all_goals (
         first | exact fun w' hw' => ⟨by rw [idxG_hit (k := k) (by omega) (by simpa using hc) hj]; rfl, hw'.fr (by simp)⟩ | exact fun w' hw' => ⟨by rw [idxG_miss (d := pas0) (fun j hjj => hj j (by omega))]; rfl, hw'.fr (by simp)⟩)))
theorem containsFuncPs_c (g : FuncId) [GoFn Tryz.prog g] (first cap : Array Value) (p : Pas → Bool) (xs : List Pas) (hx : (xs.length : Int) ≤ 9000000000000000000) (sl : Value) (w : World) (hr : RdS 5 psE w sl xs) (ht : TestsG Tryz.prog psV g first cap p w) :
    CnV Tryz.prog 83 #[sl, .func (.func g) first cap] w (.bool (xs.any p)) := by
  refine cnv (vs := [_, _]) Tryz.func83 rfl rfl ?_
  all_goals refine tc_seq fun K1 hK1 => ?_; refine tc_region ?_; refine tl_q (y_assign rfl) rfl ?_; refine tl_nil ?_; ((refine hK1 ?_; try (clear hK1; clear K1)))
  all_goals refine tc_seq fun K2 hK2 => ?_; refine tc_region ?_; refine tl_q (y_move rfl) rfl ?_; refine tl_q (y_move rfl) rfl ?_; refine tl_e (e_callV rfl (.cons rfl (.cons rfl .nil)) (fun w' hw' => indexPs_c g first cap p xs hx _ w' (hr.fr (hw'.fr (by simp))) (ht.fr (hw'.fr (by simp))))) rfl (fun _ _ => ?_); refine tl_q (y_geq rfl rfl) rfl ?_; refine tl_q (y_assign rfl) rfl ?_; refine tl_nil ?_; ((refine hK2 ?_; try (clear hK2; clear K2)))
  all_goals refine tc_ret ?_; (repeat (first | refine tk_then_ret ?_))
  all_goals (refine tk_ret rfl rfl (.cons (.tmp rfl) .nil) ?_)
  all_goals (
   exact fun w' hw' => ⟨by rw [← idxG_any]; rfl, hw'.fr (by simp)⟩)
theorem allPs1_c (g : FuncId) [GoFn Tryz.prog g] (first cap : Array Value) (p : Pas → Bool) (x : Pas) (b : Nat) (w : World) (hb : w.cell? ⟨b, 0, none⟩ = some (.func (.func g) first cap)) (ht : TestsG Tryz.prog psV g first cap p w) :
    CnV Tryz.prog 84 #[psV x, .pointer (some ⟨b, 0, none⟩)] w (.bool (!(p x))) := by
  refine cnv (vs := [_, _]) Tryz.func84 rfl rfl ?_
  all_goals refine tc_seq fun K1 hK1 => ?_; refine tc_region ?_; refine tl_e (e_box rfl rfl rfl) rfl (fun _ _ => ?_); refine tl_q (y_assign rfl) rfl ?_; refine tl_nil ?_; ((refine hK1 ?_; try (clear hK1; clear K1)))
  all_goals refine tc_seq fun K2 hK2 => ?_; refine tc_region ?_; refine tl_q (y_load1o rfl (fun w' hw' => (hw'.fr (S := []) (w0 := w) (by simp)).cell (by simp) hb)) rfl ?_; refine tl_q (y_loadW rfl (by repeat constructor) (by rfl)) rfl ?_; refine tl_e (e_callVf rfl rfl (.cons rfl .nil) (fun w' hw' => ht x w' (hw'.fr (by simp)))) rfl (fun _ _ => ?_); refine tl_q (y_not rfl) rfl ?_; refine tl_q (y_assign rfl) rfl ?_; refine tl_nil ?_; ((refine hK2 ?_; try (clear hK2; clear K2)))
  all_goals refine tc_ret ?_; (repeat (first | refine tk_then_ret ?_))
  all_goals (refine tk_ret rfl rfl (.cons (.tmp rfl) .nil) ?_)
  all_goals (
   exact fun w' hw' => ⟨rfl, hw'.fr (by simp)⟩)
theorem allPs_c (g : FuncId) [GoFn Tryz.prog g] (first cap : Array Value) (p : Pas → Bool) (xs : List Pas) (hx : (xs.length : Int) ≤ 9000000000000000000) (sl : Value) (w : World) (hr : RdS 5 psE w sl xs) (ht : TestsG Tryz.prog psV g first cap p w) :
    CnV Tryz.prog 57 #[sl, .func (.func g) first cap] w (.bool (xs.all p)) := by
  refine cnv (vs := [_, _]) Tryz.func57 rfl rfl ?_
  all_goals refine tc_seq fun K1 hK1 => ?_; refine tc_region ?_; refine tl_e (e_box rfl rfl rfl) rfl (fun b _ => ?_); refine tl_q (y_assign rfl) rfl ?_; refine tl_nil ?_; ((refine hK1 ?_; try (clear hK1; clear K1)))
  all_goals refine tc_seq fun K2 hK2 => ?_; refine tc_region ?_; refine tl_q (y_move rfl) rfl ?_; refine tl_q (y_fn .nil (.cons rfl .nil)) rfl ?_; refine tl_e (e_callV rfl (.cons rfl (.cons rfl .nil)) (fun w' hw' => containsFuncPs_c 84 #[] #[.pointer (some ⟨b, 0, none⟩)] (fun x => !(p x)) xs hx _ w' (hr.fr (hw'.fr (by simp))) (fun x w2 f => by simpa using allPs1_c g first cap p x b w2 (f.cell (by simp) (cellAt_cell? (hw'.heap _ (HM.mem (by repeat constructor))) rfl)) ((ht.fr (hw'.fr (by simp))).fr f)))) rfl (fun _ _ => ?_); refine tl_q (y_not rfl) rfl ?_; refine tl_q (y_assign rfl) rfl ?_; refine tl_nil ?_; ((refine hK2 ?_; try (clear hK2; clear K2)))
  all_goals refine tc_ret ?_; (repeat (first | refine tk_then_ret ?_))
  all_goals (refine tk_ret rfl rfl (.cons (.tmp rfl) .nil) ?_)
  all_goals (
   exact fun w' hw' => ⟨by simp [outV, List.all_eq_not_any_not], hw'.fr (by simp)⟩)
theorem indexSg_c (g : FuncId) [GoFn Tryz.prog g] (first cap : Array Value) (p : Sgt → Bool) (xs : List Sgt) (hx : (xs.length : Int) ≤ 9000000000000000000) (sl : Value) (w : World) (hr : RdS 3 sgE w sl xs) (ht : TestsG Tryz.prog sgV g first cap p w) :
    CnV Tryz.prog 107 #[sl, .func (.func g) first cap] w (vi (idxG xs p)) := by
  obtain ⟨ad, cp, b0, o, rfl, had, hcell⟩ := hr.open sgE_len sgt0
  refine cnv (vs := [_, _]) Tryz.func107 rfl rfl ?_
  all_goals refine tc_seq fun K1 hK1 => ?_; refine tc_region ?_; refine tl_q (y_assign rfl) rfl ?_; refine tl_nil ?_; ((refine hK1 ?_; try (clear hK1; clear K1)))
  all_goals refine tc_seq fun K2 hK2 => ?_; refine tc_seq fun K3 hK3 => ?_; refine tc_region ?_; refine tl_q (y_move rfl) rfl ?_; refine tl_q (y_len rfl) rfl ?_; refine tl_q (y_move rfl) rfl ?_; refine tl_nil ?_; ((refine hK3 ?_; try (clear hK3; clear K3)))
  all_goals refine tc_block ?_
  all_goals (
   refine tc_loop (fun k : Nat => k ≤ xs.length ∧ ∀ j, j < k → p (xs.getD j sgt0) = false) (fun k => [(0, .slice ad xs.length cp), (1, .func (.func g) first cap), (7, vi xs.length), (8, vi k)]) (fun _ => [(w, [])]) (fun _ => []) (fun k => xs.length - k) ?_ ?_
   · exact tk_start 0 ⟨Nat.zero_le _, fun j hj => absurd hj (Nat.not_lt_zero j)⟩ (.cons rfl (.cons rfl (.cons rfl (.cons rfl .nil)))) (fun _ h => h)
   · rintro k ⟨hk, hj⟩
     all_goals refine tc_seq fun K4 hK4 => ?_; refine tc_region ?_; refine tl_q (y_lss rfl rfl) rfl ?_; refine tl_nil ?_; ((refine hK4 ?_; try (clear hK4; clear K4)))
     all_goals refine tc_seq fun K5 hK5 => ?_
     all_goals (
      refine tc_cond rfl (fun hc => ?_) (fun hc => ?_)
      · try simp only [qn1, qn2, qn3, qn4, qn5, qn6, qn7, qn8] at hc
        all_goals refine tc_skip ?_; ((refine hK5 ?_; try (clear hK5; clear K5)))
        all_goals refine tc_seq fun K6 hK6 => ?_; refine tc_block ?_; refine tc_seq fun K7 hK7 => ?_; refine tc_region ?_; refine tl_q (y_move rfl) rfl ?_; refine tl_q (y_assign rfl) rfl ?_; refine tl_nil ?_; ((refine hK7 ?_; try (clear hK7; clear K7)))
        all_goals refine tc_seq fun K8 hK8 => ?_
        have had' := had (by omega)
        all_goals refine tc_region ?_; refine tl_q (y_move rfl) rfl ?_; refine tl_q (y_move rfl) rfl ?_; refine tl_q (y_move rfl) rfl ?_; refine tl_q (y_index rfl rfl (by omega) had') rfl ?_; refine tl_q (y_loadNo (vs := sgE (xs.getD (Int.toNat k) sgt0)) rfl (fun w' hw' => hcell w' [] (hw'.fr (by simp)) (by simp) (Int.toNat k) (by omega))) rfl ?_; refine tl_e (e_callVf rfl rfl (.cons rfl .nil) (fun w' hw' => ht (xs.getD (Int.toNat k) sgt0) w' (hw'.fr (by simp)))) rfl (fun _ _ => ?_); refine tl_nil ?_; ((refine hK8 ?_; try (clear hK8; clear K8)))
        all_goals (
         refine tc_cond rfl (fun hc => ?_) (fun hc => ?_)
         · all_goals (skip)
           all_goals refine tc_seq fun K9 hK9 => ?_; refine tc_region ?_; refine tl_q (y_move rfl) rfl ?_; refine tl_q (y_assign rfl) rfl ?_; refine tl_nil ?_; ((refine hK9 ?_; try (clear hK9; clear K9)))
           all_goals refine tc_ret ?_; (repeat (first | refine tk_then_ret ?_ | refine tk_block_ret ?_))
           all_goals (refine tk_ret rfl rfl (.cons (.tmp rfl) .nil) ?_)
           all_goals (
            first | exact fun w' hw' => ⟨by rw [idxG_hit (k := k) (by omega) (by simpa using hc) hj]; rfl, hw'.fr (by simp)⟩ | exact fun w' hw' => ⟨by rw [idxG_miss (d := sgt0) (fun j hjj => hj j (by omega))]; rfl, hw'.fr (by simp)⟩)
         · all_goals (skip)
           all_goals refine tc_skip ?_; ((refine hK6 ?_; try (clear hK6; clear K6)))
           all_goals refine tc_region ?_; refine tl_q (y_add rfl rfl (by omega)) rfl ?_; refine tl_q (y_move rfl) rfl ?_; refine tl_nil ?_
           all_goals (
            exact tk_round (k + 1) ⟨by omega, fun j hj' => by rcases Nat.lt_succ_iff_lt_or_eq.1 hj' with h | rfl; exact hj j h; simpa using hc⟩ (by omega) (.cons rfl (.cons rfl (.cons rfl (.cons rfl .nil)))) (fun _ h => h)))
      · try simp only [qn1, qn2, qn3, qn4, qn5, qn6, qn7, qn8] at hc
        all_goals refine tc_exit ?_; ((refine hK2 ?_; try (clear hK2; clear K2)))
        all_goals refine tc_seq fun K10 hK10 => ?_; refine tc_region ?_; refine tl_q (y_assign rfl) rfl ?_; refine tl_nil ?_; ((refine hK10 ?_; try (clear hK10; clear K10)))
        all_goals refine tc_ret ?_; (repeat (first | refine tk_then_ret ?_))
        all_goals (refine tk_ret rfl rfl (.cons (.tmp rfl) .nil) ?_)
        all_goals (
         first | exact fun w' hw' => ⟨by rw [idxG_hit (k := k) (by omega) (by simpa using hc) hj]; rfl, hw'.fr (by simp)⟩ | exact fun w' hw' => ⟨by rw [idxG_miss (d := sgt0) (fun j hjj => hj j (by omega))]; rfl, hw'.fr (by simp)⟩)))
theorem containsFuncSg_c (g : FuncId) [GoFn Tryz.prog g] (first cap : Array Value) (p : Sgt → Bool) (xs : List Sgt) (hx : (xs.length : Int) ≤ 9000000000000000000) (sl : Value) (w : World) (hr : RdS 3 sgE w sl xs) (ht : TestsG Tryz.prog sgV g first cap p w) :
    CnV Tryz.prog 85 #[sl, .func (.func g) first cap] w (.bool (xs.any p)) := by
  refine cnv (vs := [_, _]) Tryz.func85 rfl rfl ?_
  all_goals refine tc_seq fun K1 hK1 => ?_; refine tc_region ?_; refine tl_q (y_assign rfl) rfl ?_; refine tl_nil ?_; ((refine hK1 ?_; try (clear hK1; clear K1)))
  all_goals refine tc_seq fun K2 hK2 => ?_; refine tc_region ?_; refine tl_q (y_move rfl) rfl ?_; refine tl_q (y_move rfl) rfl ?_; refine tl_e (e_callV rfl (.cons rfl (.cons rfl .nil)) (fun w' hw' => indexSg_c g first cap p xs hx _ w' (hr.fr (hw'.fr (by simp))) (ht.fr (hw'.fr (by simp))))) rfl (fun _ _ => ?_); refine tl_q (y_geq rfl rfl) rfl ?_; refine tl_q (y_assign rfl) rfl ?_; refine tl_nil ?_; ((refine hK2 ?_; try (clear hK2; clear K2)))
  all_goals refine tc_ret ?_; (repeat (first | refine tk_then_ret ?_))
  all_goals (refine tk_ret rfl rfl (.cons (.tmp rfl) .nil) ?_)
  all_goals (
   exact fun w' hw' => ⟨by rw [← idxG_any]; rfl, hw'.fr (by simp)⟩)
theorem allSg1_c (g : FuncId) [GoFn Tryz.prog g] (first cap : Array Value) (p : Sgt → Bool) (x : Sgt) (b : Nat) (w : World) (hb : w.cell? ⟨b, 0, none⟩ = some (.func (.func g) first cap)) (ht : TestsG Tryz.prog sgV g first cap p w) :
    CnV Tryz.prog 86 #[sgV x, .pointer (some ⟨b, 0, none⟩)] w (.bool (!(p x))) := by
  refine cnv (vs := [_, _]) Tryz.func86 rfl rfl ?_
  all_goals refine tc_seq fun K1 hK1 => ?_; refine tc_region ?_; refine tl_e (e_box rfl rfl rfl) rfl (fun _ _ => ?_); refine tl_q (y_assign rfl) rfl ?_; refine tl_nil ?_; ((refine hK1 ?_; try (clear hK1; clear K1)))
  all_goals refine tc_seq fun K2 hK2 => ?_; refine tc_region ?_; refine tl_q (y_load1o rfl (fun w' hw' => (hw'.fr (S := []) (w0 := w) (by simp)).cell (by simp) hb)) rfl ?_; refine tl_q (y_loadW rfl (by repeat constructor) (by rfl)) rfl ?_; refine tl_e (e_callVf rfl rfl (.cons rfl .nil) (fun w' hw' => ht x w' (hw'.fr (by simp)))) rfl (fun _ _ => ?_); refine tl_q (y_not rfl) rfl ?_; refine tl_q (y_assign rfl) rfl ?_; refine tl_nil ?_; ((refine hK2 ?_; try (clear hK2; clear K2)))
  all_goals refine tc_ret ?_; (repeat (first | refine tk_then_ret ?_))
  all_goals (refine tk_ret rfl rfl (.cons (.tmp rfl) .nil) ?_)
  all_goals (
   exact fun w' hw' => ⟨rfl, hw'.fr (by simp)⟩)
theorem allSg_c (g : FuncId) [GoFn Tryz.prog g] (first cap : Array Value) (p : Sgt → Bool) (xs : List Sgt) (hx : (xs.length : Int) ≤ 9000000000000000000) (sl : Value) (w : World) (hr : RdS 3 sgE w sl xs) (ht : TestsG Tryz.prog sgV g first cap p w) :
    CnV Tryz.prog 58 #[sl, .func (.func g) first cap] w (.bool (xs.all p)) := by
  refine cnv (vs := [_, _]) Tryz.func58 rfl rfl ?_
  all_goals refine tc_seq fun K1 hK1 => ?_; refine tc_region ?_; refine tl_e (e_box rfl rfl rfl) rfl (fun b _ => ?_); refine tl_q (y_assign rfl) rfl ?_; refine tl_nil ?_; ((refine hK1 ?_; try (clear hK1; clear K1)))
  all_goals refine tc_seq fun K2 hK2 => ?_; refine tc_region ?_; refine tl_q (y_move rfl) rfl ?_; refine tl_q (y_fn .nil (.cons rfl .nil)) rfl ?_; refine tl_e (e_callV rfl (.cons rfl (.cons rfl .nil)) (fun w' hw' => containsFuncSg_c 86 #[] #[.pointer (some ⟨b, 0, none⟩)] (fun x => !(p x)) xs hx _ w' (hr.fr (hw'.fr (by simp))) (fun x w2 f => by simpa using allSg1_c g first cap p x b w2 (f.cell (by simp) (cellAt_cell? (hw'.heap _ (HM.mem (by repeat constructor))) rfl)) ((ht.fr (hw'.fr (by simp))).fr f)))) rfl (fun _ _ => ?_); refine tl_q (y_not rfl) rfl ?_; refine tl_q (y_assign rfl) rfl ?_; refine tl_nil ?_; ((refine hK2 ?_; try (clear hK2; clear K2)))
  all_goals refine tc_ret ?_; (repeat (first | refine tk_then_ret ?_))
  all_goals (refine tk_ret rfl rfl (.cons (.tmp rfl) .nil) ?_)
  all_goals (
   exact fun w' hw' => ⟨by simp [outV, List.all_eq_not_any_not], hw'.fr (by simp)⟩)
theorem mperson_c (s : Smp) (hp : 1 ≤ s.P ∧ s.P ≤ 4) (n : Int) (tv pv gv : Value) (w : World) : CnV Tryz.prog 56 #[smV s tv pv gv, vi n] w (.bool (decide (0 ≤ n ∧ n ≤ s.P - 1))) := by
  refine cnv (vs := [_, _]) Tryz.func56 rfl rfl ?_
  all_goals refine tc_seq fun K1 hK1 => ?_; refine tc_region ?_; refine tl_e (e_box rfl rfl rfl) rfl (fun b2 _ => ?_); refine tl_q (y_assign rfl) rfl ?_; refine tl_nil ?_; ((refine hK1 ?_; try (clear hK1; clear K1)))
  all_goals refine tc_seq fun K2 hK2 => ?_; refine tc_region ?_; refine tl_q (y_move rfl) rfl ?_; refine tl_q (y_field rfl) rfl ?_; refine tl_q (y_load1 rfl (by repeat constructor) (by rfl)) rfl ?_; refine tl_q (y_sub rfl rfl (by omega)) rfl ?_; refine tl_e (e_callV rfl (.cons rfl (.cons rfl (.cons rfl .nil))) (fun w' _ => mwithin_c _ _ _ w')) rfl (fun _ _ => ?_); refine tl_q (y_assign rfl) rfl ?_; refine tl_nil ?_; ((refine hK2 ?_; try (clear hK2; clear K2)))
  all_goals refine tc_ret ?_; (repeat (first | refine tk_then_ret ?_))
  all_goals (refine tk_ret rfl rfl (.cons (.tmp rfl) .nil) ?_)
  all_goals (
   exact fun w' hw' => ⟨rfl, hw'.fr (by simp)⟩)
theorem mbottle_c (s : Smp) (hp : 1 ≤ s.B ∧ s.B ≤ 3) (n : Int) (tv pv gv : Value) (w : World) : CnV Tryz.prog 81 #[smV s tv pv gv, vi n] w (.bool (decide (0 ≤ n ∧ n ≤ s.B - 1))) := by
  refine cnv (vs := [_, _]) Tryz.func81 rfl rfl ?_
  all_goals refine tc_seq fun K1 hK1 => ?_; refine tc_region ?_; refine tl_e (e_box rfl rfl rfl) rfl (fun b2 _ => ?_); refine tl_q (y_assign rfl) rfl ?_; refine tl_nil ?_; ((refine hK1 ?_; try (clear hK1; clear K1)))
  all_goals refine tc_seq fun K2 hK2 => ?_; refine tc_region ?_; refine tl_q (y_move rfl) rfl ?_; refine tl_q (y_field rfl) rfl ?_; refine tl_q (y_load1 rfl (by repeat constructor) (by rfl)) rfl ?_; refine tl_q (y_sub rfl rfl (by omega)) rfl ?_; refine tl_e (e_callV rfl (.cons rfl (.cons rfl (.cons rfl .nil))) (fun w' _ => mwithin_c _ _ _ w')) rfl (fun _ _ => ?_); refine tl_q (y_assign rfl) rfl ?_; refine tl_nil ?_; ((refine hK2 ?_; try (clear hK2; clear K2)))
  all_goals refine tc_ret ?_; (repeat (first | refine tk_then_ret ?_))
  all_goals (refine tk_ret rfl rfl (.cons (.tmp rfl) .nil) ?_)
  all_goals (
   exact fun w' hw' => ⟨rfl, hw'.fr (by simp)⟩)
theorem mhour_c (s : Smp) (n : Int) (tv pv gv : Value) (w : World) : CnV Tryz.prog 82 #[smV s tv pv gv, vi n] w (.bool (decide (0 ≤ n ∧ n ≤ s.L))) := by
  refine cnv (vs := [_, _]) Tryz.func82 rfl rfl ?_
  all_goals refine tc_seq fun K1 hK1 => ?_; refine tc_region ?_; refine tl_e (e_box rfl rfl rfl) rfl (fun b2 _ => ?_); refine tl_q (y_assign rfl) rfl ?_; refine tl_nil ?_; ((refine hK1 ?_; try (clear hK1; clear K1)))
  all_goals refine tc_seq fun K2 hK2 => ?_; refine tc_region ?_; refine tl_q (y_move rfl) rfl ?_; refine tl_q (y_field rfl) rfl ?_; refine tl_q (y_load1 rfl (by repeat constructor) (by rfl)) rfl ?_; refine tl_e (e_callV rfl (.cons rfl (.cons rfl (.cons rfl .nil))) (fun w' _ => mwithin_c _ _ _ w')) rfl (fun _ _ => ?_); refine tl_q (y_assign rfl) rfl ?_; refine tl_nil ?_; ((refine hK2 ?_; try (clear hK2; clear K2)))
  all_goals refine tc_ret ?_; (repeat (first | refine tk_then_ret ?_))
  all_goals (refine tk_ret rfl rfl (.cons (.tmp rfl) .nil) ?_)
  all_goals (
   exact fun w' hw' => ⟨rfl, hw'.fr (by simp)⟩)
theorem mpass_c (s : Smp) (hb : 1 ≤ s.B ∧ s.B ≤ 3) (hp : 1 ≤ s.P ∧ s.P ≤ 4) (p : Pas) (tv pv gv : Value) (w : World) : CnV Tryz.prog 53 #[smV s tv pv gv, psV p] w (.bool (pasOk s p)) := by
  refine cnv (vs := [_, _]) Tryz.func53 rfl rfl ?_
  all_goals refine tc_seq fun K1 hK1 => ?_; refine tc_region ?_; refine tl_e (e_box rfl rfl rfl) rfl (fun b2 _ => ?_); refine tl_e (e_box rfl rfl rfl) rfl (fun b3 _ => ?_); refine tl_q (y_assign rfl) rfl ?_; refine tl_nil ?_; ((refine hK1 ?_; try (clear hK1; clear K1)))
  all_goals refine tc_seq fun K2 hK2 => ?_; refine tc_region ?_; refine tl_q (y_loadW rfl (by repeat constructor) (by rfl)) rfl ?_; refine tl_q (y_field rfl) rfl ?_; refine tl_q (y_load1 rfl (by repeat constructor) (by rfl)) rfl ?_; refine tl_e (e_callV rfl (.cons rfl (.cons rfl .nil)) (fun w' _ => mbottle_c s hb _ _ _ _ w')) rfl (fun _ _ => ?_); refine tl_q (y_move rfl) rfl ?_; ((refine tl_gs rfl rfl (fun hc => ?_) (fun hc => ?_) <;> (try simp only [qn1, qn2, qn3, qn4, qn5, qn6, qn7, qn8] at hc) <;> (first | refine tl_sk rfl rfl rfl rfl ?_ | refine tl_qg rfl rfl (y_loadW rfl (by repeat constructor) (by rfl)) rfl ?_)))
  all_goals (first | refine tl_sk rfl rfl rfl rfl ?_ | refine tl_qg rfl rfl (y_field rfl) rfl ?_); (first | refine tl_sk rfl rfl rfl rfl ?_ | refine tl_qg rfl rfl (y_load1 rfl (by repeat constructor) (by rfl)) rfl ?_); (first | refine tl_sk rfl rfl rfl rfl ?_ | refine tl_eg rfl rfl rfl (e_callV rfl (.cons rfl (.cons rfl .nil)) (fun w' _ => mperson_c s hp _ _ _ _ w')) (fun _ _ => ?_)); (first | refine tl_q (y_pick_t rfl rfl) rfl ?_ | refine tl_q (y_pick_f rfl rfl) rfl ?_); refine tl_q (y_move rfl) rfl ?_; ((first | refine tl_sk rfl rfl rfl rfl ?_ | (refine tl_gs rfl rfl (fun hc => ?_) (fun hc => ?_) <;> (try simp only [qn1, qn2, qn3, qn4, qn5, qn6, qn7, qn8] at hc) <;> (first | refine tl_sk rfl rfl rfl rfl ?_ | refine tl_qg rfl rfl (y_loadW rfl (by repeat constructor) (by rfl)) rfl ?_))))
  all_goals (first | refine tl_sk rfl rfl rfl rfl ?_ | refine tl_qg rfl rfl (y_field rfl) rfl ?_); (first | refine tl_sk rfl rfl rfl rfl ?_ | refine tl_qg rfl rfl (y_load1 rfl (by repeat constructor) (by rfl)) rfl ?_); (first | refine tl_sk rfl rfl rfl rfl ?_ | refine tl_eg rfl rfl rfl (e_callV rfl (.cons rfl (.cons rfl .nil)) (fun w' _ => mperson_c s hp _ _ _ _ w')) (fun _ _ => ?_)); (first | refine tl_q (y_pick_t rfl rfl) rfl ?_ | refine tl_q (y_pick_f rfl rfl) rfl ?_); refine tl_q (y_move rfl) rfl ?_; ((first | refine tl_sk rfl rfl rfl rfl ?_ | (refine tl_gs rfl rfl (fun hc => ?_) (fun hc => ?_) <;> (try simp only [qn1, qn2, qn3, qn4, qn5, qn6, qn7, qn8] at hc) <;> (first | refine tl_sk rfl rfl rfl rfl ?_ | refine tl_qg rfl rfl (y_field rfl) rfl ?_))))
  all_goals (first | refine tl_sk rfl rfl rfl rfl ?_ | refine tl_qg rfl rfl (y_load1 rfl (by repeat constructor) (by rfl)) rfl ?_); (first | refine tl_sk rfl rfl rfl rfl ?_ | refine tl_qg rfl rfl (y_field rfl) rfl ?_); (first | refine tl_sk rfl rfl rfl rfl ?_ | refine tl_qg rfl rfl (y_load1 rfl (by repeat constructor) (by rfl)) rfl ?_); (first | refine tl_sk rfl rfl rfl rfl ?_ | refine tl_qg rfl rfl (y_neq rfl rfl) rfl ?_); (first | refine tl_q (y_pick_t rfl rfl) rfl ?_ | refine tl_q (y_pick_f rfl rfl) rfl ?_); refine tl_q (y_move rfl) rfl ?_; ((first | refine tl_sk rfl rfl rfl rfl ?_ | (refine tl_gs rfl rfl (fun hc => ?_) (fun hc => ?_) <;> (try simp only [qn1, qn2, qn3, qn4, qn5, qn6, qn7, qn8] at hc) <;> (first | refine tl_sk rfl rfl rfl rfl ?_ | refine tl_qg rfl rfl (y_loadW rfl (by repeat constructor) (by rfl)) rfl ?_))))
  all_goals (first | refine tl_sk rfl rfl rfl rfl ?_ | refine tl_qg rfl rfl (y_field rfl) rfl ?_); (first | refine tl_sk rfl rfl rfl rfl ?_ | refine tl_qg rfl rfl (y_field rfl) rfl ?_); (first | refine tl_sk rfl rfl rfl rfl ?_ | refine tl_qg rfl rfl (y_load1 rfl (by repeat constructor) (by rfl)) rfl ?_); (first | refine tl_sk rfl rfl rfl rfl ?_ | refine tl_eg rfl rfl rfl (e_callV rfl (.cons rfl (.cons rfl .nil)) (fun w' _ => mhour_c s _ _ _ _ w')) (fun _ _ => ?_)); (first | refine tl_q (y_pick_t rfl rfl) rfl ?_ | refine tl_q (y_pick_f rfl rfl) rfl ?_); refine tl_q (y_move rfl) rfl ?_; ((first | refine tl_sk rfl rfl rfl rfl ?_ | (refine tl_gs rfl rfl (fun hc => ?_) (fun hc => ?_) <;> (try simp only [qn1, qn2, qn3, qn4, qn5, qn6, qn7, qn8] at hc) <;> (first | refine tl_sk rfl rfl rfl rfl ?_ | refine tl_qg rfl rfl (y_loadW rfl (by repeat constructor) (by rfl)) rfl ?_))))
  all_goals (first | refine tl_sk rfl rfl rfl rfl ?_ | refine tl_qg rfl rfl (y_field rfl) rfl ?_); (first | refine tl_sk rfl rfl rfl rfl ?_ | refine tl_qg rfl rfl (y_field rfl) rfl ?_); (first | refine tl_sk rfl rfl rfl rfl ?_ | refine tl_qg rfl rfl (y_load1 rfl (by repeat constructor) (by rfl)) rfl ?_); (first | refine tl_sk rfl rfl rfl rfl ?_ | refine tl_eg rfl rfl rfl (e_callV rfl (.cons rfl (.cons rfl .nil)) (fun w' _ => mhour_c s _ _ _ _ w')) (fun _ _ => ?_)); (first | refine tl_q (y_pick_t rfl rfl) rfl ?_ | refine tl_q (y_pick_f rfl rfl) rfl ?_); refine tl_q (y_move rfl) rfl ?_; ((first | refine tl_sk rfl rfl rfl rfl ?_ | (refine tl_gs rfl rfl (fun hc => ?_) (fun hc => ?_) <;> (try simp only [qn1, qn2, qn3, qn4, qn5, qn6, qn7, qn8] at hc) <;> (first | refine tl_sk rfl rfl rfl rfl ?_ | refine tl_qg rfl rfl (y_field rfl) rfl ?_))))
  all_goals (first | refine tl_sk rfl rfl rfl rfl ?_ | refine tl_qg rfl rfl (y_field rfl) rfl ?_); (first | refine tl_sk rfl rfl rfl rfl ?_ | refine tl_qg rfl rfl (y_load1 rfl (by repeat constructor) (by rfl)) rfl ?_); (first | refine tl_sk rfl rfl rfl rfl ?_ | refine tl_qg rfl rfl (y_field rfl) rfl ?_); (first | refine tl_sk rfl rfl rfl rfl ?_ | refine tl_qg rfl rfl (y_field rfl) rfl ?_); (first | refine tl_sk rfl rfl rfl rfl ?_ | refine tl_qg rfl rfl (y_load1 rfl (by repeat constructor) (by rfl)) rfl ?_); (first | refine tl_sk rfl rfl rfl rfl ?_ | refine tl_qg rfl rfl (y_leq rfl rfl) rfl ?_); (first | refine tl_q (y_pick_t rfl rfl) rfl ?_ | refine tl_q (y_pick_f rfl rfl) rfl ?_); refine tl_q (y_assign rfl) rfl ?_; refine tl_nil ?_; ((refine hK2 ?_; try (clear hK2; clear K2)))
  all_goals refine tc_ret ?_; (repeat (first | refine tk_then_ret ?_))
  all_goals (refine tk_ret rfl rfl (.cons (.tmp rfl) .nil) ?_)
  all_goals (
   refine fun w' hw' => ⟨congrArg (fun b => Ending.returned (Value.bool b)) ?_, hw'.fr (by simp)⟩
   unfold pasOk
   first
   | exact (decide_eq_true (by omega)).symm
   | exact (decide_eq_false (by omega)).symm
   | exact decide_eq_decide.2 (by omega))
theorem msight_c (s : Smp) (hb : 1 ≤ s.B ∧ s.B ≤ 3) (g : Sgt) (tv pv gv : Value) (w : World) : CnV Tryz.prog 54 #[smV s tv pv gv, sgV g] w (.bool (sgtOk s g)) := by
  refine cnv (vs := [_, _]) Tryz.func54 rfl rfl ?_
  all_goals refine tc_seq fun K1 hK1 => ?_; refine tc_region ?_; refine tl_e (e_box rfl rfl rfl) rfl (fun b2 _ => ?_); refine tl_e (e_box rfl rfl rfl) rfl (fun b3 _ => ?_); refine tl_q (y_assign rfl) rfl ?_; refine tl_nil ?_; ((refine hK1 ?_; try (clear hK1; clear K1)))
  all_goals refine tc_seq fun K2 hK2 => ?_; refine tc_region ?_; refine tl_q (y_loadW rfl (by repeat constructor) (by rfl)) rfl ?_; refine tl_q (y_field rfl) rfl ?_; refine tl_q (y_load1 rfl (by repeat constructor) (by rfl)) rfl ?_; refine tl_e (e_callV rfl (.cons rfl (.cons rfl .nil)) (fun w' _ => mbottle_c s hb _ _ _ _ w')) rfl (fun _ _ => ?_); refine tl_q (y_move rfl) rfl ?_; ((refine tl_gs rfl rfl (fun hc => ?_) (fun hc => ?_) <;> (try simp only [qn1, qn2, qn3, qn4, qn5, qn6, qn7, qn8] at hc) <;> (first | refine tl_sk rfl rfl rfl rfl ?_ | refine tl_qg rfl rfl (y_loadW rfl (by repeat constructor) (by rfl)) rfl ?_)))
  all_goals (first | refine tl_sk rfl rfl rfl rfl ?_ | refine tl_qg rfl rfl (y_field rfl) rfl ?_); (first | refine tl_sk rfl rfl rfl rfl ?_ | refine tl_qg rfl rfl (y_load1 rfl (by repeat constructor) (by rfl)) rfl ?_); (first | refine tl_sk rfl rfl rfl rfl ?_ | refine tl_eg rfl rfl rfl (e_callV rfl (.cons rfl (.cons rfl .nil)) (fun w' _ => mhour_c s _ _ _ _ w')) (fun _ _ => ?_)); (first | refine tl_q (y_pick_t rfl rfl) rfl ?_ | refine tl_q (y_pick_f rfl rfl) rfl ?_); refine tl_q (y_assign rfl) rfl ?_; refine tl_nil ?_; ((refine hK2 ?_; try (clear hK2; clear K2)))
  all_goals refine tc_ret ?_; (repeat (first | refine tk_then_ret ?_))
  all_goals (refine tk_ret rfl rfl (.cons (.tmp rfl) .nil) ?_)
  all_goals (
   refine fun w' hw' => ⟨congrArg (fun b => Ending.returned (Value.bool b)) ?_, hw'.fr (by simp)⟩
   unfold sgtOk
   first
   | exact (decide_eq_true (by omega)).symm
   | exact (decide_eq_false (by omega)).symm
   | exact decide_eq_decide.2 (by omega))
theorem manyS_snoc (l : List Pas) (p : Pas) : manyS (l ++ [p]) = manyS l * (p.hi - p.lo + 1) := by
  induction l with
  | nil => simp [manyS]
  | cons q l ih => rw [List.cons_append, manyS, ih, manyS, Int.mul_assoc]
theorem takeG_succ {α : Type} {l : List α} {d : α} {n : Nat} (h : n < l.length) : l.take (n + 1) = l.take n ++ [l.getD n d] := by
  rw [List.take_succ, List.getElem?_eq_getElem h, List.getD_eq_getElem?_getD, List.getElem?_eq_getElem h]; rfl
theorem manyS_bd {l : List Pas} (h : ∀ p ∈ l, 1 ≤ p.hi - p.lo + 1 ∧ p.hi - p.lo + 1 ≤ 10) : 1 ≤ manyS l ∧ manyS l ≤ 10 ^ l.length := by
  induction l with
  | nil => simp [manyS]
  | cons q l ih =>
    obtain ⟨a1, a2⟩ := ih (fun p hp => h p (List.mem_cons_of_mem _ hp))
    obtain ⟨c1, c2⟩ := h q List.mem_cons_self
    rw [manyS, List.length_cons, Int.pow_succ]
    refine ⟨?_, ?_⟩
    · have := Int.mul_le_mul c1 a1 (by omega) (by omega); omega
    · rw [Int.mul_comm]; exact Int.mul_le_mul a2 c2 (by omega) (by exact Int.pow_nonneg (by omega))
theorem pow_bd6 : ∀ n : Fin 7, (10 : Int) ^ n.1 ≤ 1000000 := by decide
theorem manyS_take {s : Smp} (hL : s.L ≤ 9) (hp : s.ps.all (pasOk s) = true) (h6 : s.ps.length ≤ 6) (n : Nat) (hn : n ≤ s.ps.length) : 1 ≤ manyS (s.ps.take n) ∧ manyS (s.ps.take n) ≤ 1000000 := by
  have := manyS_bd (l := s.ps.take n) (fun p hp' => by
    have := List.all_eq_true.1 hp p (List.mem_of_mem_take hp')
    unfold pasOk at this
    rw [decide_eq_true_eq] at this
    omega)
  refine ⟨this.1, Int.le_trans this.2 ?_⟩
  rw [List.length_take, Nat.min_eq_left hn]
  exact pow_bd6 ⟨n, by omega⟩
theorem pas_at {s : Smp} (hp : s.ps.all (pasOk s) = true) {n : Nat} (h : n < s.ps.length) : 0 ≤ (s.ps.getD n pas0).lo ∧ (s.ps.getD n pas0).lo ≤ (s.ps.getD n pas0).hi ∧ (s.ps.getD n pas0).hi ≤ s.L := by
  have := List.all_eq_true.1 hp (s.ps.getD n pas0) (by rw [List.getD_eq_getElem?_getD, List.getElem?_eq_getElem h]; exact List.getElem_mem h)
  unfold pasOk at this
  rw [decide_eq_true_eq] at this
  omega
set_option maxHeartbeats 1000000 in
theorem checkSample_c (s : Smp) (hf : Few s) (tv pv gv : Value) (w : World) (hr : RdSm w s tv pv gv) : CnV Tryz.prog 35 #[smV s tv pv gv] w (vi (chkS s)) := by
  have hr0 := hr
  have hf1 := hf.st
  have hf2 := hf.ps
  have hf3 := hf.sg
  obtain ⟨ad1, cp1, _, _, rfl, _, _⟩ := hr.st.open boE_len false
  obtain ⟨ad2, cp2, b2, o2, rfl, had2, hcell2⟩ := hr.ps.open psE_len pas0
  obtain ⟨ad3, cp3, _, _, rfl, _, _⟩ := hr.sg.open sgE_len sgt0
  refine cnv (vs := [_]) Tryz.func35 rfl rfl ?_
  all_goals refine tc_seq fun K1 hK1 => ?_; refine tc_region ?_; refine tl_e (e_box rfl rfl rfl) rfl (fun b1 _ => ?_); refine tl_q (y_assign rfl) rfl ?_; refine tl_nil ?_; ((refine hK1 ?_; try (clear hK1; clear K1)))
  all_goals refine tc_seq fun K2 hK2 => ?_; refine tc_draw (by kernel_rfl) ?_; refine tx_q 0 rfl (by kernel_rfl) (y_loadW rfl (by repeat constructor) (by rfl)) rfl (fun _ _ _ h => h) (fun _ h => h) ?_; refine tx_p 1 rfl (by kernel_rfl) (y_fn (.cons rfl .nil) .nil) rfl (fun _ _ _ h => h) (fun _ h => h) ?_; refine tx_q 2 rfl (by kernel_rfl) (y_loadW rfl (by repeat constructor) (by rfl)) rfl (fun _ _ _ h => h) (fun _ h => h) ?_; refine tx_p 3 rfl (by kernel_rfl) (y_fn (.cons rfl .nil) .nil) rfl (fun _ _ _ h => h) (fun _ h => h) ?_; refine tx_p 4 rfl (by kernel_rfl) (y_assign rfl) rfl (fun _ _ _ h => h) (fun _ h => h) ?_; refine tx_p 5 rfl (by kernel_rfl) (y_assign rfl) rfl (fun _ _ _ h => h) (fun _ h => h) ?_; refine tx_done (by kernel_rfl) ?_; ((refine hK2 ?_; try (clear hK2; clear K2)))
  all_goals refine tc_seq fun K3 hK3 => ?_; refine tc_block ?_; refine tc_seq fun K4 hK4 => ?_; refine tc_region ?_; refine tl_q (y_field rfl) rfl ?_; refine tl_q (y_load1 rfl (by repeat constructor) (by rfl)) rfl ?_; refine tl_q (y_gtr rfl rfl) rfl ?_; refine tl_q (y_move rfl) rfl ?_; ((refine tl_gs rfl rfl (fun hc => ?_) (fun hc => ?_) <;> (try simp only [qn1, qn2, qn3, qn4, qn5, qn6, qn7, qn8] at hc) <;> (first | refine tl_sk rfl rfl rfl rfl ?_ | refine tl_qg rfl rfl (y_field rfl) rfl ?_)))
  all_goals (first | refine tl_sk rfl rfl rfl rfl ?_ | refine tl_qg rfl rfl (y_load1 rfl (by repeat constructor) (by rfl)) rfl ?_); (first | refine tl_sk rfl rfl rfl rfl ?_ | refine tl_qg rfl rfl (y_gtr rfl rfl) rfl ?_); (first | refine tl_q (y_pick_t rfl rfl) rfl ?_ | refine tl_q (y_pick_f rfl rfl) rfl ?_); refine tl_q (y_move rfl) rfl ?_; ((first | refine tl_sk rfl rfl rfl rfl ?_ | (refine tl_gs rfl rfl (fun hc => ?_) (fun hc => ?_) <;> (try simp only [qn1, qn2, qn3, qn4, qn5, qn6, qn7, qn8] at hc) <;> (first | refine tl_sk rfl rfl rfl rfl ?_ | refine tl_qg rfl rfl (y_field rfl) rfl ?_))))
  all_goals (first | refine tl_sk rfl rfl rfl rfl ?_ | refine tl_qg rfl rfl (y_load1 rfl (by repeat constructor) (by rfl)) rfl ?_); (first | refine tl_sk rfl rfl rfl rfl ?_ | refine tl_qg rfl rfl (y_len rfl) rfl ?_); (first | refine tl_sk rfl rfl rfl rfl ?_ | refine tl_qg rfl rfl (y_gtr rfl rfl) rfl ?_); (first | refine tl_q (y_pick_t rfl rfl) rfl ?_ | refine tl_q (y_pick_f rfl rfl) rfl ?_); refine tl_q (y_move rfl) rfl ?_; ((first | refine tl_sk rfl rfl rfl rfl ?_ | (refine tl_gs rfl rfl (fun hc => ?_) (fun hc => ?_) <;> (try simp only [qn1, qn2, qn3, qn4, qn5, qn6, qn7, qn8] at hc) <;> (first | refine tl_sk rfl rfl rfl rfl ?_ | refine tl_qg rfl rfl (y_field rfl) rfl ?_))))
  all_goals (first | refine tl_sk rfl rfl rfl rfl ?_ | refine tl_qg rfl rfl (y_load1 rfl (by repeat constructor) (by rfl)) rfl ?_); (first | refine tl_sk rfl rfl rfl rfl ?_ | refine tl_qg rfl rfl (y_len rfl) rfl ?_); (first | refine tl_sk rfl rfl rfl rfl ?_ | refine tl_qg rfl rfl (y_gtr rfl rfl) rfl ?_); (first | refine tl_q (y_pick_t rfl rfl) rfl ?_ | refine tl_q (y_pick_f rfl rfl) rfl ?_); refine tl_q (y_assign rfl) rfl ?_; refine tl_nil ?_; ((refine hK4 ?_; try (clear hK4; clear K4)))
  all_goals (
   refine tc_cond rfl (fun hc => ?_) (fun hc => ?_)
   · try simp only [qn1, qn2, qn3, qn4, qn5, qn6, qn7, qn8] at hc
     all_goals refine tc_seq fun K5 hK5 => ?_; refine tc_region ?_; refine tl_q (y_assign rfl) rfl ?_; refine tl_nil ?_; ((refine hK5 ?_; try (clear hK5; clear K5)))
     all_goals refine tc_ret ?_; (repeat (first | refine tk_then_ret ?_ | refine tk_block_ret ?_))
     all_goals (refine tk_ret rfl rfl (.cons (.tmp rfl) .nil) ?_)
     all_goals (
      refine fun w' hw' => ⟨congrArg (fun n => Ending.returned (Value.int .i64 n)) ?_, hw'.fr (by simp)⟩
      unfold chkS
      first
      | (rw [if_pos (by omega)])
      | (rw [if_neg (by omega)]
         refine (if_pos ?_).symm
         first
         | exact .inl (by omega)
         | exact .inr (.inl (by omega))
         | exact .inr (.inr (.inl (by omega)))
         | exact .inr (.inr (.inr (.inl (by omega))))
         | exact .inr (.inr (.inr (.inr (.inl (by omega)))))
         | exact .inr (.inr (.inr (.inr (.inr (.inl (by assumption))))))
         | exact .inr (.inr (.inr (.inr (.inr (.inr (by assumption)))))))
      | (rw [if_neg (by omega), if_neg (by rintro (h | h | h | h | h | h | h) <;> first | omega | (rw [h] at *; contradiction) | simp_all), if_pos (by omega)])
      | (rw [if_neg (by omega), if_neg (by rintro (h | h | h | h | h | h | h) <;> first | omega | (rw [h] at *; contradiction) | simp_all), if_neg (by omega)]))
   · try simp only [qn1, qn2, qn3, qn4, qn5, qn6, qn7, qn8] at hc
     all_goals ((first | (exfalso; with_reducible exact btf hc) | skip))
     all_goals refine tc_seq fun K6 hK6 => ?_; refine tc_region ?_; refine tl_q (y_field rfl) rfl ?_; refine tl_q (y_load1 rfl (by repeat constructor) (by rfl)) rfl ?_; refine tl_q (y_lss rfl rfl) rfl ?_; refine tl_q (y_move rfl) rfl ?_; ((refine tl_gs rfl rfl (fun hc => ?_) (fun hc => ?_) <;> (try simp only [qn1, qn2, qn3, qn4, qn5, qn6, qn7, qn8] at hc) <;> (first | refine tl_sk rfl rfl rfl rfl ?_ | refine tl_qg rfl rfl (y_field rfl) rfl ?_)))
     all_goals (first | refine tl_sk rfl rfl rfl rfl ?_ | refine tl_qg rfl rfl (y_load1 rfl (by repeat constructor) (by rfl)) rfl ?_); (first | refine tl_sk rfl rfl rfl rfl ?_ | refine tl_qg rfl rfl (y_lss rfl rfl) rfl ?_); (first | refine tl_q (y_pick_t rfl rfl) rfl ?_ | refine tl_q (y_pick_f rfl rfl) rfl ?_); refine tl_q (y_move rfl) rfl ?_; ((first | refine tl_sk rfl rfl rfl rfl ?_ | (refine tl_gs rfl rfl (fun hc => ?_) (fun hc => ?_) <;> (try simp only [qn1, qn2, qn3, qn4, qn5, qn6, qn7, qn8] at hc) <;> (first | refine tl_sk rfl rfl rfl rfl ?_ | refine tl_qg rfl rfl (y_field rfl) rfl ?_))))
     all_goals (first | refine tl_sk rfl rfl rfl rfl ?_ | refine tl_qg rfl rfl (y_load1 rfl (by repeat constructor) (by rfl)) rfl ?_); (first | refine tl_sk rfl rfl rfl rfl ?_ | refine tl_eg rfl rfl rfl (e_callV rfl (.cons rfl (.cons rfl (.cons rfl .nil))) (fun w' _ => mwithin_c _ _ _ w')) (fun _ _ => ?_)); (first | refine tl_sk rfl rfl rfl rfl ?_ | refine tl_qg rfl rfl (y_not_dec rfl) rfl ?_); (first | refine tl_q (y_pick_t rfl rfl) rfl ?_ | refine tl_q (y_pick_f rfl rfl) rfl ?_); refine tl_q (y_move rfl) rfl ?_; ((first | refine tl_sk rfl rfl rfl rfl ?_ | (refine tl_gs rfl rfl (fun hc => ?_) (fun hc => ?_) <;> (try simp only [qn1, qn2, qn3, qn4, qn5, qn6, qn7, qn8] at hc) <;> (first | refine tl_sk rfl rfl rfl rfl ?_ | refine tl_qg rfl rfl (y_field rfl) rfl ?_))))
     all_goals (first | refine tl_sk rfl rfl rfl rfl ?_ | refine tl_qg rfl rfl (y_load1 rfl (by repeat constructor) (by rfl)) rfl ?_); (first | refine tl_sk rfl rfl rfl rfl ?_ | refine tl_qg rfl rfl (y_len rfl) rfl ?_); (first | refine tl_sk rfl rfl rfl rfl ?_ | refine tl_qg rfl rfl (y_field rfl) rfl ?_); (first | refine tl_sk rfl rfl rfl rfl ?_ | refine tl_qg rfl rfl (y_load1 rfl (by repeat constructor) (by rfl)) rfl ?_); (first | refine tl_sk rfl rfl rfl rfl ?_ | refine tl_qg rfl rfl (y_neq rfl rfl) rfl ?_); (first | refine tl_q (y_pick_t rfl rfl) rfl ?_ | refine tl_q (y_pick_f rfl rfl) rfl ?_); refine tl_q (y_move rfl) rfl ?_; ((first | refine tl_sk rfl rfl rfl rfl ?_ | (refine tl_gs rfl rfl (fun hc => ?_) (fun hc => ?_) <;> (try simp only [qn1, qn2, qn3, qn4, qn5, qn6, qn7, qn8] at hc) <;> (first | refine tl_sk rfl rfl rfl rfl ?_ | refine tl_qg rfl rfl (y_loadW rfl (by repeat constructor) (by rfl)) rfl ?_))))
     all_goals (first | refine tl_sk rfl rfl rfl rfl ?_ | refine tl_qg rfl rfl (y_field rfl) rfl ?_); (first | refine tl_sk rfl rfl rfl rfl ?_ | refine tl_qg rfl rfl (y_load1 rfl (by repeat constructor) (by rfl)) rfl ?_); (first | refine tl_sk rfl rfl rfl rfl ?_ | refine tl_eg rfl rfl rfl (e_callV rfl (.cons rfl (.cons rfl .nil)) (fun w' _ => mperson_c s (by omega) _ _ _ _ w')) (fun _ _ => ?_)); (first | refine tl_sk rfl rfl rfl rfl ?_ | refine tl_qg rfl rfl (y_not_dec rfl) rfl ?_); (first | refine tl_q (y_pick_t rfl rfl) rfl ?_ | refine tl_q (y_pick_f rfl rfl) rfl ?_); refine tl_q (y_move rfl) rfl ?_; ((first | refine tl_sk rfl rfl rfl rfl ?_ | (refine tl_gs rfl rfl (fun hc => ?_) (fun hc => ?_) <;> (try simp only [qn1, qn2, qn3, qn4, qn5, qn6, qn7, qn8] at hc) <;> (first | refine tl_sk rfl rfl rfl rfl ?_ | refine tl_qg rfl rfl (y_field rfl) rfl ?_))))
     all_goals (first | refine tl_sk rfl rfl rfl rfl ?_ | refine tl_qg rfl rfl (y_load1 rfl (by repeat constructor) (by rfl)) rfl ?_); (first | refine tl_sk rfl rfl rfl rfl ?_ | refine tl_qg rfl rfl (y_move rfl) rfl ?_); (first | refine tl_sk rfl rfl rfl rfl ?_ | refine tl_eg rfl rfl rfl (e_callV rfl (.cons rfl (.cons rfl .nil)) (fun w' hw' => allPs_c 53 #[smV s _ _ _] #[] (pasOk s) s.ps (by omega) _ w' (hr0.ps.fr (hw'.fr (by simp))) (fun x w2 f => by simpa using mpass_c s (by omega) (by omega) x _ _ _ w2))) (fun _ _ => ?_)); (first | refine tl_sk rfl rfl rfl rfl ?_ | refine tl_qg rfl rfl (y_not rfl) rfl ?_); (first | refine tl_q (y_pick_t rfl rfl) rfl ?_ | refine tl_q (y_pick_f rfl rfl) rfl ?_); refine tl_q (y_move rfl) rfl ?_; ((first | refine tl_sk rfl rfl rfl rfl ?_ | (refine tl_gs rfl rfl (fun hc => ?_) (fun hc => ?_) <;> (try simp only [qn1, qn2, qn3, qn4, qn5, qn6, qn7, qn8] at hc) <;> (first | refine tl_sk rfl rfl rfl rfl ?_ | refine tl_qg rfl rfl (y_field rfl) rfl ?_))))
     all_goals (first | refine tl_sk rfl rfl rfl rfl ?_ | refine tl_qg rfl rfl (y_load1 rfl (by repeat constructor) (by rfl)) rfl ?_); (first | refine tl_sk rfl rfl rfl rfl ?_ | refine tl_qg rfl rfl (y_move rfl) rfl ?_); (first | refine tl_sk rfl rfl rfl rfl ?_ | refine tl_eg rfl rfl rfl (e_callV rfl (.cons rfl (.cons rfl .nil)) (fun w' hw' => allSg_c 54 #[smV s _ _ _] #[] (sgtOk s) s.sg (by omega) _ w' (hr0.sg.fr (hw'.fr (by simp))) (fun x w2 f => by simpa using msight_c s (by omega) x _ _ _ w2))) (fun _ _ => ?_)); (first | refine tl_sk rfl rfl rfl rfl ?_ | refine tl_qg rfl rfl (y_not rfl) rfl ?_); (first | refine tl_q (y_pick_t rfl rfl) rfl ?_ | refine tl_q (y_pick_f rfl rfl) rfl ?_); refine tl_q (y_assign rfl) rfl ?_; refine tl_nil ?_; ((refine hK6 ?_; try (clear hK6; clear K6)))
     all_goals (
      refine tc_cond rfl (fun hc => ?_) (fun hc => ?_)
      · try simp only [qn1, qn2, qn3, qn4, qn5, qn6, qn7, qn8] at hc
        all_goals refine tc_seq fun K7 hK7 => ?_; refine tc_region ?_; refine tl_q (y_assign rfl) rfl ?_; refine tl_nil ?_; ((refine hK7 ?_; try (clear hK7; clear K7)))
        all_goals refine tc_ret ?_; (repeat (first | refine tk_then_ret ?_ | refine tk_block_ret ?_))
        all_goals (refine tk_ret rfl rfl (.cons (.tmp rfl) .nil) ?_)
        all_goals (
         refine fun w' hw' => ⟨congrArg (fun n => Ending.returned (Value.int .i64 n)) ?_, hw'.fr (by simp)⟩
         unfold chkS
         first
         | (rw [if_pos (by omega)])
         | (rw [if_neg (by omega)]
            refine (if_pos ?_).symm
            first
            | exact .inl (by omega)
            | exact .inr (.inl (by omega))
            | exact .inr (.inr (.inl (by omega)))
            | exact .inr (.inr (.inr (.inl (by omega))))
            | exact .inr (.inr (.inr (.inr (.inl (by omega)))))
            | exact .inr (.inr (.inr (.inr (.inr (.inl (by assumption))))))
            | exact .inr (.inr (.inr (.inr (.inr (.inr (by assumption)))))))
         | (rw [if_neg (by omega), if_neg (by rintro (h | h | h | h | h | h | h) <;> first | omega | (rw [h] at *; contradiction) | simp_all), if_pos (by omega)])
         | (rw [if_neg (by omega), if_neg (by rintro (h | h | h | h | h | h | h) <;> first | omega | (rw [h] at *; contradiction) | simp_all), if_neg (by omega)]))
      · try simp only [qn1, qn2, qn3, qn4, qn5, qn6, qn7, qn8] at hc
        all_goals ((first | (exfalso; with_reducible exact btf hc) | skip))
        all_goals refine tc_skip ?_; ((refine hK3 ?_; try (clear hK3; clear K3)))
        all_goals refine tc_seq fun K8 hK8 => ?_; refine tc_region ?_; refine tl_q (y_assign rfl) rfl ?_; refine tl_nil ?_; ((refine hK8 ?_; try (clear hK8; clear K8)))
        all_goals refine tc_seq fun K9 hK9 => ?_; refine tc_seq fun K10 hK10 => ?_; refine tc_region ?_; refine tl_q (y_field rfl) rfl ?_; refine tl_q (y_load1 rfl (by repeat constructor) (by rfl)) rfl ?_; refine tl_q (y_len rfl) rfl ?_; refine tl_q (y_move rfl) rfl ?_; refine tl_nil ?_; ((refine hK10 ?_; try (clear hK10; clear K10)))
        all_goals refine tc_block ?_
        all_goals (
         refine tc_loop (fun n : Nat => n ≤ s.ps.length) (fun n => [(5, vi (manyS (s.ps.take n))), (78, .slice ad2 s.ps.length cp2), (79, vi s.ps.length), (80, vi n)]) (fun _ => [(w, [])]) (fun _ => []) (fun n => s.ps.length - n) ?_ ?_
         · exact tk_start 0 (Nat.zero_le _) (.cons rfl (.cons rfl (.cons rfl (.cons rfl .nil)))) (fun _ h => h.subl SB.s SB.s)
         · rintro n hn
           all_goals refine tc_seq fun K11 hK11 => ?_; refine tc_region ?_; refine tl_q (y_lss rfl rfl) rfl ?_; refine tl_nil ?_; ((refine hK11 ?_; try (clear hK11; clear K11)))
           all_goals refine tc_seq fun K12 hK12 => ?_
           all_goals (
            refine tc_cond rfl (fun hc => ?_) (fun hc => ?_)
            · try simp only [qn1, qn2, qn3, qn4, qn5, qn6, qn7, qn8] at hc
              all_goals refine tc_skip ?_; ((refine hK12 ?_; try (clear hK12; clear K12)))
              all_goals refine tc_seq fun K13 hK13 => ?_; refine tc_block ?_; refine tc_seq fun K14 hK14 => ?_; refine tc_region ?_; refine tl_q (y_index rfl rfl (by omega) (had2 (by omega))) rfl ?_; ((refine tl_q (y_loadNo (n := 5) (vs := [vi (s.ps.getD n pas0).b, vi (s.ps.getD n pas0).fr, vi (s.ps.getD n pas0).to, vi (s.ps.getD n pas0).lo, vi (s.ps.getD n pas0).hi]) rfl (fun w' hw' => by rw [show Int.toNat (n : Int) * 5 = n * 5 from by omega]; exact hcell2 w' [] (hw'.fr (by simp)) (by simp) n (by omega))) rfl ?_))
              all_goals refine tl_e (e_allocN rfl) rfl (fun _ _ => ?_); refine tl_e (e_storeW rfl rfl (by repeat constructor) (by rfl) (by rfl) (by simp [Value.oneCell'])) rfl (fun _ _ => ?_); refine tl_nil ?_; ((refine hK14 ?_; try (clear hK14; clear K14)))
              all_goals (have hpo : s.ps.all (pasOk s) = true := by assumption)
              all_goals ((have hp1 := pas_at hpo (n := n) (by omega); have hb1 := manyS_take (by omega) hpo (by omega) n (by omega); have hb2 := manyS_take (by omega) hpo (by omega) (n + 1) (by omega); have hsu := manyS_snoc (s.ps.take n) (s.ps.getD n pas0); rw [← takeG_succ (by omega)] at hsu; rw [hsu] at hb2))
              all_goals refine tc_region ?_; refine tl_q (y_move rfl) rfl ?_; refine tl_q (y_field rfl) rfl ?_; refine tl_q (y_field rfl) rfl ?_; refine tl_q (y_load1 rfl (by repeat constructor) (by rfl)) rfl ?_; refine tl_q (y_field rfl) rfl ?_; refine tl_q (y_field rfl) rfl ?_; refine tl_q (y_load1 rfl (by repeat constructor) (by rfl)) rfl ?_; refine tl_q (y_sub rfl rfl (by omega)) rfl ?_; refine tl_q (y_add rfl rfl (by omega)) rfl ?_; refine tl_q (y_mul rfl rfl (by omega)) rfl ?_; refine tl_q (y_assign rfl) rfl ?_; refine tl_nil ?_; ((refine hK13 ?_; try (clear hK13; clear K13)))
              all_goals refine tc_region ?_; refine tl_q (y_add rfl rfl (by omega)) rfl ?_; refine tl_q (y_move rfl) rfl ?_; refine tl_nil ?_
              all_goals (
               exact tk_round (n + 1) (by omega) (by omega) (.cons (by rw [hsu]; rfl) (.cons rfl (.cons rfl (.cons rfl .nil)))) (fun _ h => h.subl SB.s SB.s))
            · try simp only [qn1, qn2, qn3, qn4, qn5, qn6, qn7, qn8] at hc
              all_goals refine tc_exit ?_; ((refine hK9 ?_; try (clear hK9; clear K9)))
              all_goals refine tc_seq fun K15 hK15 => ?_; refine tc_seq fun K16 hK16 => ?_; (have htk : s.ps.take n = s.ps := List.take_of_length_le (by omega))
              all_goals (rw [htk])
              all_goals refine tc_region ?_; refine tl_q (y_move rfl) rfl ?_; refine tl_q (y_gtr rfl rfl) rfl ?_; refine tl_nil ?_; ((refine hK16 ?_; try (clear hK16; clear K16)))
              all_goals (
               refine tc_cond rfl (fun hc => ?_) (fun hc => ?_)
               · try simp only [qn1, qn2, qn3, qn4, qn5, qn6, qn7, qn8] at hc
                 all_goals refine tc_seq fun K17 hK17 => ?_; refine tc_region ?_; refine tl_q (y_assign rfl) rfl ?_; refine tl_nil ?_; ((refine hK17 ?_; try (clear hK17; clear K17)))
                 all_goals refine tc_ret ?_; (repeat (refine tk_then_ret ?_))
                 all_goals (refine tk_ret rfl rfl (.cons (.tmp rfl) .nil) ?_)
                 all_goals (
                  refine fun w' hw' => ⟨congrArg (fun n => Ending.returned (Value.int .i64 n)) ?_, hw'.fr (by simp)⟩
                  unfold chkS
                  first
                  | (rw [if_pos (by omega)])
                  | (rw [if_neg (by omega)]
                     refine (if_pos ?_).symm
                     first
                     | exact .inl (by omega)
                     | exact .inr (.inl (by omega))
                     | exact .inr (.inr (.inl (by omega)))
                     | exact .inr (.inr (.inr (.inl (by omega))))
                     | exact .inr (.inr (.inr (.inr (.inl (by omega)))))
                     | exact .inr (.inr (.inr (.inr (.inr (.inl (by assumption))))))
                     | exact .inr (.inr (.inr (.inr (.inr (.inr (by assumption)))))))
                  | (rw [if_neg (by omega), if_neg (by rintro (h | h | h | h | h | h | h) <;> first | omega | (rw [h] at *; contradiction) | simp_all), if_pos (by omega)])
                  | (rw [if_neg (by omega), if_neg (by rintro (h | h | h | h | h | h | h) <;> first | omega | (rw [h] at *; contradiction) | simp_all), if_neg (by omega)]))
               · try simp only [qn1, qn2, qn3, qn4, qn5, qn6, qn7, qn8] at hc
                 all_goals refine tc_skip ?_; ((refine hK15 ?_; try (clear hK15; clear K15)))
                 all_goals refine tc_seq fun K18 hK18 => ?_; refine tc_region ?_; refine tl_q (y_assign rfl) rfl ?_; refine tl_nil ?_; ((refine hK18 ?_; try (clear hK18; clear K18)))
                 all_goals refine tc_ret ?_; (repeat (first | refine tk_then_ret ?_))
                 all_goals (refine tk_ret rfl rfl (.cons (.tmp rfl) .nil) ?_)
                 all_goals (
                  refine fun w' hw' => ⟨congrArg (fun n => Ending.returned (Value.int .i64 n)) ?_, hw'.fr (by simp)⟩
                  unfold chkS
                  first
                  | (rw [if_pos (by omega)])
                  | (rw [if_neg (by omega)]
                     refine (if_pos ?_).symm
                     first
                     | exact .inl (by omega)
                     | exact .inr (.inl (by omega))
                     | exact .inr (.inr (.inl (by omega)))
                     | exact .inr (.inr (.inr (.inl (by omega))))
                     | exact .inr (.inr (.inr (.inr (.inl (by omega)))))
                     | exact .inr (.inr (.inr (.inr (.inr (.inl (by assumption))))))
                     | exact .inr (.inr (.inr (.inr (.inr (.inr (by assumption)))))))
                  | (rw [if_neg (by omega), if_neg (by rintro (h | h | h | h | h | h | h) <;> first | omega | (rw [h] at *; contradiction) | simp_all), if_pos (by omega)])
                  | (rw [if_neg (by omega), if_neg (by rintro (h | h | h | h | h | h | h) <;> first | omega | (rw [h] at *; contradiction) | simp_all), if_neg (by omega)])))))))
end Go.Sp
/-
  Slices that a function makes by appending: nil, or at the head of a block of its own; literals of slices of structs.
-/
namespace Go.Sp
open Go Go.Proofs
inductive PVG (F : List (Nat × Value)) : Nat → Nat → List (Nat × Operand) → List Value → Prop
  | nil {sz k : Nat} : PVG F sz k [] []
  | agg {sz k : Nat} {x : Operand} {cs : List Value} {rest : List (Nat × Operand)} {out : List Value} : evalO F x = some (.agg cs.toArray) → cs.length = sz → PVG F sz (k + 1) rest out → PVG F sz k ((k, x) :: rest) (cs ++ out)
theorem PVG.length {F : List (Nat × Value)} {sz k : Nat} {ps : List (Nat × Operand)} {out : List Value} (h : PVG F sz k ps out) : out.length = ps.length * sz := by
  induction h with
  | nil => simp
  | agg _ hl _ ih => rw [List.length_append, ih, hl, List.length_cons, Nat.add_mul]; omega
theorem foldlSet (o : Nat) : ∀ (cs : List Value) (n : Nat) (pre old junk : List Value), pre.length = o + n → old.length = cs.length →
    (cs.zipIdx n).foldl (fun (a : Array Value) (p : Value × Nat) => a.setIfInBounds (o + p.2) p.1) (pre ++ old ++ junk).toArray = (pre ++ cs ++ junk).toArray := by
  intro cs
  induction cs with
  | nil => intro n pre old junk _ ho; obtain rfl : old = [] := by simpa using ho
           simp
  | cons c cs ih =>
    intro n pre old junk hp ho
    match old, ho with
    | z :: old, ho =>
      rw [List.zipIdx_cons, List.foldl_cons]
      have e : ((pre ++ z :: old ++ junk).toArray : Array Value).setIfInBounds (o + n) c = ((pre ++ [c]) ++ old ++ junk).toArray := by
        rw [List.setIfInBounds_toArray]
        congr 1
        rw [← hp]
        simp
      dsimp only
      rw [e, ih (n + 1) (pre ++ [c]) old junk (by simp [hp]; omega) (by simpa using ho)]
      simp
theorem PVG.fill {F : List (Nat × Value)} {sz k : Nat} {ps : List (Nat × Operand)} {out : List Value} (h : PVG F sz k ps out) {N : NN} {a : Act} (ht : TF N F a) : ∀ (pre junk : List Value), pre.length = k * sz → junk.length = ps.length * sz →
    Instr.fill (fun i => some (i * sz, sz)) (pre ++ junk).toArray (ps.map fun (i, x) => (i, a.eval x)) = some (pre ++ out).toArray := by
  induction h with
  | nil => intro pre junk _ hj; obtain rfl : junk = [] := by simpa using hj
           rfl
  | @agg k x cs rest out hx hl _ ih =>
    intro pre junk hp hj
    simp only [List.length_cons, Nat.add_mul, Nat.one_mul] at hj
    have hsp : junk = junk.take sz ++ junk.drop sz := (List.take_append_drop _ _).symm
    have := ih (pre ++ cs) (junk.drop sz) (by rw [List.length_append, hp, hl, Nat.add_mul]; omega) (by simp; omega)
    simp only [List.map_cons, ht.eval hx]
    refine fill_cons (o := k * sz) (sz := sz) (c := cs.toArray) rfl rfl (by simpa using hl) (by simp; omega) ?_
    have e := foldlSet (k * sz) cs 0 pre (junk.take sz) (junk.drop sz) (by simpa using hp) (by simp; omega)
    rw [List.append_assoc, ← hsp] at e
    rw [Array.zipIdx_toArray, List.foldl_toArray]
    refine Eq.trans (congrArg (fun z => Instr.fill _ z _) ?_) (this.trans (by rw [List.append_assoc]))
    rw [← e]
theorem e_bsliceG {P : Program} {N : NN} {F : List (Nat × Value)} {bs : List (World × List Nat)} {H : List (Nat × Obj)} {ty : TypeId} {pos : String} {after : Array Edge} {g : Option (Nat × Bool)} {dd : Tmp} {t e : TypeId} {sz by_ len : Nat} {ps : List (Nat × Operand)} {out : List Value} [hs : TySlice P t e sz] [hi : TyElem P e sz by_] (hd : Nat.blt dd N.n = true) (hp : PVG F sz 0 ps out) (hl : ps.length = len) (hb : Nat.ble (len * sz) 16777216 = true) :
    OpE P ⟨some dd, .buildSlice t len ps.toArray, ty, pos, after, g⟩ N F bs H (fun _ : Nat => True) (fun b => (dd, .slice (some ⟨b, 0, none⟩) len len) :: F) (fun _ => bs) (fun b => (b, .cells out.toArray e (0, 0)) :: H) := by
  unfold OpE
  intro a w ht hw K Q hK
  obtain ⟨i, z, h1, h2, h3, h4, h5⟩ := hi.info
  have hb' : ¬ len * sz > 2 ^ 24 := by have := Nat.le_of_ble_eq_true hb; omega
  subst hl
  have hmap : (ps.toArray.map fun (i, x) => (i, a.eval x)).toList = ps.map fun (i, x) => (i, a.eval x) := by simp
  have key : ∀ zero : Array Value, Instr.fill (fun i => some (i * sz, sz)) ((Array.range (ps.length * sz)).map (zero[· % zero.size]!)) (ps.map fun (i, x) => (i, a.eval x)) = some out.toArray := fun zero => by
    have := hp.fill ht [] ((Array.range (ps.length * sz)).map (zero[· % zero.size]!)).toList (by simp) (by simp)
    rw [List.nil_append, Array.toArray_toList] at this
    exact this
  have hrun : (Instr.buildSlice t ps.length (ps.toArray.map fun (i, x) => (i, a.eval x))).run P w = .ok (.slice (some ⟨w.heap.size, 0, none⟩) ps.length ps.length) (w.alloc (.cells out.toArray e)) := by
    unfold Instr.buildSlice
    simp only [Sem.run_bind, underlying_run hs.ty, Result.andThen, sizeOf_run hs.info, hb', if_false]
    split
    · simp only [Sem.run_bind, Sem.run_pure, Result.andThen, hmap, key, newRow, run_newObj]; rfl
    · simp only [Sem.run_bind, zeroValue_run h1 h2, Sem.run_pure, Result.andThen, hmap, key, newRow, run_newObj]; rfl
  unfold Oper.wp
  simp only [execOp, Sem.run_bind, hrun, Result.andThen, Sem.run_pure, Oper.upon]
  exact hK w.heap.size _ _ trivial (ht.put hd _) (hw.alloc _)
abbrev OwnB := Option (Nat × Nat × List Value)
def ouA : OwnB → Option Addr × Nat
  | none => (none, 0)
  | some (b, cap, _) => (some ⟨b, 0, none⟩, cap)
abbrev ouV (n : Nat) (oo : OwnB) : Value := .slice (ouA oo).1 n (ouA oo).2
/-- The block of the own slice, if there is one. -/
def slE {α : Type} (e : TypeId) (enc : α → List Value) (xs : List α) : OwnB → List (Nat × Obj)
  | none => []
  | some (b, _, junk) => [(b, .cells (xs.flatMap enc ++ junk).toArray e (0, 0))]
def okE {α : Type} (k : Nat) (xs : List α) : OwnB → Prop
  | none => xs = []
  | some (_, cap, junk) => xs.length ≤ cap ∧ junk.length = (cap - xs.length) * k
/-- Z is a part of H, in whose place H' has Z'. -/
inductive HT (Z Z' : List (Nat × Obj)) : List (Nat × Obj) → List (Nat × Obj) → Prop
  | all : HT Z Z' Z Z'
  | here {T : List (Nat × Obj)} : HT Z Z' (Z ++ T) (Z' ++ T)
  | tail {p : Nat × Obj} {H H' : List (Nat × Obj)} : HT Z Z' H H' → HT Z Z' (p :: H) (p :: H')
  | skip {Y H H' : List (Nat × Obj)} : HT Z Z' H H' → HT Z Z' (Y ++ H) (Y ++ H')
theorem HT.split {Z Z' H H' : List (Nat × Obj)} (h : HT Z Z' H H') : ∃ L T, H = L ++ (Z ++ T) ∧ H' = L ++ (Z' ++ T) := by
  induction h with
  | all => exact ⟨[], [], by simp, by simp⟩
  | here => exact ⟨[], _, rfl, rfl⟩
  | @tail p H H' _ ih => obtain ⟨L, T, rfl, rfl⟩ := ih; exact ⟨p :: L, T, rfl, rfl⟩
  | @skip Y H H' _ ih => obtain ⟨L, T, rfl, rfl⟩ := ih; exact ⟨Y ++ L, T, by simp, by simp⟩
theorem HD.mid {b : Nat} {o : Obj} : ∀ (L : List (Nat × Obj)) {T : List (Nat × Obj)}, HD b o (L ++ ((b, o) :: T)) (L ++ T)
  | [], _ => .head
  | _ :: L, _ => .tail (HD.mid L)
theorem HG.seg {bs : List (World × List Nat)} {Z H H' : List (Nat × Obj)} {w : World} (hw : HG bs H w) (h : HT Z [] H H') : ∀ q ∈ Z, q ∈ H := by
  obtain ⟨L, T, rfl, _⟩ := h.split
  intro q hq
  simp [hq]
theorem one_flat {α : Type} {enc : α → List Value} (h : ∀ x, one' (enc x)) (xs : List α) : one' (xs.flatMap enc) := fun u hu => by
  obtain ⟨x, _, hx⟩ := List.mem_flatMap.1 hu
  exact h x u hx
theorem e_appendE {P : Program} {N : NN} {F : List (Nat × Value)} {bs : List (World × List Nat)} {H : List (Nat × Obj)} {ty : TypeId} {pos : String} {after : Array Edge} {g : Option (Nat × Bool)} {dd : Tmp} {t e : TypeId} {k by_ : Nat} [hs : TySlice P t e k] [hi : TyElem P e k by_] {α : Type} {enc : α → List Value} {xs ys : List α} {oo : OwnB} {x y : Operand} {xv : Value} {H' : OwnB → List (Nat × Obj)}
    (hk : ∀ x, (enc x).length = k) (ho : ∀ x, one' (enc x)) (hd : Nat.blt dd N.n = true) (hx : evalO F x = some (ouV xs.length oo)) (hy : evalO F y = some xv) (hok : okE k xs oo) (hH : ∀ oo', HT (slE e enc xs oo) (slE e enc (xs ++ ys) oo') H (H' oo')) (hr : ∀ w, HG bs H w → RdS k enc w xv ys) (hsm : xs.length + ys.length ≤ 100000) (hby : Nat.ble by_ 1000 = true) :
    OpE P ⟨some dd, .call ⟨.builtin .append, #[x, y], #[t, t]⟩, ty, pos, after, g⟩ N F bs H (fun oo' : OwnB => okE k (xs ++ ys) oo') (fun oo' => (dd, ouV (xs ++ ys).length oo') :: F) (fun _ => bs) H' := by
  have h1 := one_flat ho ys
  rcases oo with _ | ⟨b, cap, junk⟩
  · have hxs : xs = [] := hok
    subst hxs
    by_cases hn : ys.length = 0
    · have hys : ys = [] := List.eq_nil_of_length_eq_zero hn
      subst hys
      unfold OpE
      intro a w ht hw K Q hK
      obtain ⟨_, ad, cap, rfl, _⟩ := hr w hw
      have h0 := e_append_nil0 (P := P) (N := N) (F := F) (bs := bs) (H := H) (ty := ty) (pos := pos) (after := after) (g := g) (dd := dd) (t := t) (x := x) (y := y) hd hx hy
      unfold OpE at h0
      refine h0 a w ht hw K Q fun _ a' w' _ h2 h3 => hK none a' w' rfl h2 ?_
      obtain ⟨L, T, e1, e2⟩ := (hH none).split
      have : H' none = H := by rw [e1, e2]; rfl
      rw [this]; exact h3
    · unfold OpE
      intro a w ht hw K Q hK
      have h0 := e_append_nil (P := P) (N := N) (F := F) (bs := bs) (H := H) (ty := ty) (pos := pos) (after := after) (g := g) (dd := dd) (t := t) (x := x) (y := y) (vs := ys.flatMap enc) hd hx hy hr h1 (by omega) (by simpa using hsm) hby
      unfold OpE at h0
      refine h0 a w ht hw K Q fun r a' w' h1 h2 h3 => hK (some r) a' w' ?_ ?_ ?_
      · show ([] ++ ys).length ≤ _ ∧ _
        rw [List.nil_append]; exact h1
      · show TF N ((dd, .slice (some ⟨r.1, 0, none⟩) ([] ++ ys).length r.2.1) :: F) a'
        rw [List.nil_append]; exact h2
      · obtain ⟨L, T, e1, e2⟩ := (hH (some r)).split
        rw [e2]
        refine h3.perm ?_
        rw [e1]
        show ((r.1, Obj.cells (ys.flatMap enc ++ r.2.2).toArray e (0, 0)) :: (L ++ T)).Perm (L ++ ((r.1, Obj.cells (([] ++ ys).flatMap enc ++ r.2.2).toArray e (0, 0)) :: T))
        rw [List.nil_append]
        exact List.perm_middle.symm
  · obtain ⟨hc1, hc2⟩ := hok
    obtain ⟨L, T, e1, _⟩ := (hH none).split
    unfold OpE
    intro a w ht hw K Q hK
    have h0 := e_append_own (P := P) (N := N) (F := F) (bs := bs) (H := H) (H' := L ++ T) (ty := ty) (pos := pos) (after := after) (g := g) (dd := dd) (t := t) (x := x) (y := y) (old := xs.flatMap enc) (junk := junk) (vs := ys.flatMap enc) hd hx hy (by rw [e1]; exact HD.mid L) (flatS_len hk xs) hc2 hc1 hr h1 hsm hby
    unfold OpE at h0
    refine h0 a w ht hw K Q fun r a' w' h1 h2 h3 => hK (some r) a' w' ?_ ?_ ?_
    · show (xs ++ ys).length ≤ _ ∧ _
      rw [List.length_append]; exact h1
    · show TF N ((dd, .slice (some ⟨r.1, 0, none⟩) (xs ++ ys).length r.2.1) :: F) a'
      rw [List.length_append]; exact h2
    · obtain ⟨L', T', e3, e4⟩ := (hH (some r)).split
      have hLT : (L ++ T).Perm (L' ++ T') := by
        have hee : L ++ (slE e enc xs (some (b, cap, junk)) ++ T) = L' ++ (slE e enc xs (some (b, cap, junk)) ++ T') := e1.symm.trans e3
        have p1 : (L ++ (slE e enc xs (some (b, cap, junk)) ++ T)).Perm (slE e enc xs (some (b, cap, junk)) ++ (L ++ T)) := by
          rw [← List.append_assoc, ← List.append_assoc]; exact List.Perm.append_right _ List.perm_append_comm
        have p2 : (L' ++ (slE e enc xs (some (b, cap, junk)) ++ T')).Perm (slE e enc xs (some (b, cap, junk)) ++ (L' ++ T')) := by
          rw [← List.append_assoc, ← List.append_assoc]; exact List.Perm.append_right _ List.perm_append_comm
        rw [hee] at p1
        exact (List.perm_append_left_iff _).1 (p1.symm.trans p2)
      rw [e4]
      refine h3.perm ?_
      show ((r.1, Obj.cells (xs.flatMap enc ++ ys.flatMap enc ++ r.2.2).toArray e (0, 0)) :: (L ++ T)).Perm (L' ++ ((r.1, Obj.cells ((xs ++ ys).flatMap enc ++ r.2.2).toArray e (0, 0)) :: T'))
      rw [List.flatMap_append]
      exact (hLT.cons _).trans List.perm_middle.symm
/-- It reads as what was appended. -/
theorem RdS.ofO {α : Type} {k : Nat} {enc : α → List Value} (hk : ∀ x, (enc x).length = k) {bs : List (World × List Nat)} {H H' : List (Nat × Obj)} {w : World} {xs : List α} {e : TypeId} {oo : OwnB} (hok : okE k xs oo) (hw : HG bs H w) (hm : HT (slE e enc xs oo) [] H H') : RdS k enc w (ouV xs.length oo) xs := by
  rcases oo with _ | ⟨b, cap, junk⟩
  · obtain rfl : xs = [] := hok
    exact RdS.nil k enc w 0
  · have hq := hw.heap _ (hw.seg hm (b, .cells (xs.flatMap enc ++ junk).toArray e (0, 0)) List.mem_cons_self)
    refine ⟨flatS_len hk xs, some ⟨b, 0, none⟩, cap, rfl, fun _ => ⟨b, 0, rfl, ?_⟩⟩
    have := CA_pre (xs.flatMap enc) junk e (0, 0)
    rw [flatS_len hk] at this
    exact this.cells hq
theorem NewS.ofO {α : Type} {enc : α → List Value} {bs : List (World × List Nat)} {H H' : List (Nat × Obj)} {w w0 : World} {xs : List α} {e : TypeId} {oo : OwnB} {n : Nat} (hw : HG bs H w) (hm : HT (slE e enc xs oo) [] H H') (hb : (w0, []) ∈ bs) : NewS w0 (ouV n oo) := by
  rcases oo with _ | ⟨b, cap, junk⟩
  · exact NewS.nil _ _ _
  · intro p m c h
    cases h
    exact (hw.own _ (hw.seg hm (b, .cells (xs.flatMap enc ++ junk).toArray e (0, 0)) List.mem_cons_self) (w0, []) hb).resolve_left (by simp)
theorem RdS.own0 {α : Type} {k : Nat} {enc : α → List Value} (hk : ∀ x, (enc x).length = k) {bs : List (World × List Nat)} {H : List (Nat × Obj)} {w : World} {b : Nat} {xs : List α} {e : TypeId} {f : Nat × Nat} {cap : Nat} (hw : HG bs H w) (hm : HM b (.cells (xs.flatMap enc).toArray e f) H) : RdS k enc w (.slice (some ⟨b, 0, none⟩) xs.length cap) xs :=
  RdS.own (junk := []) hk hw (by rw [List.append_nil]; exact hm)
def inE (n : Int) : List Value := [vi n]
theorem inE_len (n : Int) : (inE n).length = 1 := rfl
theorem inE_one (n : Int) : one' (inE n) := fun u hu => by obtain rfl := List.mem_singleton.1 hu; rfl
theorem boE_one (b : Bool) : one' (boE b) := fun u hu => by obtain rfl := List.mem_singleton.1 hu; rfl
theorem psE_one (p : Pas) : one' (psE p) := fun u hu => by simp only [psE, List.mem_cons, List.not_mem_nil, or_false] at hu; rcases hu with rfl | rfl | rfl | rfl | rfl <;> rfl
theorem sgE_one (p : Sgt) : one' (sgE p) := fun u hu => by simp only [sgE, List.mem_cons, List.not_mem_nil, or_false] at hu; rcases hu with rfl | rfl | rfl <;> rfl
theorem RdS.toI {w : World} {v : Value} {xs : List Int} (h : RdS 1 inE w v xs) : RdI w v xs := RdS.int.1 h
theorem RdI.toS {w : World} {v : Value} {xs : List Int} (h : RdI w v xs) : RdS 1 inE w v xs := RdS.int.2 h
theorem slE_none {α : Type} {e : TypeId} {enc : α → List Value} {xs : List α} : slE e enc xs none = [] := rfl
theorem slE_some {α : Type} {e : TypeId} {enc : α → List Value} {xs : List α} {b c : Nat} {j : List Value} : slE e enc xs (some (b, c, j)) = [(b, .cells (xs.flatMap enc ++ j).toArray e (0, 0))] := rfl
attribute [irreducible] slE
end Go.Sp
/-
  Lists of slices, read and made.
-/
namespace Go.Sp
open Go Go.Proofs
/-- A value of one cell. -/
abbrev Sv := { v : Value // v.oneCell' = true }
def svE (v : Sv) : List Value := [v.1]
theorem svE_len (v : Sv) : (svE v).length = 1 := rfl
theorem svE_one (v : Sv) : one' (svE v) := fun u hu => by obtain rfl := List.mem_singleton.1 hu; exact v.2
def sv0 : Sv := ⟨.slice none 0 0, rfl⟩
abbrev svS (n : Nat) (y : Option Addr × Nat) : Sv := ⟨slV n y, rfl⟩
/-- A slice reads so, and stays so as long as nothing but S turns. -/
def OKS {α : Type} (k : Nat) (enc : α → List Value) (w : World) (S : List Nat) (v : Value) (xs : List α) : Prop := RdS k enc w v xs ∧ (0 < xs.length → ∀ p m c, v = .slice (some p) m c → p.block < w.heap.size ∧ p.block ∉ S)
theorem RdS.frO {α : Type} {k : Nat} {enc : α → List Value} {w w' : World} {v : Value} {xs : List α} {S : List Nat} (h : RdS k enc w v xs) (f : Fr S w w') (hS : 0 < xs.length → sepS v S) : RdS k enc w' v xs := by
  by_cases h0 : 0 < xs.length
  · exact h.frS f (hS h0)
  · obtain ⟨h1, ad, cap, h2, _⟩ := h
    exact ⟨h1, ad, cap, h2, fun hn => absurd (Nat.pos_of_ne_zero hn) h0⟩
theorem OKS.rd' {α : Type} {k : Nat} {enc : α → List Value} {w w' : World} {S : List Nat} {v : Value} {xs : List α} (h : OKS k enc w S v xs) (f : Fr S w w') : RdS k enc w' v xs := h.1.frO f fun h0 p m c e hm => (h.2 h0 p m c e).2 hm
theorem OKS.step {α : Type} {k : Nat} {enc : α → List Value} {w w1 : World} {S S' : List Nat} {v : Value} {xs : List α} (h : OKS k enc w S v xs) (f : Fr S w w1) (hS : ∀ b ∈ S', b ∈ S ∨ w.heap.size ≤ b) : OKS k enc w1 S' v xs :=
  ⟨h.rd' f, fun h0 p m c e => by
    obtain ⟨h1, h2⟩ := h.2 h0 p m c e
    refine ⟨Nat.lt_of_lt_of_le h1 f.size, fun hm => ?_⟩
    rcases hS _ hm with g | g
    · exact h2 g
    · omega⟩
theorem HG.ownsK {bs : List (World × List Nat)} {H Hk : List (Nat × Obj)} {w : World} (hw : HG bs H w) (hk : Hk.Sublist H) {w0 : World} {S : List Nat} (hb : (w0, S) ∈ bs) : ∀ x ∈ Hk.map Prod.fst, x ∈ S ∨ w0.heap.size ≤ x := fun x hx => by
  obtain ⟨p, hp, rfl⟩ := List.mem_map.1 hx
  exact hw.own p (hk.subset hp) (w0, S) hb
theorem RdS.lt {α : Type} {k : Nat} {enc : α → List Value} (hk : ∀ x, (enc x).length = k) (h0 : 0 < k) {w : World} {v : Value} {xs : List α} (hr : RdS k enc w v xs) (hx : 0 < xs.length) : ∀ p m c, v = .slice (some p) m c → p.block < w.heap.size := fun p m c e => by
  obtain ⟨hl, ad, cap, e0, hc⟩ := hr
  obtain ⟨q, o, e2, hca⟩ := hc (by omega)
  rw [e0] at e
  injection e with e1
  rw [e2] at e1
  cases e1
  have hlen : 0 < (xs.flatMap enc).length := by rw [hl]; exact Nat.mul_pos hx h0
  have := hca.get 0 ((xs.flatMap enc)[0]'hlen) (by rw [List.getElem?_eq_getElem hlen])
  rcases Nat.lt_or_ge q w.heap.size with g | g
  · exact g
  · unfold World.cell? at this
    rw [show w.heap[(⟨q, o + 0, none⟩ : Addr).block]? = none from Array.getElem?_eq_none g] at this
    cases this
/-- What a call returned. -/
theorem OKS.mk' {α : Type} {k : Nat} {enc : α → List Value} (hk : ∀ x, (enc x).length = k) (h0 : 0 < k) {bs : List (World × List Nat)} {H Hk : List (Nat × Obj)} {w1 x2 : World} {S0 : List Nat} {v : Value} {xs : List α} (hw : HG bs H w1) (hs' : Hk.Sublist H) (hb : (x2, S0) ∈ bs) (hs : sepS v S0) (hr : RdS k enc x2 v xs) : OKS k enc w1 (Hk.map Prod.fst) v xs := by
  refine ⟨hr.frO (hw.fr hb) fun _ => hs, fun hx p m c e => ?_⟩
  have hlt := hr.lt hk h0 hx p m c e
  refine ⟨Nat.lt_of_lt_of_le hlt (hw.fr hb).size, fun hm => ?_⟩
  rcases hw.ownsK hs' hb _ hm with g | g
  · exact hs p m c e g
  · omega
/-- An own slice, let go. -/
theorem OKS.ofO {α : Type} {k : Nat} {enc : α → List Value} (hk : ∀ x, (enc x).length = k) {bs : List (World × List Nat)} {H' : List (Nat × Obj)} {w1 : World} {e : TypeId} {xs : List α} {oo : OwnB} (hok : okE k xs oo) (hw : HG bs (slE e enc xs oo ++ H') w1) : OKS k enc w1 (H'.map Prod.fst) (ouV xs.length oo) xs := by
  rcases oo with _ | ⟨b, cap, junk⟩
  · obtain rfl : xs = [] := hok
    exact ⟨RdS.nil k enc w1 0, fun h => absurd h (Nat.lt_irrefl 0)⟩
  · rw [slE_some] at hw
    have hn := hw.nodup
    rw [List.singleton_append, List.map_cons, List.nodup_cons] at hn
    refine ⟨?_, fun hx p m c e => by cases e; exact ⟨hw.lt List.mem_cons_self, hn.1⟩⟩
    refine ⟨flatS_len hk xs, some ⟨b, 0, none⟩, cap, rfl, fun _ => ⟨b, 0, rfl, ?_⟩⟩
    have := CA_pre (xs.flatMap enc) junk e (0, 0)
    rw [flatS_len hk] at this
    exact this.cells (hw.heap _ List.mem_cons_self)
def OKV {α : Type} (k : Nat) (enc : α → List Value) (w : World) (S : List Nat) (us : List Sv) (xss : List (List α)) : Prop := us.length = xss.length ∧ ∀ j, j < xss.length → OKS k enc w S (us.getD j sv0).1 (xss.getD j [])
theorem OKV.nil {α : Type} {k : Nat} {enc : α → List Value} {w : World} {S : List Nat} : OKV k enc w S [] [] := ⟨rfl, fun j hj => absurd hj (Nat.not_lt_zero j)⟩
theorem OKV.step {α : Type} {k : Nat} {enc : α → List Value} {w w1 : World} {S S' : List Nat} {us : List Sv} {xss : List (List α)} (h : OKV k enc w S us xss) (f : Fr S w w1) (hS : ∀ b ∈ S', b ∈ S ∨ w.heap.size ≤ b) : OKV k enc w1 S' us xss := ⟨h.1, fun j hj => (h.2 j hj).step f hS⟩
theorem getD_snocK {α : Type} {l : List α} {x z : α} {j : Nat} : (l ++ [x]).getD j z = if j < l.length then l.getD j z else if j = l.length then x else z := by
  rw [List.getD_eq_getElem?_getD, List.getD_eq_getElem?_getD]
  split
  · rename_i h; rw [List.getElem?_append_left h]
  · rename_i h
    rw [List.getElem?_append_right (by omega)]
    split
    · rename_i h2; subst h2; rw [Nat.sub_self]; rfl
    · rename_i h2; rw [List.getElem?_eq_none (by simp; omega)]; rfl
theorem OKV.snoc {α : Type} {k : Nat} {enc : α → List Value} {w : World} {S : List Nat} {us : List Sv} {xss : List (List α)} {v : Sv} {xs : List α} (h : OKV k enc w S us xss) (hv : OKS k enc w S v.1 xs) : OKV k enc w S (us ++ [v]) (xss ++ [xs]) := by
  refine ⟨by simp [h.1], fun j hj => ?_⟩
  rw [List.length_append, List.length_singleton] at hj
  rw [getD_snocK, getD_snocK, h.1]
  by_cases hlt : j < xss.length
  · rw [if_pos hlt, if_pos hlt]; exact h.2 j hlt
  · rw [if_neg hlt, if_neg hlt, if_pos (by omega), if_pos (by omega)]; exact hv
/-- A slice of slices reads so. -/
def RdLL {α : Type} (k : Nat) (enc : α → List Value) (w : World) (v : Value) (xss : List (List α)) : Prop := ∃ us : List Sv, RdS 1 svE w v us ∧ us.length = xss.length ∧ ∀ j, j < xss.length → RdS k enc w (us.getD j sv0).1 (xss.getD j [])
theorem RdLL.fr {α : Type} {k : Nat} {enc : α → List Value} {w w' : World} {v : Value} {xss : List (List α)} (h : RdLL k enc w v xss) (f : Fr [] w w') : RdLL k enc w' v xss := by
  obtain ⟨us, h1, h2, h3⟩ := h
  exact ⟨us, h1.fr f, h2, fun j hj => (h3 j hj).fr f⟩
theorem RdLL.nil {α : Type} (k : Nat) (enc : α → List Value) (w : World) (c : Nat) : RdLL k enc w (.slice none 0 c) [] := ⟨[], RdS.nil 1 svE w c, rfl, fun j hj => absurd hj (Nat.not_lt_zero j)⟩
theorem RdLL.one {α : Type} {k : Nat} {enc : α → List Value} {w : World} {v : Value} {xss : List (List α)} (h : RdLL k enc w v xss) : v.oneCell' = true := by obtain ⟨us, h1, _⟩ := h; exact h1.one
theorem RdLL.open {α : Type} {k : Nat} {enc : α → List Value} {w : World} {v : Value} {xss : List (List α)} (h : RdLL k enc w v xss) :
    ∃ ad cap b o, ∃ us : List Sv, v = .slice ad xss.length cap ∧ (0 < xss.length → ad = some ⟨b, o, none⟩) ∧ (∀ w', Fr [] w w' → ∀ i, i < xss.length → w'.cell? ⟨b, o + i, none⟩ = some (us.getD i sv0).1) ∧ ∀ w', Fr [] w w' → ∀ i, i < xss.length → RdS k enc w' (us.getD i sv0).1 (xss.getD i []) := by
  obtain ⟨us, h1, h2, h3⟩ := h
  obtain ⟨ad, cap, b, o, rfl, had, hcell⟩ := h1.open svE_len sv0
  rw [h2] at had
  refine ⟨ad, cap, b, o, us, by rw [h2], had, fun w' f i hi => ?_, fun w' f i hi => (h3 i hi).fr f⟩
  have := (hcell w' [] f (by simp) i (by omega)).get 0 _ rfl
  rw [Nat.mul_one, Nat.add_zero] at this
  exact this
theorem RdLL.ofO {α : Type} {k : Nat} {enc : α → List Value} {bs : List (World × List Nat)} {H H' : List (Nat × Obj)} {w wz : World} {S : List Nat} {us : List Sv} {xss : List (List α)} {e : TypeId} {oo : OwnB} (hok : okE 1 us oo) (hu : OKV k enc wz S us xss) (hw : HG bs H w) (hf : Fr S wz w) (hm : HT (slE e svE us oo) [] H H') : RdLL k enc w (ouV us.length oo) xss :=
  ⟨us, RdS.ofO svE_len hok hw hm, hu.1, fun j hj => (hu.2 j hj).rd' hf⟩
end Go.Sp
/-
  Package sample: what can be done at a spot.
-/
namespace Go.Sp
open Go Go.Proofs
abbrev gpV (x st : Bool) : Value := .agg #[.bool x, .bool st]
theorem keep_c (x st : Bool) (w : World) : CnV Tryz.prog 120 #[gpV x st] w (.tuple #[.bool x, .bool true]) := by
  refine cnv (vs := [_]) Tryz.func120 rfl rfl ?_
  all_goals refine tc_seq fun K1 hK1 => ?_; refine tc_region ?_; refine tl_e (e_box rfl rfl rfl) rfl (fun b1 _ => ?_); refine tl_q (y_assign rfl) rfl ?_; refine tl_q (y_assign rfl) rfl ?_; refine tl_nil ?_; ((refine hK1 ?_; try (clear hK1; clear K1)))
  all_goals refine tc_seq fun K2 hK2 => ?_; refine tc_region ?_; refine tl_q (y_field rfl) rfl ?_; refine tl_q (y_load1 rfl (by repeat constructor) (by rfl)) rfl ?_; refine tl_q (y_assign rfl) rfl ?_; refine tl_q (y_assign rfl) rfl ?_; refine tl_nil ?_; ((refine hK2 ?_; try (clear hK2; clear K2)))
  all_goals refine tc_ret ?_; (repeat (first | refine tk_then_ret ?_))
  all_goals (refine tk_ret rfl rfl (.cons (.tmp rfl) (.cons (.tmp rfl) .nil)) ?_)
  all_goals (
   exact fun w' hw' => ⟨rfl, hw'.fr (by simp)⟩)
theorem breaks_c (x st : Bool) (w : World) : CnV Tryz.prog 121 #[gpV x st] w (.tuple #[.bool true, .bool (!x)]) := by
  refine cnv (vs := [_]) Tryz.func121 rfl rfl ?_
  all_goals refine tc_seq fun K1 hK1 => ?_; refine tc_region ?_; refine tl_e (e_box rfl rfl rfl) rfl (fun b1 _ => ?_); refine tl_q (y_assign rfl) rfl ?_; refine tl_q (y_assign rfl) rfl ?_; refine tl_nil ?_; ((refine hK1 ?_; try (clear hK1; clear K1)))
  all_goals refine tc_seq fun K2 hK2 => ?_; refine tc_draw (by kernel_rfl) ?_; refine tx_p 0 rfl (by kernel_rfl) (y_field rfl) rfl (fun _ _ _ h => h) (fun _ h => h) ?_; refine tx_q 1 rfl (by kernel_rfl) (y_load1 rfl (by repeat constructor) (by rfl)) rfl (fun _ _ _ h => h) (fun _ h => h) ?_; refine tx_p 2 rfl (by kernel_rfl) (y_not rfl) rfl (fun _ _ _ h => h) (fun _ h => h) ?_; refine tx_p 3 rfl (by kernel_rfl) (y_assign rfl) rfl (fun _ _ _ h => h) (fun _ h => h) ?_; refine tx_p 4 rfl (by kernel_rfl) (y_assign rfl) rfl (fun _ _ _ h => h) (fun _ h => h) ?_; refine tx_done (by kernel_rfl) ?_; ((refine hK2 ?_; try (clear hK2; clear K2)))
  all_goals refine tc_ret ?_; (repeat (first | refine tk_then_ret ?_))
  all_goals (refine tk_ret rfl rfl (.cons (.tmp rfl) (.cons (.tmp rfl) .nil)) ?_)
  all_goals (
   exact fun w' hw' => ⟨rfl, hw'.fr (by simp)⟩)
theorem seals_c (x st : Bool) (w : World) : CnV Tryz.prog 122 #[gpV x st] w (.tuple #[.bool false, .bool (x && st)]) := by
  cases x <;> cases st
  all_goals refine cnv (vs := [_]) Tryz.func122 rfl rfl ?_; refine tc_seq fun K1 hK1 => ?_; refine tc_region ?_; refine tl_e (e_box rfl rfl rfl) rfl (fun b1 _ => ?_); refine tl_q (y_assign rfl) rfl ?_; refine tl_q (y_assign rfl) rfl ?_; refine tl_nil ?_; ((refine hK1 ?_; try (clear hK1; clear K1)))
  all_goals refine tc_seq fun K2 hK2 => ?_; refine tc_draw (by kernel_rfl) ?_; refine tx_p 0 rfl (by kernel_rfl) (y_field rfl) rfl (fun _ _ _ h => h) (fun _ h => h) ?_; refine tx_q 1 rfl (by kernel_rfl) (y_load1 rfl (by repeat constructor) (by rfl)) rfl (fun _ _ _ h => h) (fun _ h => h) ?_; refine tx_p 2 rfl (by kernel_rfl) (y_move rfl) rfl (fun _ _ _ h => h) (fun _ h => h) ?_; (first | refine tx_sk 3 rfl (by kernel_rfl) rfl rfl rfl rfl (fun _ _ _ h => h) (fun _ h => h) ?_ | refine tx_pg 3 rfl (by kernel_rfl) rfl rfl (y_field rfl) rfl (fun _ _ _ h => h) (fun _ h => h) ?_); (first | refine tx_sk 4 rfl (by kernel_rfl) rfl rfl rfl rfl (fun _ _ _ h => h) (fun _ h => h) ?_ | refine tx_qg 4 rfl (by kernel_rfl) rfl rfl (y_load1 rfl (by repeat constructor) (by rfl)) rfl (fun _ _ _ h => h) (fun _ h => h) ?_); (first | refine tx_p 5 rfl (by kernel_rfl) (y_pick_t rfl rfl) rfl (fun _ _ _ h => h) (fun _ h => h) ?_ | refine tx_p 5 rfl (by kernel_rfl) (y_pick_f rfl rfl) rfl (fun _ _ _ h => h) (fun _ h => h) ?_); refine tx_p 6 rfl (by kernel_rfl) (y_assign rfl) rfl (fun _ _ _ h => h) (fun _ h => h) ?_; refine tx_p 7 rfl (by kernel_rfl) (y_assign rfl) rfl (fun _ _ _ h => h) (fun _ h => h) ?_; refine tx_done (by kernel_rfl) ?_; ((refine hK2 ?_; try (clear hK2; clear K2)))
  all_goals refine tc_ret ?_; (repeat (first | refine tk_then_ret ?_))
  all_goals (refine tk_ret rfl rfl (.cons (.tmp rfl) (.cons (.tmp rfl) .nil)) ?_)
  all_goals (
   exact fun w' hw' => ⟨rfl, hw'.fr (by simp)⟩)
theorem again_c (x st : Bool) (w : World) : CnV Tryz.prog 123 #[gpV x st] w (.tuple #[.bool false, .bool (!x && st)]) := by
  cases x <;> cases st
  all_goals refine cnv (vs := [_]) Tryz.func123 rfl rfl ?_; refine tc_seq fun K1 hK1 => ?_; refine tc_region ?_; refine tl_e (e_box rfl rfl rfl) rfl (fun b1 _ => ?_); refine tl_q (y_assign rfl) rfl ?_; refine tl_q (y_assign rfl) rfl ?_; refine tl_nil ?_; ((refine hK1 ?_; try (clear hK1; clear K1)))
  all_goals refine tc_seq fun K2 hK2 => ?_; refine tc_draw (by kernel_rfl) ?_; refine tx_p 0 rfl (by kernel_rfl) (y_field rfl) rfl (fun _ _ _ h => h) (fun _ h => h) ?_; refine tx_q 1 rfl (by kernel_rfl) (y_load1 rfl (by repeat constructor) (by rfl)) rfl (fun _ _ _ h => h) (fun _ h => h) ?_; refine tx_p 2 rfl (by kernel_rfl) (y_not rfl) rfl (fun _ _ _ h => h) (fun _ h => h) ?_; refine tx_p 3 rfl (by kernel_rfl) (y_move rfl) rfl (fun _ _ _ h => h) (fun _ h => h) ?_; (first | refine tx_sk 4 rfl (by kernel_rfl) rfl rfl rfl rfl (fun _ _ _ h => h) (fun _ h => h) ?_ | refine tx_pg 4 rfl (by kernel_rfl) rfl rfl (y_field rfl) rfl (fun _ _ _ h => h) (fun _ h => h) ?_); (first | refine tx_sk 5 rfl (by kernel_rfl) rfl rfl rfl rfl (fun _ _ _ h => h) (fun _ h => h) ?_ | refine tx_qg 5 rfl (by kernel_rfl) rfl rfl (y_load1 rfl (by repeat constructor) (by rfl)) rfl (fun _ _ _ h => h) (fun _ h => h) ?_); (first | refine tx_p 6 rfl (by kernel_rfl) (y_pick_t rfl rfl) rfl (fun _ _ _ h => h) (fun _ h => h) ?_ | refine tx_p 6 rfl (by kernel_rfl) (y_pick_f rfl rfl) rfl (fun _ _ _ h => h) (fun _ h => h) ?_); refine tx_p 7 rfl (by kernel_rfl) (y_assign rfl) rfl (fun _ _ _ h => h) (fun _ h => h) ?_; refine tx_p 8 rfl (by kernel_rfl) (y_assign rfl) rfl (fun _ _ _ h => h) (fun _ h => h) ?_; refine tx_done (by kernel_rfl) ?_; ((refine hK2 ?_; try (clear hK2; clear K2)))
  all_goals refine tc_ret ?_; (repeat (first | refine tk_then_ret ?_))
  all_goals (refine tk_ret rfl rfl (.cons (.tmp rfl) (.cons (.tmp rfl) .nil)) ?_)
  all_goals (
   exact fun w' hw' => ⟨rfl, hw'.fr (by simp)⟩)
abbrev actsV : List Value := [.func (.func 120) #[] #[], .bool false, .func (.func 121) #[] #[], .bool true, .func (.func 122) #[] #[], .bool false, .func (.func 123) #[] #[], .bool true]
theorem acts_c (w : World) : CnV Tryz.prog 110 #[] w (.agg actsV.toArray) := by
  refine cnv (vs := []) Tryz.func110 rfl rfl ?_
  all_goals refine tc_seq fun K1 hK1 => ?_; refine tc_region ?_; refine tl_e (e_allocN rfl) rfl (fun b0 _ => ?_); refine tl_nil ?_; ((refine hK1 ?_; try (clear hK1; clear K1)))
  all_goals refine tc_seq fun K2 hK2 => ?_; refine tc_region ?_; refine tl_q (y_build_g (by repeat constructor)) rfl ?_; refine tl_q (y_build_g (by repeat constructor)) rfl ?_; refine tl_q (y_build_g (by repeat constructor)) rfl ?_; refine tl_q (y_build_g (by repeat constructor)) rfl ?_; refine tl_q (y_build_ga [(0, 2), (2, 2), (4, 2), (6, 2)] (by repeat constructor) rfl) rfl ?_; refine tl_e (e_storeW rfl rfl (by repeat constructor) (by rfl) (by rfl) (by simp [Value.oneCell'])) rfl (fun _ _ => ?_); refine tl_nil ?_; ((refine hK2 ?_; try (clear hK2; clear K2)))
  all_goals refine tc_ret ?_; (repeat (first | refine tk_then_ret ?_))
  all_goals (refine tk_ret rfl rfl (.cons (.agg inferInstance rfl (by repeat constructor) (by rfl)) .nil) ?_)
  all_goals (
   exact fun w' hw' => ⟨rfl, hw'.fr (by simp)⟩)
def sgB (b h : Int) (x : Bool) (g : Sgt) : Bool := decide (¬ g.b = b) || (decide (¬ g.h = h) || (g.wh != x))
def seenB (s : Smp) (b h : Int) (x : Bool) : Bool := s.sg.all (sgB b h x)
theorem seen1_c (b h : Int) (x : Bool) (g : Sgt) (b1 b2 b3 : Nat) (w : World) (h1 : w.cell? ⟨b1, 0, none⟩ = some (vi b)) (h2 : w.cell? ⟨b2, 0, none⟩ = some (vi h)) (h3 : w.cell? ⟨b3, 0, none⟩ = some (.bool x)) :
    CnV Tryz.prog 124 #[sgV g, .pointer (some ⟨b1, 0, none⟩), .pointer (some ⟨b2, 0, none⟩), .pointer (some ⟨b3, 0, none⟩)] w (.bool (sgB b h x g)) := by
  refine cnv (vs := [_, _, _, _]) Tryz.func124 rfl rfl ?_
  all_goals refine tc_seq fun K1 hK1 => ?_; refine tc_region ?_; refine tl_e (e_box rfl rfl rfl) rfl (fun b4 _ => ?_); refine tl_q (y_assign rfl) rfl ?_; refine tl_nil ?_; ((refine hK1 ?_; try (clear hK1; clear K1)))
  all_goals refine tc_seq fun K2 hK2 => ?_; refine tc_region ?_; refine tl_q (y_field rfl) rfl ?_; refine tl_q (y_load1 rfl (by repeat constructor) (by rfl)) rfl ?_; refine tl_q (y_load1o (v := vi b) rfl (fun w' hw' => (hw'.fr (S := []) (w0 := w) (by simp)).cell (by simp) h1)) rfl ?_; refine tl_q (y_neq rfl rfl) rfl ?_; refine tl_q (y_move rfl) rfl ?_; ((refine tl_gs rfl rfl (fun hc => ?_) (fun hc => ?_) <;> (try simp only [qn1, qn2, qn3, qn4, qn5, qn6, qn7, qn8] at hc) <;> (first | refine tl_sk rfl rfl rfl rfl ?_ | refine tl_qg rfl rfl (y_field rfl) rfl ?_)))
  all_goals (first | refine tl_sk rfl rfl rfl rfl ?_ | refine tl_qg rfl rfl (y_load1 rfl (by repeat constructor) (by rfl)) rfl ?_); (first | refine tl_sk rfl rfl rfl rfl ?_ | refine tl_qg rfl rfl (y_load1o (v := vi h) rfl (fun w' hw' => (hw'.fr (S := []) (w0 := w) (by simp)).cell (by simp) h2)) rfl ?_); (first | refine tl_sk rfl rfl rfl rfl ?_ | refine tl_qg rfl rfl (y_neq rfl rfl) rfl ?_); (first | refine tl_q (y_pick_t rfl rfl) rfl ?_ | refine tl_q (y_pick_f rfl rfl) rfl ?_); refine tl_q (y_move rfl) rfl ?_; ((first | refine tl_sk rfl rfl rfl rfl ?_ | (refine tl_gs rfl rfl (fun hc => ?_) (fun hc => ?_) <;> (try simp only [qn1, qn2, qn3, qn4, qn5, qn6, qn7, qn8] at hc) <;> (first | refine tl_sk rfl rfl rfl rfl ?_ | refine tl_qg rfl rfl (y_field rfl) rfl ?_))))
  all_goals (first | refine tl_sk rfl rfl rfl rfl ?_ | refine tl_qg rfl rfl (y_load1 rfl (by repeat constructor) (by rfl)) rfl ?_); (first | refine tl_sk rfl rfl rfl rfl ?_ | refine tl_qg rfl rfl (y_load1o (v := .bool x) rfl (fun w' hw' => (hw'.fr (S := []) (w0 := w) (by simp)).cell (by simp) h3)) rfl ?_); (first | refine tl_sk rfl rfl rfl rfl ?_ | refine tl_qg rfl rfl (y_neqb rfl rfl) rfl ?_); (first | refine tl_q (y_pick_t rfl rfl) rfl ?_ | refine tl_q (y_pick_f rfl rfl) rfl ?_); refine tl_q (y_assign rfl) rfl ?_; refine tl_nil ?_; ((refine hK2 ?_; try (clear hK2; clear K2)))
  all_goals refine tc_ret ?_; (repeat (first | refine tk_then_ret ?_))
  all_goals (refine tk_ret rfl rfl (.cons (.tmp rfl) .nil) ?_)
  all_goals (
   refine fun w' hw' => ⟨congrArg (fun b => Ending.returned (Value.bool b)) ?_, hw'.fr (by simp)⟩
   unfold sgB
   first
   | (rw [decide_eq_true (by omega), Bool.true_or])
   | (rw [decide_eq_false (by omega), Bool.false_or, decide_eq_true (by omega), Bool.true_or])
   | (rw [decide_eq_false (by omega), Bool.false_or, decide_eq_false (by omega), Bool.false_or]))
theorem seen_c (s : Smp) (hf : s.sg.length ≤ 9) (b h : Int) (x : Bool) (tv pv gv : Value) (hone : (tv.oneCell' = true ∧ pv.oneCell' = true) ∧ gv.oneCell' = true) (w : World) (hr : RdS 3 sgE w gv s.sg) : CnV Tryz.prog 111 #[smV s tv pv gv, vi b, vi h, .bool x] w (.bool (seenB s b h x)) := by
  refine cnv (vs := [_, _, _, _]) Tryz.func111 rfl rfl ?_
  all_goals refine tc_seq fun K1 hK1 => ?_; refine tc_region ?_; refine tl_e (e_box rfl rfl rfl) rfl (fun b4 _ => ?_); refine tl_e (e_box rfl rfl rfl) rfl (fun b5 _ => ?_); refine tl_e (e_box rfl rfl rfl) rfl (fun b6 _ => ?_); refine tl_e (e_box rfl rfl rfl) rfl (fun b7 _ => ?_); refine tl_q (y_assign rfl) rfl ?_; refine tl_nil ?_; ((refine hK1 ?_; try (clear hK1; clear K1)))
  all_goals refine tc_seq fun K2 hK2 => ?_; refine tc_region ?_; refine tl_q (y_field rfl) rfl ?_; refine tl_q (y_load1 rfl (by repeat constructor) (by rfl)) rfl ?_; refine tl_q (y_fn .nil (.cons rfl (.cons rfl (.cons rfl .nil)))) rfl ?_; refine tl_e (e_callV rfl (.cons rfl (.cons rfl .nil)) (fun w' hw' => allSg_c 124 #[] #[.pointer (some ⟨b5, 0, none⟩), .pointer (some ⟨b6, 0, none⟩), .pointer (some ⟨b7, 0, none⟩)] (sgB b h x) s.sg (by omega) _ w' (hr.fr (hw'.fr (by simp))) (fun g w2 f => by simpa using seen1_c b h x g b5 b6 b7 w2 (f.cell (by simp) (cellAt_cell? (hw'.heap _ (HM.mem (b := b5) (by repeat constructor))) rfl)) (f.cell (by simp) (cellAt_cell? (hw'.heap _ (HM.mem (b := b6) (by repeat constructor))) rfl)) (f.cell (by simp) (cellAt_cell? (hw'.heap _ (HM.mem (b := b7) (by repeat constructor))) rfl))))) rfl (fun _ _ => ?_); refine tl_q (y_assign rfl) rfl ?_; refine tl_nil ?_; ((refine hK2 ?_; try (clear hK2; clear K2)))
  all_goals refine tc_ret ?_; (repeat (first | refine tk_then_ret ?_))
  all_goals (refine tk_ret rfl rfl (.cons (.tmp rfl) .nil) ?_)
  all_goals (
   exact fun w' hw' => ⟨rfl, hw'.fr (by simp)⟩)
end Go.Sp
/-
  Package sample: the steps.
-/
namespace Go.Sp
open Go Go.Proofs
def actId : Nat → FuncId
  | 0 => 120
  | 1 => 121
  | 2 => 122
  | _ => 123
theorem actId_fn (n : Nat) : GoFn Tryz.prog (actId n) := by
  unfold actId
  split <;> infer_instance
def actY (x : Bool) : Nat → Bool
  | 0 => x
  | 1 => true
  | _ => false
def actIs (x st : Bool) : Nat → Bool
  | 0 => true
  | 1 => !x
  | 2 => x && st
  | _ => !x && st
def opF : Nat → Bool
  | 1 => true
  | 3 => true
  | _ => false
theorem act_c (n : Nat) (x st : Bool) (w : World) : CnV Tryz.prog (actId n) #[gpV x st] w (.tuple #[.bool (actY x n), .bool (actIs x st n)]) := by
  unfold actId
  split
  · exact keep_c x st w
  · exact breaks_c x st w
  · exact seals_c x st w
  · rename_i h0 h1 h2
    have e1 : actY x n = false := by unfold actY; split <;> first | rfl | contradiction
    have e2 : actIs x st n = (!x && st) := by unfold actIs; split <;> first | rfl | contradiction
    rw [e1, e2]; exact again_c x st w
theorem acts_at {n : Nat} (hn : n < 4) {i : Int} (hi : i = n) : actsV.toArray.extract (i.toNat * 2) (i.toNat * 2 + 2) = #[.func (.func (actId n)) #[] #[], .bool (opF n)] := by
  subst hi
  rcases (by omega : n = 0 ∨ n = 1 ∨ n = 2 ∨ n = 3) with rfl | rfl | rfl | rfl <;> rfl
def wkL (s : Smp) (tv pv gv : Value) (b : Int) (c : List Int) (r : Nat) : List Value := [vi s.B, vi s.P, vi s.L, vi s.F, tv, pv, gv, vi b] ++ (c.map vi ++ [.map (some r)])
abbrev wkO (s : Smp) (tv pv gv : Value) (b : Int) (c : List Int) (r : Nat) : Obj := .cells (wkL s tv pv gv b c r).toArray 150 (0, 0)
structure Wk (w : World) (s : Smp) (tv pv gv : Value) (b : Int) (c : List Int) (bw r : Nat) : Prop where
  hw : w.heap[bw]? = some (wkO s tv pv gv b c r)
  rd : RdSm w s tv pv gv
/-- Holders that can be. -/
structure ChOk (s : Smp) (c : List Int) : Prop where
  len : c.length = 10
  pp : ∀ n : Nat, (n : Int) ≤ s.L → 0 ≤ c.getD n 0 ∧ c.getD n 0 < s.P
theorem Wk.fr {w w' : World} {s : Smp} {tv pv gv : Value} {b : Int} {c : List Int} {bw r : Nat} (h : Wk w s tv pv gv b c bw r) (f : Fr [] w w') : Wk w' s tv pv gv b c bw r := ⟨f.keep h.hw, h.rd.fr f⟩
theorem Wk.frM {w w' : World} {s : Smp} {tv pv gv : Value} {b : Int} {c : List Int} {bw r : Nat} {S : List Nat} (h : Wk w s tv pv gv b c bw r) (f : Fr S w w') (hS : ∀ x ∈ S, ∃ es ck, w.heap[x]? = some (.map es ck)) : Wk w' s tv pv gv b c bw r :=
  ⟨f.keepS (fun hm => by obtain ⟨es, ck, e⟩ := hS _ hm; rw [h.hw] at e; cases e) h.hw, h.rd.frM f hS⟩
theorem wk_at {w : World} {s : Smp} {tv pv gv : Value} {b : Int} {c : List Int} {bw r : Nat} (h : w.heap[bw]? = some (wkO s tv pv gv b c r)) {n : Nat} {v : Value} (hv : (wkL s tv pv gv b c r)[n]? = some v) : w.cell? ⟨bw, n, none⟩ = some v :=
  cell0 h (by simpa using hv)
theorem wk_held {w : World} {s : Smp} {tv pv gv : Value} {b : Int} {c : List Int} {bw r : Nat} (h : w.heap[bw]? = some (wkO s tv pv gv b c r)) (hc : c.length = 10) {n : Nat} (hn : n < 10) : w.cell? ⟨bw, 8 + n * 1, none⟩ = some (vi (c.getD n 0)) := by
  refine wk_at h ?_
  unfold wkL
  rw [List.getElem?_append_right (by simp), List.getElem?_append_left (by simp; omega), List.getElem?_map, List.getD_eq_getElem?_getD]
  simp only [List.length_cons, List.length_nil]
  rw [show 8 + n * 1 - (0 + 1 + 1 + 1 + 1 + 1 + 1 + 1 + 1) = n from by omega, List.getElem?_eq_getElem (by omega)]; rfl
theorem wk_map {w : World} {s : Smp} {tv pv gv : Value} {b : Int} {c : List Int} {bw r : Nat} (h : w.heap[bw]? = some (wkO s tv pv gv b c r)) (hc : c.length = 10) : w.cell? ⟨bw, 18, none⟩ = some (.map (some r)) := by
  refine wk_at h ?_
  unfold wkL
  rw [List.getElem?_append_right (by simp), List.getElem?_append_right (by simp [hc])]
  simp [hc]
def stB (s : Smp) (c : List Int) (h : Int) : Bool := s.st.getD (c.getD h.toNat 0).toNat false
def stE (h : Int) (y : Bool × Int) : List Value := [vi (h + 1), .bool y.1, vi y.2]
theorem stE_len (h : Int) (y : Bool × Int) : (stE h y).length = 3 := rfl
theorem stE_one (h : Int) (y : Bool × Int) : one' (stE h y) := fun u hu => by simp only [stE, List.mem_cons, List.not_mem_nil, or_false] at hu; rcases hu with rfl | rfl | rfl <;> rfl
def stp1 (s : Smp) (b h : Int) (st x : Bool) (a : Nat) : List (Bool × Int) := if actIs x st a = true ∧ seenB s b h (actY x a) = true then [(actY x a, if x = true ∨ opF a = true then 1 else 0)] else []
def stepN (s : Smp) (b h : Int) (st x : Bool) (n : Nat) : List (Bool × Int) := (List.range n).flatMap (stp1 s b h st x)
theorem stepN_succ (s : Smp) (b h : Int) (st x : Bool) (n : Nat) : stepN s b h st x (n + 1) = stepN s b h st x n ++ stp1 s b h st x n := by simp [stepN, List.range_succ]
theorem stepN_len (s : Smp) (b h : Int) (st x : Bool) (n : Nat) : (stepN s b h st x n).length ≤ n := by
  induction n with
  | zero => simp [stepN]
  | succ n ih =>
    rw [stepN_succ, List.length_append]
    have : (stp1 s b h st x n).length ≤ 1 := by unfold stp1; split <;> simp
    omega
abbrev stepL (s : Smp) (b h : Int) (st x : Bool) : List (Bool × Int) := stepN s b h st x 4
set_option maxHeartbeats 1000000 in
theorem steps_c (s : Smp) (hf : Few s) (hv : VSm s) (b : Int) (c : List Int) (hco : ChOk s c) (h : Int) (hh : 0 ≤ h ∧ h ≤ s.L) (x : Bool) (tv pv gv : Value) (bw r : Nat) (w : World) (hT : Wk w s tv pv gv b c bw r) :
    CnX Tryz.prog 90 #[ptr bw, .agg #[vi h, .bool x]] w [] (slV (stepL s b h (stB s c h) x).length) (fun y w' => RdS 3 (stE h) w' (slV (stepL s b h (stB s c h) x).length y) (stepL s b h (stB s c h) x) ∧ NewS w (slV (stepL s b h (stB s c h) x).length y)) := by
  have hT0 := hT
  have hl9 := hv.l9
  have hstl := hv.st
  have hcl := hco.len
  have hch := hco.pp h.toNat (by omega)
  obtain ⟨st, hst⟩ : ∃ st, stB s c h = st := ⟨_, rfl⟩
  rw [hst]
  obtain ⟨ad1, cp1, b1, o1, rfl, had1, hcell1⟩ := hT.rd.st.open boE_len false
  have hone : (Value.oneCell' (.slice ad1 s.st.length cp1) = true ∧ pv.oneCell' = true) ∧ gv.oneCell' = true := ⟨⟨rfl, hT.rd.ps.one⟩, hT.rd.sg.one⟩
  have hcell : ∀ w', Fr [] w w' → w'.cell? ⟨b1, o1 + (c.getD h.toNat 0).toNat * 1, none⟩ = some (.bool st) := fun w' f => by
    have := hcell1 w' [] f (by simp) (c.getD h.toNat 0).toNat (by omega)
    cases this with
    | cons hv _ => rw [hv, ← hst]; rfl
  refine cnx0 (vs := [_, _]) Tryz.func90 rfl rfl ?_
  all_goals refine tc_seq fun K1 hK1 => ?_; refine tc_region ?_; refine tl_e (e_box rfl rfl rfl) rfl (fun b3 _ => ?_); refine tl_q (y_assign rfl) rfl ?_; refine tl_nil ?_; ((refine hK1 ?_; try (clear hK1; clear K1)))
  all_goals refine tc_seq fun K2 hK2 => ?_; refine tc_seq fun K3 hK3 => ?_; refine tc_region ?_; refine tl_e (e_callV rfl .nil (fun w' _ => acts_c w')) rfl (fun _ _ => ?_); refine tl_q (y_move rfl) rfl ?_; refine tl_nil ?_; ((refine hK3 ?_; try (clear hK3; clear K3)))
  all_goals refine tc_block ?_
  all_goals (
   refine tc_loop (fun p : Nat × OwnB => p.1 ≤ 4 ∧ okE 3 (stepN s b h st x p.1) p.2) (fun p => [(0, ptr bw), (3, ptr b3), (4, ouV (stepN s b h st x p.1).length p.2), (10, .agg actsV.toArray), (11, vi p.1)]) (fun _ => [(w, [])]) (fun p => (b3, .cells #[vi h, .bool x] 152 (0, 0)) :: slE 173 (stE h) (stepN s b h st x p.1) p.2) (fun p => 4 - p.1) ?_ ?_
   · exact tk_start (0, none) ⟨Nat.zero_le _, rfl⟩ (.cons rfl (.cons rfl (.cons rfl (.cons rfl (.cons rfl .nil))))) (fun _ h => by rw [slE_none]; exact h.subl SB.s SB.s)
   · rintro ⟨n, oo⟩ ⟨hn, hok⟩
     dsimp only at hn hok ⊢
     haveI := actId_fn n
     have hsl := stepN_len s b h st x n
     all_goals refine tc_seq fun K4 hK4 => ?_; refine tc_region ?_; refine tl_q (y_lss rfl rfl) rfl ?_; refine tl_nil ?_; ((refine hK4 ?_; try (clear hK4; clear K4)))
     all_goals refine tc_seq fun K5 hK5 => ?_
     all_goals (
      refine tc_cond rfl (fun hc => ?_) (fun hc => ?_)
      · try simp only [qn1, qn2, qn3, qn4, qn5, qn6, qn7, qn8] at hc
        all_goals refine tc_skip ?_; ((refine hK5 ?_; try (clear hK5; clear K5)))
        all_goals refine tc_seq fun K6 hK6 => ?_; refine tc_block ?_; refine tc_seq fun K7 hK7 => ?_; refine tc_region ?_; refine tl_q (y_indexG rfl rfl (by omega) (acts_at (n := n) (by omega) rfl)) rfl ?_; refine tl_e (e_allocN rfl) rfl (fun b6 _ => ?_); refine tl_e (e_storeW rfl rfl (by repeat constructor) (by rfl) (by rfl) (by simp [Value.oneCell'])) rfl (fun _ _ => ?_); refine tl_nil ?_; ((refine hK7 ?_; try (clear hK7; clear K7)))
        all_goals refine tc_seq fun K8 hK8 => ?_; refine tc_draw (by kernel_rfl) ?_; refine tx_p 0 rfl (by kernel_rfl) (y_field rfl) rfl (fun _ _ _ h => h) (fun _ h => h) ?_; refine tx_q 1 rfl (by kernel_rfl) (y_load1 rfl (by repeat constructor) (by rfl)) rfl (fun _ _ _ h => h) (fun _ h => h) ?_; refine tx_p 2 rfl (by kernel_rfl) (y_field rfl) rfl (fun _ _ _ h => h) (fun _ h => h) ?_; refine tx_q 3 rfl (by kernel_rfl) (y_load1 rfl (by repeat constructor) (by rfl)) rfl (fun _ _ _ h => h) (fun _ h => h) ?_; refine tx_p 4 rfl (by kernel_rfl) (y_move rfl) rfl (fun _ _ _ h => h) (fun _ h => h) ?_; refine tx_p 5 rfl (by kernel_rfl) (y_nil rfl) rfl (fun _ _ _ h => h) (fun _ h => h) ?_; refine tx_p 6 rfl (by kernel_rfl) (y_field rfl) rfl (fun _ _ _ h => h) (fun _ h => h) ?_; refine tx_p 7 rfl (by kernel_rfl) (y_field rfl) rfl (fun _ _ _ h => h) (fun _ h => h) ?_; refine tx_q 8 rfl (by kernel_rfl) (y_load1o (v := .slice ad1 s.st.length cp1) rfl (fun w' hw' => wk_at (n := 4) ((hw'.fr (w0 := w) (S := []) MI.m).keep hT.hw) rfl)) rfl (fun _ _ _ h => h) (fun _ h => h) ?_; refine tx_p 9 rfl (by kernel_rfl) (y_move rfl) rfl (fun _ _ _ h => h) (fun _ h => h) ?_; refine tx_p 10 rfl (by kernel_rfl) (y_field rfl) rfl (fun _ _ _ h => h) (fun _ h => h) ?_; refine tx_q 11 rfl (by kernel_rfl) (y_load1 rfl (by repeat constructor) (by rfl)) rfl (fun _ _ _ h => h) (fun _ h => h) ?_; refine tx_p 12 rfl (by kernel_rfl) (y_nil rfl) rfl (fun _ _ _ h => h) (fun _ h => h) ?_; refine tx_p 13 rfl (by kernel_rfl) (y_field rfl) rfl (fun _ _ _ h => h) (fun _ h => h) ?_; refine tx_p 14 rfl (by kernel_rfl) (y_indexA rfl rfl (by omega)) rfl (fun _ _ _ h => h) (fun _ h => h) ?_; refine tx_q 15 rfl (by kernel_rfl) (y_load1o (v := vi (c.getD h.toNat 0)) rfl (fun w' hw' => wk_held ((hw'.fr (w0 := w) (S := []) MI.m).keep hT.hw) hcl (by omega))) rfl (fun _ _ _ h => h) (fun _ h => h) ?_; refine tx_p 16 rfl (by kernel_rfl) (y_index rfl rfl (by omega) (had1 (by omega))) rfl (fun _ _ _ h => h) (fun _ h => h) ?_; refine tx_q 17 rfl (by kernel_rfl) (y_load1o (v := .bool st) rfl (fun w' hw' => hcell w' (hw'.fr (w0 := w) (S := []) MI.m))) rfl (fun _ _ _ h => h) (fun _ h => h) ?_; refine tx_p 18 rfl (by kernel_rfl) (y_build_g (by repeat constructor)) rfl (fun _ _ _ h => h) (fun _ h => h) ?_; refine tx_e 19 rfl (by kernel_rfl) rfl (e_callVf rfl rfl (.cons rfl .nil) (fun w' _ => act_c n x st w')) (.inr fun _ _ h => h) (fun _ _ => ?_); refine tx_p 20 rfl (by kernel_rfl) (y_move rfl) rfl (fun _ _ _ h => h) (fun _ h => h) ?_; refine tx_p 21 rfl (by kernel_rfl) (y_extract rfl rfl) rfl (fun _ _ _ h => h) (fun _ h => h) ?_; refine tx_p 22 rfl (by kernel_rfl) (y_extract rfl rfl) rfl (fun _ _ _ h => h) (fun _ h => h) ?_; refine tx_p 23 rfl (by kernel_rfl) (y_assign rfl) rfl (fun _ _ _ h => h) (fun _ h => h) ?_; refine tx_p 24 rfl (by kernel_rfl) (y_assign rfl) rfl (fun _ _ _ h => h) (fun _ h => h) ?_; refine tx_done (by kernel_rfl) ?_; ((refine hK8 ?_; try (clear hK8; clear K8)))
        all_goals refine tc_seq fun K9 hK9 => ?_; refine tc_seq fun K10 hK10 => ?_; refine tc_draw (by kernel_rfl) ?_; refine tx_p 0 rfl (by kernel_rfl) (y_move rfl) rfl (fun _ _ _ h => h) (fun _ h => h) ?_; refine tx_p 1 rfl (by kernel_rfl) (y_not rfl) rfl (fun _ _ _ h => h) (fun _ h => h) ?_; refine tx_p 2 rfl (by kernel_rfl) (y_move rfl) rfl (fun _ _ _ h => h) (fun _ h => h) ?_; ((refine tx_gs 39 rfl (fun hc => ?_) (fun hc => ?_) <;> (try simp only [qn1, qn2, qn3, qn4, qn5, qn6, qn7, qn8] at hc) <;> (first | refine tx_sk 3 rfl (by kernel_rfl) rfl rfl rfl rfl (fun _ _ _ h => h) (fun _ h => h) ?_ | refine tx_pg 3 rfl (by kernel_rfl) rfl rfl (y_move rfl) rfl (fun _ _ _ h => h) (fun _ h => h) ?_)))
        all_goals (first | refine tx_sk 4 rfl (by kernel_rfl) rfl rfl rfl rfl (fun _ _ _ h => h) (fun _ h => h) ?_ | refine tx_pg 4 rfl (by kernel_rfl) rfl rfl (y_nil rfl) rfl (fun _ _ _ h => h) (fun _ h => h) ?_); (first | refine tx_sk 5 rfl (by kernel_rfl) rfl rfl rfl rfl (fun _ _ _ h => h) (fun _ h => h) ?_ | refine tx_pg 5 rfl (by kernel_rfl) rfl rfl (y_field rfl) rfl (fun _ _ _ h => h) (fun _ h => h) ?_); ((first | refine tx_sk 6 rfl (by kernel_rfl) rfl rfl rfl rfl (fun _ _ _ h => h) (fun _ h => h) ?_ | refine tx_qg 6 rfl (by kernel_rfl) rfl rfl (y_loadNo (n := 7) (vs := [vi s.B, vi s.P, vi s.L, vi s.F, .slice ad1 s.st.length cp1, pv, gv]) rfl (fun w' hw' => have hk := (hw'.fr (w0 := w) (S := []) MI.m).keep hT.hw; .cons (wk_at hk rfl) (.cons (wk_at hk rfl) (.cons (wk_at hk rfl) (.cons (wk_at hk rfl) (.cons (wk_at hk rfl) (.cons (wk_at hk rfl) (.cons (wk_at hk rfl) .nil)))))))) rfl (fun _ _ _ h => h) (fun _ h => h) ?_))
        all_goals (first | refine tx_sk 7 rfl (by kernel_rfl) rfl rfl rfl rfl (fun _ _ _ h => h) (fun _ h => h) ?_ | refine tx_pg 7 rfl (by kernel_rfl) rfl rfl (y_move rfl) rfl (fun _ _ _ h => h) (fun _ h => h) ?_); (first | refine tx_sk 8 rfl (by kernel_rfl) rfl rfl rfl rfl (fun _ _ _ h => h) (fun _ h => h) ?_ | refine tx_pg 8 rfl (by kernel_rfl) rfl rfl (y_nil rfl) rfl (fun _ _ _ h => h) (fun _ h => h) ?_); (first | refine tx_sk 9 rfl (by kernel_rfl) rfl rfl rfl rfl (fun _ _ _ h => h) (fun _ h => h) ?_ | refine tx_pg 9 rfl (by kernel_rfl) rfl rfl (y_field rfl) rfl (fun _ _ _ h => h) (fun _ h => h) ?_); (first | refine tx_sk 10 rfl (by kernel_rfl) rfl rfl rfl rfl (fun _ _ _ h => h) (fun _ h => h) ?_ | refine tx_qg 10 rfl (by kernel_rfl) rfl rfl (y_load1o (v := vi b) rfl (fun w' hw' => wk_at (n := 7) ((hw'.fr (w0 := w) (S := []) MI.m).keep hT.hw) rfl)) rfl (fun _ _ _ h => h) (fun _ h => h) ?_); (first | refine tx_sk 11 rfl (by kernel_rfl) rfl rfl rfl rfl (fun _ _ _ h => h) (fun _ h => h) ?_ | refine tx_pg 11 rfl (by kernel_rfl) rfl rfl (y_field rfl) rfl (fun _ _ _ h => h) (fun _ h => h) ?_); (first | refine tx_sk 12 rfl (by kernel_rfl) rfl rfl rfl rfl (fun _ _ _ h => h) (fun _ h => h) ?_ | refine tx_qg 12 rfl (by kernel_rfl) rfl rfl (y_load1 rfl (by repeat constructor) (by rfl)) rfl (fun _ _ _ h => h) (fun _ h => h) ?_); (first | refine tx_sk 13 rfl (by kernel_rfl) rfl rfl rfl rfl (fun _ _ _ h => h) (fun _ h => h) ?_ | refine tx_pg 13 rfl (by kernel_rfl) rfl rfl (y_move rfl) rfl (fun _ _ _ h => h) (fun _ h => h) ?_); (first | refine tx_sk 14 rfl (by kernel_rfl) rfl rfl rfl rfl (fun _ _ _ h => h) (fun _ h => h) ?_ | refine tx_eg 14 rfl (by kernel_rfl) rfl rfl rfl (e_callV rfl (.cons rfl (.cons rfl (.cons rfl (.cons rfl .nil)))) (fun w' hw' => seen_c s hf.sg b h (actY x n) _ pv gv hone w' (hT0.rd.sg.fr (hw'.fr (w0 := w) (S := []) MI.m)))) (.inr fun _ _ h => h) (fun _ _ => ?_)); (first | refine tx_sk 15 rfl (by kernel_rfl) rfl rfl rfl rfl (fun _ _ _ h => h) (fun _ h => h) ?_ | refine tx_pg 15 rfl (by kernel_rfl) rfl rfl (y_not rfl) rfl (fun _ _ _ h => h) (fun _ h => h) ?_); (first | refine tx_p 16 rfl (by kernel_rfl) (y_pick_t rfl rfl) rfl (fun _ _ _ h => h) (fun _ h => h) ?_ | refine tx_p 16 rfl (by kernel_rfl) (y_pick_f rfl rfl) rfl (fun _ _ _ h => h) (fun _ h => h) ?_); refine tx_done (by kernel_rfl) ?_; ((refine hK10 ?_; try (clear hK10; clear K10)))
        all_goals (
         refine tc_cond rfl (fun hc => ?_) (fun hc => ?_)
         · try simp only [qn1, qn2, qn3, qn4, qn5, qn6, qn7, qn8] at hc
           all_goals refine tc_exit ?_; ((refine hK6 ?_; try (clear hK6; clear K6)))
           all_goals refine tc_region ?_; refine tl_q (y_add rfl rfl (by omega)) rfl ?_; refine tl_q (y_move rfl) rfl ?_; refine tl_nil ?_
           all_goals (
            first
            | (have hs : stepN s b h st x (n + 1) = stepN s b h st x n := by rw [stepN_succ, stp1, if_neg (by simp_all), List.append_nil]
               exact tk_round (n + 1, oo) ⟨by dsimp only; omega, by dsimp only; rw [hs]; exact hok⟩ (by dsimp only; omega) (.cons rfl (.cons rfl (.cons (by dsimp only; rw [hs]; rfl) (.cons rfl (.cons rfl .nil))))) (fun _ h => by dsimp only; rw [hs]; exact h.subl SB.s SB.s))
            | (have hs : stepN s b h st x (n + 1) = stepN s b h st x n ++ [(actY x n, 1)] := by rw [stepN_succ, stp1, if_pos (by simp_all), if_pos (by simp_all)]
               exact tk_round (n + 1, oo') ⟨by dsimp only; omega, by dsimp only; rw [hs]; exact hok'⟩ (by dsimp only; omega) (.cons rfl (.cons rfl (.cons (by dsimp only; rw [hs]; rfl) (.cons rfl (.cons rfl .nil))))) (fun _ h => by dsimp only; rw [hs]; exact h.subl SB.s SB.s))
            | (have hs : stepN s b h st x (n + 1) = stepN s b h st x n ++ [(actY x n, 0)] := by rw [stepN_succ, stp1, if_pos (by simp_all), if_neg (by simp_all)]
               exact tk_round (n + 1, oo') ⟨by dsimp only; omega, by dsimp only; rw [hs]; exact hok'⟩ (by dsimp only; omega) (.cons rfl (.cons rfl (.cons (by dsimp only; rw [hs]; rfl) (.cons rfl (.cons rfl .nil))))) (fun _ h => by dsimp only; rw [hs]; exact h.subl SB.s SB.s)))
         · try simp only [qn1, qn2, qn3, qn4, qn5, qn6, qn7, qn8] at hc
           all_goals ((first | (exfalso; with_reducible exact btf hc) | skip))
           all_goals refine tc_skip ?_; ((refine hK9 ?_; try (clear hK9; clear K9)))
           all_goals refine tc_seq fun K11 hK11 => ?_; refine tc_region ?_; refine tl_q (y_assign rfl) rfl ?_; refine tl_nil ?_; ((refine hK11 ?_; try (clear hK11; clear K11)))
           all_goals refine tc_seq fun K12 hK12 => ?_; refine tc_seq fun K13 hK13 => ?_; refine tc_region ?_; refine tl_q (y_field rfl) rfl ?_; refine tl_q (y_load1 rfl (by repeat constructor) (by rfl)) rfl ?_; refine tl_q (y_move rfl) rfl ?_; ((refine tl_gs rfl rfl (fun hc => ?_) (fun hc => ?_) <;> (try simp only [qn1, qn2, qn3, qn4, qn5, qn6, qn7, qn8] at hc) <;> (first | refine tl_sk rfl rfl rfl rfl ?_ | refine tl_qg rfl rfl (y_field rfl) rfl ?_)))
           all_goals (first | refine tl_sk rfl rfl rfl rfl ?_ | refine tl_qg rfl rfl (y_load1 rfl (by repeat constructor) (by rfl)) rfl ?_); (first | refine tl_q (y_pick_t rfl rfl) rfl ?_ | refine tl_q (y_pick_f rfl rfl) rfl ?_); refine tl_nil ?_; ((refine hK13 ?_; try (clear hK13; clear K13)))
           all_goals (
            refine tc_cond rfl (fun hc => ?_) (fun hc => ?_)
            · try simp only [qn1, qn2, qn3, qn4, qn5, qn6, qn7, qn8] at hc
              all_goals refine tc_region ?_; refine tl_q (y_assign rfl) rfl ?_; refine tl_nil ?_; ((refine hK12 ?_; try (clear hK12; clear K12)))
              all_goals refine tc_region ?_; refine tl_q (y_move rfl) rfl ?_; refine tl_q (y_field rfl) rfl ?_; refine tl_q (y_load1 rfl (by repeat constructor) (by rfl)) rfl ?_; refine tl_q (y_add rfl rfl (by omega)) rfl ?_; refine tl_q (y_move rfl) rfl ?_; refine tl_q (y_build_g (by repeat constructor)) rfl ?_; refine tl_q (y_move rfl) rfl ?_; refine tl_q (y_build_g (by repeat constructor)) rfl ?_; refine tl_e (e_bsliceG rfl (.agg rfl rfl .nil) rfl rfl) rfl (fun _ _ => ?_); (refine tl_e (e_appendE (enc := stE h) (xs := stepN s b h st x n) (ys := [(actY x n, _)]) (stE_len h) (stE_one h) rfl rfl rfl hok (fun _ => by repeat constructor) (fun w' hw' => RdS.own0 (stE_len h) hw' (by repeat constructor)) (by simp only [List.length_cons, List.length_nil]; omega) rfl) rfl (fun oo' hok' => ?_))
              all_goals refine tl_q (y_assign rfl) rfl ?_; refine tl_nil ?_; ((refine hK6 ?_; try (clear hK6; clear K6)))
              all_goals refine tc_region ?_; refine tl_q (y_add rfl rfl (by omega)) rfl ?_; refine tl_q (y_move rfl) rfl ?_; refine tl_nil ?_
              all_goals (
               first
               | (have hs : stepN s b h st x (n + 1) = stepN s b h st x n := by rw [stepN_succ, stp1, if_neg (by simp_all), List.append_nil]
                  exact tk_round (n + 1, oo) ⟨by dsimp only; omega, by dsimp only; rw [hs]; exact hok⟩ (by dsimp only; omega) (.cons rfl (.cons rfl (.cons (by dsimp only; rw [hs]; rfl) (.cons rfl (.cons rfl .nil))))) (fun _ h => by dsimp only; rw [hs]; exact h.subl SB.s SB.s))
               | (have hs : stepN s b h st x (n + 1) = stepN s b h st x n ++ [(actY x n, 1)] := by rw [stepN_succ, stp1, if_pos (by simp_all), if_pos (by simp_all)]
                  exact tk_round (n + 1, oo') ⟨by dsimp only; omega, by dsimp only; rw [hs]; exact hok'⟩ (by dsimp only; omega) (.cons rfl (.cons rfl (.cons (by dsimp only; rw [hs]; rfl) (.cons rfl (.cons rfl .nil))))) (fun _ h => by dsimp only; rw [hs]; exact h.subl SB.s SB.s))
               | (have hs : stepN s b h st x (n + 1) = stepN s b h st x n ++ [(actY x n, 0)] := by rw [stepN_succ, stp1, if_pos (by simp_all), if_neg (by simp_all)]
                  exact tk_round (n + 1, oo') ⟨by dsimp only; omega, by dsimp only; rw [hs]; exact hok'⟩ (by dsimp only; omega) (.cons rfl (.cons rfl (.cons (by dsimp only; rw [hs]; rfl) (.cons rfl (.cons rfl .nil))))) (fun _ h => by dsimp only; rw [hs]; exact h.subl SB.s SB.s)))
            · all_goals ((first | (exfalso; with_reducible exact btf hc) | skip))
              all_goals refine tc_skip ?_; ((refine hK12 ?_; try (clear hK12; clear K12)))
              all_goals refine tc_region ?_; refine tl_q (y_move rfl) rfl ?_; refine tl_q (y_field rfl) rfl ?_; refine tl_q (y_load1 rfl (by repeat constructor) (by rfl)) rfl ?_; refine tl_q (y_add rfl rfl (by omega)) rfl ?_; refine tl_q (y_move rfl) rfl ?_; refine tl_q (y_build_g (by repeat constructor)) rfl ?_; refine tl_q (y_move rfl) rfl ?_; refine tl_q (y_build_g (by repeat constructor)) rfl ?_; refine tl_e (e_bsliceG rfl (.agg rfl rfl .nil) rfl rfl) rfl (fun _ _ => ?_); (refine tl_e (e_appendE (enc := stE h) (xs := stepN s b h st x n) (ys := [(actY x n, _)]) (stE_len h) (stE_one h) rfl rfl rfl hok (fun _ => by repeat constructor) (fun w' hw' => RdS.own0 (stE_len h) hw' (by repeat constructor)) (by simp only [List.length_cons, List.length_nil]; omega) rfl) rfl (fun oo' hok' => ?_))
              all_goals refine tl_q (y_assign rfl) rfl ?_; refine tl_nil ?_; ((refine hK6 ?_; try (clear hK6; clear K6)))
              all_goals refine tc_region ?_; refine tl_q (y_add rfl rfl (by omega)) rfl ?_; refine tl_q (y_move rfl) rfl ?_; refine tl_nil ?_
              all_goals (
               first
               | (have hs : stepN s b h st x (n + 1) = stepN s b h st x n := by rw [stepN_succ, stp1, if_neg (by simp_all), List.append_nil]
                  exact tk_round (n + 1, oo) ⟨by dsimp only; omega, by dsimp only; rw [hs]; exact hok⟩ (by dsimp only; omega) (.cons rfl (.cons rfl (.cons (by dsimp only; rw [hs]; rfl) (.cons rfl (.cons rfl .nil))))) (fun _ h => by dsimp only; rw [hs]; exact h.subl SB.s SB.s))
               | (have hs : stepN s b h st x (n + 1) = stepN s b h st x n ++ [(actY x n, 1)] := by rw [stepN_succ, stp1, if_pos (by simp_all), if_pos (by simp_all)]
                  exact tk_round (n + 1, oo') ⟨by dsimp only; omega, by dsimp only; rw [hs]; exact hok'⟩ (by dsimp only; omega) (.cons rfl (.cons rfl (.cons (by dsimp only; rw [hs]; rfl) (.cons rfl (.cons rfl .nil))))) (fun _ h => by dsimp only; rw [hs]; exact h.subl SB.s SB.s))
               | (have hs : stepN s b h st x (n + 1) = stepN s b h st x n ++ [(actY x n, 0)] := by rw [stepN_succ, stp1, if_pos (by simp_all), if_neg (by simp_all)]
                  exact tk_round (n + 1, oo') ⟨by dsimp only; omega, by dsimp only; rw [hs]; exact hok'⟩ (by dsimp only; omega) (.cons rfl (.cons rfl (.cons (by dsimp only; rw [hs]; rfl) (.cons rfl (.cons rfl .nil))))) (fun _ h => by dsimp only; rw [hs]; exact h.subl SB.s SB.s)))))
      · try simp only [qn1, qn2, qn3, qn4, qn5, qn6, qn7, qn8] at hc
        all_goals refine tc_exit ?_; ((refine hK2 ?_; try (clear hK2; clear K2)))
        all_goals refine tc_seq fun K14 hK14 => ?_; refine tc_region ?_; refine tl_q (y_move rfl) rfl ?_; refine tl_q (y_assign rfl) rfl ?_; refine tl_nil ?_; ((refine hK14 ?_; try (clear hK14; clear K14)))
        all_goals refine tc_ret ?_; (repeat (first | refine tk_then_ret ?_))
        all_goals (refine tk_ret rfl rfl (.cons (.tmp rfl) .nil) ?_)
        all_goals (
         obtain rfl : n = 4 := by omega
         exact fun w' hw' => ⟨ouA oo, rfl, hw'.fr (w0 := w) (S := []) MI.m, RdS.ofO (stE_len h) hok hw' (by repeat constructor), NewS.ofO hw' (by repeat constructor) MI.m⟩)))
end Go.Sp
