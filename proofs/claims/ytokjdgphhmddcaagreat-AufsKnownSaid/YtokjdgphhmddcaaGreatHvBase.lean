/- What is proved here: the tables of this program for the upper level, and what slices.Clone gives. -/
import Derived.Test.YtokjdgphhmddcaaGreatHvG
import Derived.Test.YtokjdgphhmddcaaGreatChecked
import Derived.KernelRfl
set_option linter.all false
namespace Go.Hv
open Go Go.Proofs
namespace Kn
/-- What the program's variables hold that are read. -/
def G0 : Glob := []
noncomputable abbrev K0 : Cx := cxOf Tryz.prog G0
theorem G0_ok : GlobOK G0 := by
  have h : (G0.all fun p => noRefs anyL p.2) = true := by decide
  intro g cs hm
  exact List.all_eq_true.1 h (g, cs) hm
theorem mixed0 : Tryz.prog.follows .mixedOrders = true := by kernel_rfl
theorem ok0 : CxOK K0 := cxOf_ok mixed0
theorem E22 : ElemT K0 22 48 2 32 [.str [], .str []] := by
  refine ⟨by kernel_rfl, nO_of (by kernel_rfl), by kernel_rfl, by kernel_rfl, fun k => ?_, rfl⟩
  rw [show (K0.T 48).zero = .agg [.str [], .str []] by kernel_rfl]; exact Iff.rfl
theorem E35 : ElemT K0 35 50 8 96 [.int .i64 0, .str [], .int .i64 0, .ps 0 0 true [], .str [], .int .i64 0, .int .i64 0, .int .i64 0] := by
  refine ⟨by kernel_rfl, nO_of (by kernel_rfl), by kernel_rfl, by kernel_rfl, fun k => ?_, rfl⟩
  rw [show (K0.T 50).zero = .agg [.int .i64 0, .str [], .int .i64 0, .ps 0 0 true [], .str [], .int .i64 0, .int .i64 0, .int .i64 0] by kernel_rfl]; exact Iff.rfl
theorem E23 : ElemT K0 23 9 1 16 [.str []] := by
  refine ⟨by kernel_rfl, nO_of (by kernel_rfl), by kernel_rfl, by kernel_rfl, fun k => ?_, rfl⟩
  rw [show (K0.T 9).zero = .str [] by kernel_rfl]; exact Iff.rfl
/-- The hooks of the program: slices.Clone. -/
def hk0 : Hooks := fun g => bif Nat.beq g 32 then some (cloneHook 2) else bif Nat.beq g 109 then some (cloneHook 8) else bif Nat.beq g 148 then some (cloneHook 1) else none
theorem hk0_ok : HooksOK Tryz.prog G0 hk0 := by
  intro g sp args v h hv
  unfold hk0 at h
  cases h32 : Nat.beq g 32
  case true =>
    rw [h32] at h
    obtain rfl := Option.some.inj h
    obtain rfl := Nat.eq_of_beq_eq_true h32
    exact cloneHook_ok ok0 E22 (fn := Tryz.f32) Tryz.func32 rfl rfl rfl hv
  rw [h32] at h
  cases h109 : Nat.beq g 109
  case true =>
    rw [h109] at h
    obtain rfl := Option.some.inj h
    obtain rfl := Nat.eq_of_beq_eq_true h109
    exact cloneHook_ok ok0 E35 (fn := Tryz.f109) Tryz.func109 rfl rfl rfl hv
  rw [h109] at h
  cases h148 : Nat.beq g 148
  case true =>
    rw [h148] at h
    obtain rfl := Option.some.inj h
    obtain rfl := Nat.eq_of_beq_eq_true h148
    exact cloneHook_ok ok0 E23 (fn := Tryz.f148) Tryz.func148 rfl rfl rfl hv
  rw [h148] at h
  cases h
end Kn
end Go.Hv
