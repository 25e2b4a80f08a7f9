-- Written by this session's own program (myprint.py).
import Derived.Test.YtbipbbckfmilfaaPRx0
namespace Go.Proofs.Ytbipbbckfmilfaa.PR
open Go.RowKit Go.Proofs.YtbipbbckfmilfaaW.PrintWords Go.Proofs.YtbipbbckfmilfaaW.PrintLast Go.Proofs.YtbipbbckfmilfaaW.PrintMore Go.Proofs.Ytbipbbckfmilfaa.XWords
attribute [local go_sem] max2_int min2_int max_two min_two max_three min_three max_four min_four   -- for this text's walks alone
set_option linter.unusedVariables false
set_option linter.unusedSimpArgs false

/-! ### barscanref43_next: function 47 -/
def barscanref43_next.f (a0 : Int) : Option (Int) := some (Go.bits .xor .u32 (Go.bits .xor .u32 (Go.bits .xor .u32 a0 ((a0 * 8192) % 4294967296)) ((Go.bits .xor .u32 a0 ((a0 * 8192) % 4294967296)) / 131072)) (((Go.bits .xor .u32 (Go.bits .xor .u32 a0 ((a0 * 8192) % 4294967296)) ((Go.bits .xor .u32 a0 ((a0 * 8192) % 4294967296)) / 131072)) * 32) % 4294967296))
set_option maxHeartbeats 8000000 in
set_option maxRecDepth 100000 in
theorem barscanref43_next.calls (a0 : Int) (r : Int) (w : World) (h : barscanref43_next.f a0 = some r) :
    Calls Try.prog 47 #[.int .u32 a0] w fun e w' => e = .returned (.int .u32 r) ∧ Drawn0 w w' := by
  have H : (some (Go.bits .xor .u32 (Go.bits .xor .u32 (Go.bits .xor .u32 a0 ((a0 * 8192) % 4294967296)) ((Go.bits .xor .u32 a0 ((a0 * 8192) % 4294967296)) / 131072)) (((Go.bits .xor .u32 (Go.bits .xor .u32 a0 ((a0 * 8192) % 4294967296)) ((Go.bits .xor .u32 a0 ((a0 * 8192) % 4294967296)) / 131072)) * 32) % 4294967296))) = some r := h
  clear h
  obtain rfl := Option.some.inj H
  go_enter Try.func47, Try.ntmps47
  go_wp2
  go_ret
  exact ⟨by first | rfl | (simp; done) | (simp [*]; done), by repeat (first | exact Drawn0.refl _ | apply Drawn0.step)⟩

end Go.Proofs.Ytbipbbckfmilfaa.PR
