-- Written by this session's own program (myprint.py).
import Derived.Test.YtghfcdgdbdeomaaPRx0
import Derived.Test.YtghfcdgdbdeomaaPRx10
import Derived.Test.YtghfcdgdbdeomaaPRx11
namespace Go.Proofs.Ytghfcdgdbdeomaa.PR
open Go.RowKit Go.Proofs.YtghfcdgdbdeomaaW.PrintWords Go.Proofs.YtghfcdgdbdeomaaW.PrintLast Go.Proofs.YtghfcdgdbdeomaaW.PrintMore Go.Proofs.Ytghfcdgdbdeomaa.XWords Go.Proofs.Ytghfcdgdbdeomaa.XShort
attribute [local go_sem] max2_int min2_int max_two min_two max_three min_three max_four min_four   -- for this text's walks alone
set_option linter.unusedVariables false
set_option linter.unusedSimpArgs false

/-! ### barscanref47_others: function 39 -/
def barscanref47_others.f (a0 : Int) : Option (ByteArray) := if a0 = 78 then (some (⟨#[49, 48, 48, 48, 49, 32, 49, 48, 48, 48, 49, 32, 49, 49, 48, 48, 49, 32, 49, 48, 49, 48, 49, 32, 49, 48, 48, 49, 49, 32, 49, 48, 48, 48, 49, 32, 49, 48, 48, 48, 49]⟩ : ByteArray)) else (if a0 = 79 then (some (⟨#[48, 49, 49, 49, 48, 32, 49, 48, 48, 48, 49, 32, 49, 48, 48, 48, 49, 32, 49, 48, 48, 48, 49, 32, 49, 48, 48, 48, 49, 32, 49, 48, 48, 48, 49, 32, 48, 49, 49, 49, 48]⟩ : ByteArray)) else (if a0 = 80 then (some (⟨#[49, 49, 49, 49, 48, 32, 49, 48, 48, 48, 49, 32, 49, 48, 48, 48, 49, 32, 49, 49, 49, 49, 48, 32, 49, 48, 48, 48, 48, 32, 49, 48, 48, 48, 48, 32, 49, 48, 48, 48, 48]⟩ : ByteArray)) else (if a0 = 81 then (some (⟨#[48, 49, 49, 49, 48, 32, 49, 48, 48, 48, 49, 32, 49, 48, 48, 48, 49, 32, 49, 48, 48, 48, 49, 32, 49, 48, 49, 48, 49, 32, 49, 48, 48, 49, 48, 32, 48, 49, 49, 48, 49]⟩ : ByteArray)) else (if a0 = 82 then (some (⟨#[49, 49, 49, 49, 48, 32, 49, 48, 48, 48, 49, 32, 49, 48, 48, 48, 49, 32, 49, 49, 49, 49, 48, 32, 49, 48, 49, 49, 48, 32, 49, 48, 48, 49, 49, 32, 49, 48, 48, 48, 49]⟩ : ByteArray)) else (if a0 = 83 then (some (⟨#[48, 49, 49, 49, 49, 32, 49, 48, 48, 48, 48, 32, 49, 48, 48, 48, 48, 32, 48, 49, 49, 49, 48, 32, 48, 48, 48, 48, 49, 32, 48, 48, 48, 48, 49, 32, 49, 49, 49, 49, 48]⟩ : ByteArray)) else (if a0 = 84 then (some (⟨#[49, 49, 49, 49, 49, 32, 48, 48, 49, 48, 48, 32, 48, 48, 49, 48, 48, 32, 48, 48, 49, 48, 48, 32, 48, 48, 49, 48, 48, 32, 48, 48, 49, 48, 48, 32, 48, 48, 49, 48, 48]⟩ : ByteArray)) else (if a0 = 85 then (some (⟨#[49, 48, 48, 48, 49, 32, 49, 48, 48, 48, 49, 32, 49, 48, 48, 48, 49, 32, 49, 48, 48, 48, 49, 32, 49, 48, 48, 48, 49, 32, 49, 48, 48, 48, 49, 32, 48, 49, 49, 49, 48]⟩ : ByteArray)) else (if a0 = 86 then (some (⟨#[49, 48, 48, 48, 49, 32, 49, 48, 48, 48, 49, 32, 49, 48, 48, 48, 49, 32, 49, 48, 48, 48, 49, 32, 49, 48, 48, 48, 49, 32, 48, 49, 48, 49, 48, 32, 48, 48, 49, 48, 48]⟩ : ByteArray)) else (if a0 = 87 then (some (⟨#[49, 48, 48, 48, 49, 32, 49, 48, 48, 48, 49, 32, 49, 48, 48, 48, 49, 32, 49, 48, 49, 48, 49, 32, 49, 48, 49, 48, 49, 32, 49, 49, 48, 49, 49, 32, 49, 48, 48, 48, 49]⟩ : ByteArray)) else (if a0 = 88 then (some (⟨#[49, 48, 48, 48, 49, 32, 49, 48, 48, 48, 49, 32, 48, 49, 48, 49, 48, 32, 48, 48, 49, 48, 48, 32, 48, 49, 48, 49, 48, 32, 49, 48, 48, 48, 49, 32, 49, 48, 48, 48, 49]⟩ : ByteArray)) else (if a0 = 89 then (some (⟨#[49, 48, 48, 48, 49, 32, 49, 48, 48, 48, 49, 32, 48, 49, 48, 49, 48, 32, 48, 48, 49, 48, 48, 32, 48, 48, 49, 48, 48, 32, 48, 48, 49, 48, 48, 32, 48, 48, 49, 48, 48]⟩ : ByteArray)) else (if a0 = 90 then (some (⟨#[49, 49, 49, 49, 49, 32, 48, 48, 48, 48, 49, 32, 48, 48, 48, 49, 48, 32, 48, 48, 49, 48, 48, 32, 48, 49, 48, 48, 48, 32, 49, 48, 48, 48, 48, 32, 49, 49, 49, 49, 49]⟩ : ByteArray)) else (if a0 = 91 then (some (⟨#[49, 49, 49, 48, 48, 32, 49, 48, 48, 48, 48, 32, 49, 48, 48, 48, 48, 32, 49, 48, 48, 48, 48, 32, 49, 48, 48, 48, 48, 32, 49, 48, 48, 48, 48, 32, 49, 49, 49, 48, 48]⟩ : ByteArray)) else (if a0 = 93 then (some (⟨#[49, 49, 49, 48, 48, 32, 48, 48, 49, 48, 48, 32, 48, 48, 49, 48, 48, 32, 48, 48, 49, 48, 48, 32, 48, 48, 49, 48, 48, 32, 48, 48, 49, 48, 48, 32, 49, 49, 49, 48, 48]⟩ : ByteArray)) else (if a0 = 95 then (some (⟨#[48, 48, 48, 48, 48, 32, 48, 48, 48, 48, 48, 32, 48, 48, 48, 48, 48, 32, 48, 48, 48, 48, 48, 32, 48, 48, 48, 48, 48, 32, 48, 48, 48, 48, 48, 32, 49, 49, 49, 49, 49]⟩ : ByteArray)) else (some (⟨#[]⟩ : ByteArray)))))))))))))))))
set_option maxHeartbeats 8000000 in
set_option maxRecDepth 100000 in
theorem barscanref47_others.calls (a0 : Int) (r : ByteArray) (w : World) (h : barscanref47_others.f a0 = some r) :
    Calls Try.prog 39 #[.int .u8 a0] w fun e w' => e = .returned (.string r) ∧ Drawn0 w w' := by
  have H : (if a0 = 78 then (some (⟨#[49, 48, 48, 48, 49, 32, 49, 48, 48, 48, 49, 32, 49, 49, 48, 48, 49, 32, 49, 48, 49, 48, 49, 32, 49, 48, 48, 49, 49, 32, 49, 48, 48, 48, 49, 32, 49, 48, 48, 48, 49]⟩ : ByteArray)) else (if a0 = 79 then (some (⟨#[48, 49, 49, 49, 48, 32, 49, 48, 48, 48, 49, 32, 49, 48, 48, 48, 49, 32, 49, 48, 48, 48, 49, 32, 49, 48, 48, 48, 49, 32, 49, 48, 48, 48, 49, 32, 48, 49, 49, 49, 48]⟩ : ByteArray)) else (if a0 = 80 then (some (⟨#[49, 49, 49, 49, 48, 32, 49, 48, 48, 48, 49, 32, 49, 48, 48, 48, 49, 32, 49, 49, 49, 49, 48, 32, 49, 48, 48, 48, 48, 32, 49, 48, 48, 48, 48, 32, 49, 48, 48, 48, 48]⟩ : ByteArray)) else (if a0 = 81 then (some (⟨#[48, 49, 49, 49, 48, 32, 49, 48, 48, 48, 49, 32, 49, 48, 48, 48, 49, 32, 49, 48, 48, 48, 49, 32, 49, 48, 49, 48, 49, 32, 49, 48, 48, 49, 48, 32, 48, 49, 49, 48, 49]⟩ : ByteArray)) else (if a0 = 82 then (some (⟨#[49, 49, 49, 49, 48, 32, 49, 48, 48, 48, 49, 32, 49, 48, 48, 48, 49, 32, 49, 49, 49, 49, 48, 32, 49, 48, 49, 49, 48, 32, 49, 48, 48, 49, 49, 32, 49, 48, 48, 48, 49]⟩ : ByteArray)) else (if a0 = 83 then (some (⟨#[48, 49, 49, 49, 49, 32, 49, 48, 48, 48, 48, 32, 49, 48, 48, 48, 48, 32, 48, 49, 49, 49, 48, 32, 48, 48, 48, 48, 49, 32, 48, 48, 48, 48, 49, 32, 49, 49, 49, 49, 48]⟩ : ByteArray)) else (if a0 = 84 then (some (⟨#[49, 49, 49, 49, 49, 32, 48, 48, 49, 48, 48, 32, 48, 48, 49, 48, 48, 32, 48, 48, 49, 48, 48, 32, 48, 48, 49, 48, 48, 32, 48, 48, 49, 48, 48, 32, 48, 48, 49, 48, 48]⟩ : ByteArray)) else (if a0 = 85 then (some (⟨#[49, 48, 48, 48, 49, 32, 49, 48, 48, 48, 49, 32, 49, 48, 48, 48, 49, 32, 49, 48, 48, 48, 49, 32, 49, 48, 48, 48, 49, 32, 49, 48, 48, 48, 49, 32, 48, 49, 49, 49, 48]⟩ : ByteArray)) else (if a0 = 86 then (some (⟨#[49, 48, 48, 48, 49, 32, 49, 48, 48, 48, 49, 32, 49, 48, 48, 48, 49, 32, 49, 48, 48, 48, 49, 32, 49, 48, 48, 48, 49, 32, 48, 49, 48, 49, 48, 32, 48, 48, 49, 48, 48]⟩ : ByteArray)) else (if a0 = 87 then (some (⟨#[49, 48, 48, 48, 49, 32, 49, 48, 48, 48, 49, 32, 49, 48, 48, 48, 49, 32, 49, 48, 49, 48, 49, 32, 49, 48, 49, 48, 49, 32, 49, 49, 48, 49, 49, 32, 49, 48, 48, 48, 49]⟩ : ByteArray)) else (if a0 = 88 then (some (⟨#[49, 48, 48, 48, 49, 32, 49, 48, 48, 48, 49, 32, 48, 49, 48, 49, 48, 32, 48, 48, 49, 48, 48, 32, 48, 49, 48, 49, 48, 32, 49, 48, 48, 48, 49, 32, 49, 48, 48, 48, 49]⟩ : ByteArray)) else (if a0 = 89 then (some (⟨#[49, 48, 48, 48, 49, 32, 49, 48, 48, 48, 49, 32, 48, 49, 48, 49, 48, 32, 48, 48, 49, 48, 48, 32, 48, 48, 49, 48, 48, 32, 48, 48, 49, 48, 48, 32, 48, 48, 49, 48, 48]⟩ : ByteArray)) else (if a0 = 90 then (some (⟨#[49, 49, 49, 49, 49, 32, 48, 48, 48, 48, 49, 32, 48, 48, 48, 49, 48, 32, 48, 48, 49, 48, 48, 32, 48, 49, 48, 48, 48, 32, 49, 48, 48, 48, 48, 32, 49, 49, 49, 49, 49]⟩ : ByteArray)) else (if a0 = 91 then (some (⟨#[49, 49, 49, 48, 48, 32, 49, 48, 48, 48, 48, 32, 49, 48, 48, 48, 48, 32, 49, 48, 48, 48, 48, 32, 49, 48, 48, 48, 48, 32, 49, 48, 48, 48, 48, 32, 49, 49, 49, 48, 48]⟩ : ByteArray)) else (if a0 = 93 then (some (⟨#[49, 49, 49, 48, 48, 32, 48, 48, 49, 48, 48, 32, 48, 48, 49, 48, 48, 32, 48, 48, 49, 48, 48, 32, 48, 48, 49, 48, 48, 32, 48, 48, 49, 48, 48, 32, 49, 49, 49, 48, 48]⟩ : ByteArray)) else (if a0 = 95 then (some (⟨#[48, 48, 48, 48, 48, 32, 48, 48, 48, 48, 48, 32, 48, 48, 48, 48, 48, 32, 48, 48, 48, 48, 48, 32, 48, 48, 48, 48, 48, 32, 48, 48, 48, 48, 48, 32, 49, 49, 49, 49, 49]⟩ : ByteArray)) else (some (⟨#[]⟩ : ByteArray)))))))))))))))))) = some r := h
  clear h
  by_cases c2 : a0 = 78
  · rw [if_pos c2] at H
    have c2b0 : (a0 == 78) = true := beq_iff_eq.mpr c2
    have c2b1 : (a0 != 78) = false := bne_eq_false_iff_eq.mpr c2
    clear c2
    obtain rfl := Option.some.inj H
    go_enter Try.func39, Try.ntmps39
    go_wp2
    go_ret
    exact ⟨by first | rfl | (simp; done) | (simp [*]; done), by repeat (first | exact Drawn0.refl _ | apply Drawn0.step)⟩
  · rw [if_neg c2] at H
    have c2b0 : (a0 == 78) = false := beq_eq_false_iff_ne.mpr c2
    have c2b1 : (a0 != 78) = true := bne_iff_ne.mpr c2
    by_cases c3 : a0 = 79
    · rw [if_pos c3] at H
      have c3b0 : (a0 == 79) = true := beq_iff_eq.mpr c3
      have c3b1 : (a0 != 79) = false := bne_eq_false_iff_eq.mpr c3
      clear c3
      obtain rfl := Option.some.inj H
      go_enter Try.func39, Try.ntmps39
      go_wp2
      go_ret
      exact ⟨by first | rfl | (simp; done) | (simp [*]; done), by repeat (first | exact Drawn0.refl _ | apply Drawn0.step)⟩
    · rw [if_neg c3] at H
      have c3b0 : (a0 == 79) = false := beq_eq_false_iff_ne.mpr c3
      have c3b1 : (a0 != 79) = true := bne_iff_ne.mpr c3
      by_cases c4 : a0 = 80
      · rw [if_pos c4] at H
        have c4b0 : (a0 == 80) = true := beq_iff_eq.mpr c4
        have c4b1 : (a0 != 80) = false := bne_eq_false_iff_eq.mpr c4
        clear c4
        obtain rfl := Option.some.inj H
        go_enter Try.func39, Try.ntmps39
        go_wp2
        go_ret
        exact ⟨by first | rfl | (simp; done) | (simp [*]; done), by repeat (first | exact Drawn0.refl _ | apply Drawn0.step)⟩
      · rw [if_neg c4] at H
        have c4b0 : (a0 == 80) = false := beq_eq_false_iff_ne.mpr c4
        have c4b1 : (a0 != 80) = true := bne_iff_ne.mpr c4
        by_cases c5 : a0 = 81
        · rw [if_pos c5] at H
          have c5b0 : (a0 == 81) = true := beq_iff_eq.mpr c5
          have c5b1 : (a0 != 81) = false := bne_eq_false_iff_eq.mpr c5
          clear c5
          obtain rfl := Option.some.inj H
          go_enter Try.func39, Try.ntmps39
          go_wp2
          go_ret
          exact ⟨by first | rfl | (simp; done) | (simp [*]; done), by repeat (first | exact Drawn0.refl _ | apply Drawn0.step)⟩
        · rw [if_neg c5] at H
          have c5b0 : (a0 == 81) = false := beq_eq_false_iff_ne.mpr c5
          have c5b1 : (a0 != 81) = true := bne_iff_ne.mpr c5
          by_cases c6 : a0 = 82
          · rw [if_pos c6] at H
            have c6b0 : (a0 == 82) = true := beq_iff_eq.mpr c6
            have c6b1 : (a0 != 82) = false := bne_eq_false_iff_eq.mpr c6
            clear c6
            obtain rfl := Option.some.inj H
            go_enter Try.func39, Try.ntmps39
            go_wp2
            go_ret
            exact ⟨by first | rfl | (simp; done) | (simp [*]; done), by repeat (first | exact Drawn0.refl _ | apply Drawn0.step)⟩
          · rw [if_neg c6] at H
            have c6b0 : (a0 == 82) = false := beq_eq_false_iff_ne.mpr c6
            have c6b1 : (a0 != 82) = true := bne_iff_ne.mpr c6
            by_cases c7 : a0 = 83
            · rw [if_pos c7] at H
              have c7b0 : (a0 == 83) = true := beq_iff_eq.mpr c7
              have c7b1 : (a0 != 83) = false := bne_eq_false_iff_eq.mpr c7
              clear c7
              obtain rfl := Option.some.inj H
              go_enter Try.func39, Try.ntmps39
              go_wp2
              go_ret
              exact ⟨by first | rfl | (simp; done) | (simp [*]; done), by repeat (first | exact Drawn0.refl _ | apply Drawn0.step)⟩
            · rw [if_neg c7] at H
              have c7b0 : (a0 == 83) = false := beq_eq_false_iff_ne.mpr c7
              have c7b1 : (a0 != 83) = true := bne_iff_ne.mpr c7
              by_cases c8 : a0 = 84
              · rw [if_pos c8] at H
                have c8b0 : (a0 == 84) = true := beq_iff_eq.mpr c8
                have c8b1 : (a0 != 84) = false := bne_eq_false_iff_eq.mpr c8
                clear c8
                obtain rfl := Option.some.inj H
                go_enter Try.func39, Try.ntmps39
                go_wp2
                go_ret
                exact ⟨by first | rfl | (simp; done) | (simp [*]; done), by repeat (first | exact Drawn0.refl _ | apply Drawn0.step)⟩
              · rw [if_neg c8] at H
                have c8b0 : (a0 == 84) = false := beq_eq_false_iff_ne.mpr c8
                have c8b1 : (a0 != 84) = true := bne_iff_ne.mpr c8
                by_cases c9 : a0 = 85
                · rw [if_pos c9] at H
                  have c9b0 : (a0 == 85) = true := beq_iff_eq.mpr c9
                  have c9b1 : (a0 != 85) = false := bne_eq_false_iff_eq.mpr c9
                  clear c9
                  obtain rfl := Option.some.inj H
                  go_enter Try.func39, Try.ntmps39
                  go_wp2
                  go_ret
                  exact ⟨by first | rfl | (simp; done) | (simp [*]; done), by repeat (first | exact Drawn0.refl _ | apply Drawn0.step)⟩
                · rw [if_neg c9] at H
                  have c9b0 : (a0 == 85) = false := beq_eq_false_iff_ne.mpr c9
                  have c9b1 : (a0 != 85) = true := bne_iff_ne.mpr c9
                  by_cases c10 : a0 = 86
                  · rw [if_pos c10] at H
                    have c10b0 : (a0 == 86) = true := beq_iff_eq.mpr c10
                    have c10b1 : (a0 != 86) = false := bne_eq_false_iff_eq.mpr c10
                    clear c10
                    obtain rfl := Option.some.inj H
                    go_enter Try.func39, Try.ntmps39
                    go_wp2
                    go_ret
                    exact ⟨by first | rfl | (simp; done) | (simp [*]; done), by repeat (first | exact Drawn0.refl _ | apply Drawn0.step)⟩
                  · rw [if_neg c10] at H
                    have c10b0 : (a0 == 86) = false := beq_eq_false_iff_ne.mpr c10
                    have c10b1 : (a0 != 86) = true := bne_iff_ne.mpr c10
                    by_cases c11 : a0 = 87
                    · rw [if_pos c11] at H
                      have c11b0 : (a0 == 87) = true := beq_iff_eq.mpr c11
                      have c11b1 : (a0 != 87) = false := bne_eq_false_iff_eq.mpr c11
                      clear c11
                      obtain rfl := Option.some.inj H
                      go_enter Try.func39, Try.ntmps39
                      go_wp2
                      go_ret
                      exact ⟨by first | rfl | (simp; done) | (simp [*]; done), by repeat (first | exact Drawn0.refl _ | apply Drawn0.step)⟩
                    · rw [if_neg c11] at H
                      have c11b0 : (a0 == 87) = false := beq_eq_false_iff_ne.mpr c11
                      have c11b1 : (a0 != 87) = true := bne_iff_ne.mpr c11
                      by_cases c12 : a0 = 88
                      · rw [if_pos c12] at H
                        have c12b0 : (a0 == 88) = true := beq_iff_eq.mpr c12
                        have c12b1 : (a0 != 88) = false := bne_eq_false_iff_eq.mpr c12
                        clear c12
                        obtain rfl := Option.some.inj H
                        go_enter Try.func39, Try.ntmps39
                        go_wp2
                        go_ret
                        exact ⟨by first | rfl | (simp; done) | (simp [*]; done), by repeat (first | exact Drawn0.refl _ | apply Drawn0.step)⟩
                      · rw [if_neg c12] at H
                        have c12b0 : (a0 == 88) = false := beq_eq_false_iff_ne.mpr c12
                        have c12b1 : (a0 != 88) = true := bne_iff_ne.mpr c12
                        by_cases c13 : a0 = 89
                        · rw [if_pos c13] at H
                          have c13b0 : (a0 == 89) = true := beq_iff_eq.mpr c13
                          have c13b1 : (a0 != 89) = false := bne_eq_false_iff_eq.mpr c13
                          clear c13
                          obtain rfl := Option.some.inj H
                          go_enter Try.func39, Try.ntmps39
                          go_wp2
                          go_ret
                          exact ⟨by first | rfl | (simp; done) | (simp [*]; done), by repeat (first | exact Drawn0.refl _ | apply Drawn0.step)⟩
                        · rw [if_neg c13] at H
                          have c13b0 : (a0 == 89) = false := beq_eq_false_iff_ne.mpr c13
                          have c13b1 : (a0 != 89) = true := bne_iff_ne.mpr c13
                          by_cases c14 : a0 = 90
                          · rw [if_pos c14] at H
                            have c14b0 : (a0 == 90) = true := beq_iff_eq.mpr c14
                            have c14b1 : (a0 != 90) = false := bne_eq_false_iff_eq.mpr c14
                            clear c14
                            obtain rfl := Option.some.inj H
                            go_enter Try.func39, Try.ntmps39
                            go_wp2
                            go_ret
                            exact ⟨by first | rfl | (simp; done) | (simp [*]; done), by repeat (first | exact Drawn0.refl _ | apply Drawn0.step)⟩
                          · rw [if_neg c14] at H
                            have c14b0 : (a0 == 90) = false := beq_eq_false_iff_ne.mpr c14
                            have c14b1 : (a0 != 90) = true := bne_iff_ne.mpr c14
                            by_cases c15 : a0 = 91
                            · rw [if_pos c15] at H
                              have c15b0 : (a0 == 91) = true := beq_iff_eq.mpr c15
                              have c15b1 : (a0 != 91) = false := bne_eq_false_iff_eq.mpr c15
                              clear c15
                              obtain rfl := Option.some.inj H
                              go_enter Try.func39, Try.ntmps39
                              go_wp2
                              go_ret
                              exact ⟨by first | rfl | (simp; done) | (simp [*]; done), by repeat (first | exact Drawn0.refl _ | apply Drawn0.step)⟩
                            · rw [if_neg c15] at H
                              have c15b0 : (a0 == 91) = false := beq_eq_false_iff_ne.mpr c15
                              have c15b1 : (a0 != 91) = true := bne_iff_ne.mpr c15
                              by_cases c16 : a0 = 93
                              · rw [if_pos c16] at H
                                have c16b0 : (a0 == 93) = true := beq_iff_eq.mpr c16
                                have c16b1 : (a0 != 93) = false := bne_eq_false_iff_eq.mpr c16
                                clear c16
                                obtain rfl := Option.some.inj H
                                go_enter Try.func39, Try.ntmps39
                                go_wp2
                                go_ret
                                exact ⟨by first | rfl | (simp; done) | (simp [*]; done), by repeat (first | exact Drawn0.refl _ | apply Drawn0.step)⟩
                              · rw [if_neg c16] at H
                                have c16b0 : (a0 == 93) = false := beq_eq_false_iff_ne.mpr c16
                                have c16b1 : (a0 != 93) = true := bne_iff_ne.mpr c16
                                by_cases c17 : a0 = 95
                                · rw [if_pos c17] at H
                                  have c17b0 : (a0 == 95) = true := beq_iff_eq.mpr c17
                                  have c17b1 : (a0 != 95) = false := bne_eq_false_iff_eq.mpr c17
                                  clear c17
                                  obtain rfl := Option.some.inj H
                                  go_enter Try.func39, Try.ntmps39
                                  go_wp2
                                  go_ret
                                  exact ⟨by first | rfl | (simp; done) | (simp [*]; done), by repeat (first | exact Drawn0.refl _ | apply Drawn0.step)⟩
                                · rw [if_neg c17] at H
                                  have c17b0 : (a0 == 95) = false := beq_eq_false_iff_ne.mpr c17
                                  have c17b1 : (a0 != 95) = true := bne_iff_ne.mpr c17
                                  obtain rfl := Option.some.inj H
                                  go_enter Try.func39, Try.ntmps39
                                  go_wp2
                                  go_ret
                                  exact ⟨by first | rfl | (simp; done) | (simp [*]; done), by repeat (first | exact Drawn0.refl _ | apply Drawn0.step)⟩

/-! ### barscanref47_rows: function 30 -/
def barscanref47_rows.f (a0 : Int) : Option (ByteArray) := if a0 < 48 then ((barscanref47_signs.f a0).bind fun t262 => (some t262)) else (if a0 < 65 then ((barscanref47_digits.f a0).bind fun t263 => (some t263)) else (if a0 < 78 then ((barscanref47_letters.f a0).bind fun t264 => (some t264)) else ((barscanref47_others.f a0).bind fun t265 => (some t265))))
set_option maxHeartbeats 8000000 in
set_option maxRecDepth 100000 in
theorem barscanref47_rows.calls (a0 : Int) (r : ByteArray) (w : World) (h : barscanref47_rows.f a0 = some r) :
    Calls Try.prog 30 #[.int .u8 a0] w fun e w' => e = .returned (.string r) ∧ Drawn0 w w' := by
  have H : (if a0 < 48 then ((barscanref47_signs.f a0).bind fun t262 => (some t262)) else (if a0 < 65 then ((barscanref47_digits.f a0).bind fun t263 => (some t263)) else (if a0 < 78 then ((barscanref47_letters.f a0).bind fun t264 => (some t264)) else ((barscanref47_others.f a0).bind fun t265 => (some t265))))) = some r := h
  clear h
  by_cases c2 : a0 < 48
  · rw [if_pos c2] at H
    have c2b0 : decide (a0 < 48) = true := decide_eq_true c2
    clear c2
    replace H := Option.bind_eq_some_iff.mp H
    obtain ⟨t262, A30, H⟩ := H
    replace H : (some t262) = some r := H
    have A3 := Aside0.mk A30
    clear A30
    obtain rfl := Option.some.inj H
    go_enter Try.func30, Try.ntmps30
    go_wp2_with (first | ((with_reducible refine gate_callee (f := 36) rfl ?_); refine goesL_ (some 6) rfl rfl Try.func36 (by kernel_rfl) rfl #[.int .u8 a0] rfl mapx ?_; (with_reducible refine (barscanref47_signs.calls a0 t262 _ A3.out).mono ?_); rintro e w' ⟨rfl, ⟨nd, rfl⟩⟩; refine ⟨_, rfl, ?_⟩))
    go_ret
    exact ⟨by first | rfl | (simp; done) | (simp [*]; done), by repeat (first | exact Drawn0.refl _ | apply Drawn0.step)⟩
  · rw [if_neg c2] at H
    have c2b0 : decide (a0 < 48) = false := decide_eq_false c2
    clear c2
    by_cases c4 : a0 < 65
    · rw [if_pos c4] at H
      have c4b0 : decide (a0 < 65) = true := decide_eq_true c4
      clear c4
      replace H := Option.bind_eq_some_iff.mp H
      obtain ⟨t263, A50, H⟩ := H
      replace H : (some t263) = some r := H
      have A5 := Aside0.mk A50
      clear A50
      obtain rfl := Option.some.inj H
      go_enter Try.func30, Try.ntmps30
      go_wp2_with (first | ((with_reducible refine gate_callee (f := 37) rfl ?_); refine goesL_ (some 10) rfl rfl Try.func37 (by kernel_rfl) rfl #[.int .u8 a0] rfl mapx ?_; (with_reducible refine (barscanref47_digits.calls a0 t263 _ A5.out).mono ?_); rintro e w' ⟨rfl, ⟨nd, rfl⟩⟩; refine ⟨_, rfl, ?_⟩))
      go_ret
      exact ⟨by first | rfl | (simp; done) | (simp [*]; done), by repeat (first | exact Drawn0.refl _ | apply Drawn0.step)⟩
    · rw [if_neg c4] at H
      have c4b0 : decide (a0 < 65) = false := decide_eq_false c4
      clear c4
      by_cases c6 : a0 < 78
      · rw [if_pos c6] at H
        have c6b0 : decide (a0 < 78) = true := decide_eq_true c6
        clear c6
        replace H := Option.bind_eq_some_iff.mp H
        obtain ⟨t264, A70, H⟩ := H
        replace H : (some t264) = some r := H
        have A7 := Aside0.mk A70
        clear A70
        obtain rfl := Option.some.inj H
        go_enter Try.func30, Try.ntmps30
        go_wp2_with (first | ((with_reducible refine gate_callee (f := 38) rfl ?_); refine goesL_ (some 14) rfl rfl Try.func38 (by kernel_rfl) rfl #[.int .u8 a0] rfl mapx ?_; (with_reducible refine (barscanref47_letters.calls a0 t264 _ A7.out).mono ?_); rintro e w' ⟨rfl, ⟨nd, rfl⟩⟩; refine ⟨_, rfl, ?_⟩))
        go_ret
        exact ⟨by first | rfl | (simp; done) | (simp [*]; done), by repeat (first | exact Drawn0.refl _ | apply Drawn0.step)⟩
      · rw [if_neg c6] at H
        have c6b0 : decide (a0 < 78) = false := decide_eq_false c6
        clear c6
        replace H := Option.bind_eq_some_iff.mp H
        obtain ⟨t265, A80, H⟩ := H
        replace H : (some t265) = some r := H
        have A8 := Aside0.mk A80
        clear A80
        obtain rfl := Option.some.inj H
        go_enter Try.func30, Try.ntmps30
        go_wp2_with (first | ((with_reducible refine gate_callee (f := 39) rfl ?_); refine goesL_ (some 16) rfl rfl Try.func39 (by kernel_rfl) rfl #[.int .u8 a0] rfl mapx ?_; (with_reducible refine (barscanref47_others.calls a0 t265 _ A8.out).mono ?_); rintro e w' ⟨rfl, ⟨nd, rfl⟩⟩; refine ⟨_, rfl, ?_⟩))
        go_ret
        exact ⟨by first | rfl | (simp; done) | (simp [*]; done), by repeat (first | exact Drawn0.refl _ | apply Drawn0.step)⟩

end Go.Proofs.Ytghfcdgdbdeomaa.PR
