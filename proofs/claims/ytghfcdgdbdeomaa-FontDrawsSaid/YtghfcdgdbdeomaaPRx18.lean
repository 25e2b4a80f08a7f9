-- Written by this session's own program (myprint.py).
import Derived.Test.YtghfcdgdbdeomaaPRx0
import Derived.Test.YtghfcdgdbdeomaaPRx6
import Derived.Test.YtghfcdgdbdeomaaPRx7
import Derived.Test.YtghfcdgdbdeomaaPRx13
import Derived.Test.YtghfcdgdbdeomaaPRx15
import Derived.Test.YtghfcdgdbdeomaaPRx17
namespace Go.Proofs.Ytghfcdgdbdeomaa.PR
open Go.RowKit Go.Proofs.YtghfcdgdbdeomaaW.PrintWords Go.Proofs.YtghfcdgdbdeomaaW.PrintLast Go.Proofs.YtghfcdgdbdeomaaW.PrintMore Go.Proofs.Ytghfcdgdbdeomaa.XWords Go.Proofs.Ytghfcdgdbdeomaa.XShort
attribute [local go_sem] max2_int min2_int max_two min_two max_three min_three max_four min_four   -- for this text's walks alone
set_option linter.unusedVariables false
set_option linter.unusedSimpArgs false

/-! ### barscanlaw47_FontDraws: function 4 -/
def barscanlaw47_FontDraws.f (k : Nat) (a0 : ByteArray) (a1 : Int) : Option (Bool) := if (a0.size : Int) > 40 then (if (a0.size : Int) ≤ 4096 then ((barscanlaw47_examples.f k).bind fun t296 => (some t296)) else (if (a0.size : Int) > 10000 then ((barscanlaw47_examples.f k).bind fun t297 => (some t297)) else (if a1 > 8 then (if a1 ≤ 64 then ((barscanlaw47_examples.f k).bind fun t298 => (some t298)) else ((font_Draw.f k a0 a1).bind fun bt299 => ((barscanref47_Draw.f k a0 a1).bind fun bt306 => ((font_Width.f k a0 a1).bind fun bt313 => ((barscanref47_Width.f k a0 a1).bind fun bt315 => ((barscanlaw47_same.f k bt299.1 bt299.2.1 bt299.2.2.1 bt306.1 bt306.2.1 bt306.2.2.1).bind fun t317 => (if t317 = true then (if bt299.2.2.2 = bt306.2.2.2 then (if bt313.1 = bt315.1 then (if bt313.2 = bt315.2 then ((barscanlaw47_examples.f k).bind fun t318 => (some t318)) else (none)) else (none)) else (none)) else (none)))))))) else ((font_Draw.f k a0 a1).bind fun bt319 => ((barscanref47_Draw.f k a0 a1).bind fun bt326 => ((font_Width.f k a0 a1).bind fun bt333 => ((barscanref47_Width.f k a0 a1).bind fun bt335 => ((barscanlaw47_same.f k bt319.1 bt319.2.1 bt319.2.2.1 bt326.1 bt326.2.1 bt326.2.2.1).bind fun t337 => (if t337 = true then (if bt319.2.2.2 = bt326.2.2.2 then (if bt333.1 = bt335.1 then (if bt333.2 = bt335.2 then ((barscanlaw47_examples.f k).bind fun t338 => (some t338)) else (none)) else (none)) else (none)) else (none)))))))))) else (if (a0.size : Int) > 10000 then ((barscanlaw47_examples.f k).bind fun t339 => (some t339)) else (if a1 > 8 then (if a1 ≤ 64 then ((barscanlaw47_examples.f k).bind fun t340 => (some t340)) else ((font_Draw.f k a0 a1).bind fun bt341 => ((barscanref47_Draw.f k a0 a1).bind fun bt348 => ((font_Width.f k a0 a1).bind fun bt355 => ((barscanref47_Width.f k a0 a1).bind fun bt357 => ((barscanlaw47_same.f k bt341.1 bt341.2.1 bt341.2.2.1 bt348.1 bt348.2.1 bt348.2.2.1).bind fun t359 => (if t359 = true then (if bt341.2.2.2 = bt348.2.2.2 then (if bt355.1 = bt357.1 then (if bt355.2 = bt357.2 then ((barscanlaw47_examples.f k).bind fun t360 => (some t360)) else (none)) else (none)) else (none)) else (none)))))))) else ((font_Draw.f k a0 a1).bind fun bt361 => ((barscanref47_Draw.f k a0 a1).bind fun bt368 => ((font_Width.f k a0 a1).bind fun bt375 => ((barscanref47_Width.f k a0 a1).bind fun bt377 => ((barscanlaw47_same.f k bt361.1 bt361.2.1 bt361.2.2.1 bt368.1 bt368.2.1 bt368.2.2.1).bind fun t379 => (if t379 = true then (if bt361.2.2.2 = bt368.2.2.2 then (if bt375.1 = bt377.1 then (if bt375.2 = bt377.2 then ((barscanlaw47_examples.f k).bind fun t380 => (some t380)) else (none)) else (none)) else (none)) else (none)))))))))
theorem barscanlaw47_FontDraws.mono : ∀ a0 a1 k, LeO (barscanlaw47_FontDraws.f k a0 a1) (barscanlaw47_FontDraws.f (k + 1) a0 a1) := by
  intro a0 a1 k
  unfold barscanlaw47_FontDraws.f
  repeat' first
      | (with_reducible exact barscanlaw47_examples.mono _)
      | (with_reducible exact barscanlaw47_same.mono _ _ _ _ _ _ _)
      | (with_reducible exact barscanref47_Draw.mono _ _ _)
      | (with_reducible exact barscanref47_Width.mono _ _ _)
      | (with_reducible exact font_Draw.mono _ _ _)
      | (with_reducible exact font_Width.mono _ _ _)
      | (with_reducible exact LeO.refl _)
      | (with_reducible exact LeO.none _)
      | (with_reducible refine LeO.ite ?_ ?_)
      | (with_reducible refine LeO.bind ?_ (fun _ => ?_))
      | exact barscanlaw47_examples.mono _
      | exact barscanlaw47_same.mono _ _ _ _ _ _ _
      | exact barscanref47_Draw.mono _ _ _
      | exact barscanref47_Width.mono _ _ _
      | exact font_Draw.mono _ _ _
      | exact font_Width.mono _ _ _
      | exact LeO.none _
      | refine LeO.ite ?_ ?_
      | refine LeO.bind ?_ (fun _ => ?_)
set_option maxHeartbeats 8000000 in
set_option maxRecDepth 100000 in
theorem barscanlaw47_FontDraws.calls (k : Nat) (a0 : ByteArray) (a1 : Int) (r : Bool) (w : World) (h : barscanlaw47_FontDraws.f k a0 a1 = some r) :
    Calls Try.prog 4 #[.string a0, .int .i64 a1] w fun e w' => e = .returned (.bool r) ∧ Below w.heap.size w w' := by
  have hu24 := Try.underlying24
  have HB := Aside0.mk (Below.refl w.heap.size w)
  have H : (if (a0.size : Int) > 40 then (if (a0.size : Int) ≤ 4096 then ((barscanlaw47_examples.f k).bind fun t296 => (some t296)) else (if (a0.size : Int) > 10000 then ((barscanlaw47_examples.f k).bind fun t297 => (some t297)) else (if a1 > 8 then (if a1 ≤ 64 then ((barscanlaw47_examples.f k).bind fun t298 => (some t298)) else ((font_Draw.f k a0 a1).bind fun bt299 => ((barscanref47_Draw.f k a0 a1).bind fun bt306 => ((font_Width.f k a0 a1).bind fun bt313 => ((barscanref47_Width.f k a0 a1).bind fun bt315 => ((barscanlaw47_same.f k bt299.1 bt299.2.1 bt299.2.2.1 bt306.1 bt306.2.1 bt306.2.2.1).bind fun t317 => (if t317 = true then (if bt299.2.2.2 = bt306.2.2.2 then (if bt313.1 = bt315.1 then (if bt313.2 = bt315.2 then ((barscanlaw47_examples.f k).bind fun t318 => (some t318)) else (none)) else (none)) else (none)) else (none)))))))) else ((font_Draw.f k a0 a1).bind fun bt319 => ((barscanref47_Draw.f k a0 a1).bind fun bt326 => ((font_Width.f k a0 a1).bind fun bt333 => ((barscanref47_Width.f k a0 a1).bind fun bt335 => ((barscanlaw47_same.f k bt319.1 bt319.2.1 bt319.2.2.1 bt326.1 bt326.2.1 bt326.2.2.1).bind fun t337 => (if t337 = true then (if bt319.2.2.2 = bt326.2.2.2 then (if bt333.1 = bt335.1 then (if bt333.2 = bt335.2 then ((barscanlaw47_examples.f k).bind fun t338 => (some t338)) else (none)) else (none)) else (none)) else (none)))))))))) else (if (a0.size : Int) > 10000 then ((barscanlaw47_examples.f k).bind fun t339 => (some t339)) else (if a1 > 8 then (if a1 ≤ 64 then ((barscanlaw47_examples.f k).bind fun t340 => (some t340)) else ((font_Draw.f k a0 a1).bind fun bt341 => ((barscanref47_Draw.f k a0 a1).bind fun bt348 => ((font_Width.f k a0 a1).bind fun bt355 => ((barscanref47_Width.f k a0 a1).bind fun bt357 => ((barscanlaw47_same.f k bt341.1 bt341.2.1 bt341.2.2.1 bt348.1 bt348.2.1 bt348.2.2.1).bind fun t359 => (if t359 = true then (if bt341.2.2.2 = bt348.2.2.2 then (if bt355.1 = bt357.1 then (if bt355.2 = bt357.2 then ((barscanlaw47_examples.f k).bind fun t360 => (some t360)) else (none)) else (none)) else (none)) else (none)))))))) else ((font_Draw.f k a0 a1).bind fun bt361 => ((barscanref47_Draw.f k a0 a1).bind fun bt368 => ((font_Width.f k a0 a1).bind fun bt375 => ((barscanref47_Width.f k a0 a1).bind fun bt377 => ((barscanlaw47_same.f k bt361.1 bt361.2.1 bt361.2.2.1 bt368.1 bt368.2.1 bt368.2.2.1).bind fun t379 => (if t379 = true then (if bt361.2.2.2 = bt368.2.2.2 then (if bt375.1 = bt377.1 then (if bt375.2 = bt377.2 then ((barscanlaw47_examples.f k).bind fun t380 => (some t380)) else (none)) else (none)) else (none)) else (none)))))))))) = some r := h
  clear h
  by_cases c3 : (a0.size : Int) > 40
  · rw [if_pos c3] at H
    have c3b0 : decide (40 < (a0.size : Int)) = true := decide_eq_true c3
    have c3b1 : decide (40 < a0.size) = true := decide_eq_true (by omega)
    clear c3
    by_cases c4 : (a0.size : Int) ≤ 4096
    · rw [if_pos c4] at H
      have c4b0 : decide ((a0.size : Int) ≤ 4096) = true := decide_eq_true c4
      have c4b1 : decide (a0.size ≤ 4096) = true := decide_eq_true (by omega)
      clear c4
      replace H := Option.bind_eq_some_iff.mp H
      obtain ⟨t296, A50, H⟩ := H
      replace H : (some t296) = some r := H
      have A5 := Aside0.mk A50
      clear A50
      obtain rfl := Option.some.inj H
      go_enter Try.func4, Try.ntmps4
      go_wp2_with (first | ((with_reducible refine gate_callee (f := 9) rfl ?_); refine goesL_ (some 34) rfl rfl Try.func9 (by kernel_rfl) rfl #[] rfl mapx ?_; (with_reducible refine (barscanlaw47_examples.calls k  t296 _ A5.out).mono ?_); rintro e w6 ⟨rfl, hb⟩; refine ⟨_, rfl, ?_⟩; have n0_ := Aside0.mk (below_step (hb0 HB) hb); clear HB; have HB := n0_; clear n0_; (try clear hb); (try clear hb2); (try clear hk); (try clear hi)))
      go_ret
      exact ⟨by first | rfl | (simp [errW_none, errW_some] <;> rfl) | (simp [*, errW_none, errW_some] <;> rfl), by repeat (first | (with_reducible first | exact HB.out | apply below_alloc | apply pw_below_drewN | apply below_drew1) | exact HB.out)⟩
    · rw [if_neg c4] at H
      have c4b0 : decide ((a0.size : Int) ≤ 4096) = false := decide_eq_false c4
      have c4b1 : decide (a0.size ≤ 4096) = false := decide_eq_false (by omega)
      clear c4
      by_cases c7 : (a0.size : Int) > 10000
      · rw [if_pos c7] at H
        have c7b0 : decide (10000 < (a0.size : Int)) = true := decide_eq_true c7
        have c7b1 : decide (10000 < a0.size) = true := decide_eq_true (by omega)
        clear c7
        replace H := Option.bind_eq_some_iff.mp H
        obtain ⟨t297, A80, H⟩ := H
        replace H : (some t297) = some r := H
        have A8 := Aside0.mk A80
        clear A80
        obtain rfl := Option.some.inj H
        go_enter Try.func4, Try.ntmps4
        go_wp2_with (first | ((with_reducible refine gate_callee (f := 9) rfl ?_); refine goesL_ (some 34) rfl rfl Try.func9 (by kernel_rfl) rfl #[] rfl mapx ?_; (with_reducible refine (barscanlaw47_examples.calls k  t297 _ A8.out).mono ?_); rintro e w9 ⟨rfl, hb⟩; refine ⟨_, rfl, ?_⟩; have n0_ := Aside0.mk (below_step (hb0 HB) hb); clear HB; have HB := n0_; clear n0_; (try clear hb); (try clear hb2); (try clear hk); (try clear hi)))
        go_ret
        exact ⟨by first | rfl | (simp [errW_none, errW_some] <;> rfl) | (simp [*, errW_none, errW_some] <;> rfl), by repeat (first | (with_reducible first | exact HB.out | apply below_alloc | apply pw_below_drewN | apply below_drew1) | exact HB.out)⟩
      · rw [if_neg c7] at H
        have c7b0 : decide (10000 < (a0.size : Int)) = false := decide_eq_false c7
        have c7b1 : decide (10000 < a0.size) = false := decide_eq_false (by omega)
        clear c7
        by_cases c10 : a1 > 8
        · rw [if_pos c10] at H
          have c10b0 : decide (8 < a1) = true := decide_eq_true c10
          clear c10
          by_cases c11 : a1 ≤ 64
          · rw [if_pos c11] at H
            have c11b0 : decide (a1 ≤ 64) = true := decide_eq_true c11
            clear c11
            replace H := Option.bind_eq_some_iff.mp H
            obtain ⟨t298, A120, H⟩ := H
            replace H : (some t298) = some r := H
            have A12 := Aside0.mk A120
            clear A120
            obtain rfl := Option.some.inj H
            go_enter Try.func4, Try.ntmps4
            go_wp2_with (first | ((with_reducible refine gate_callee (f := 9) rfl ?_); refine goesL_ (some 34) rfl rfl Try.func9 (by kernel_rfl) rfl #[] rfl mapx ?_; (with_reducible refine (barscanlaw47_examples.calls k  t298 _ A12.out).mono ?_); rintro e w13 ⟨rfl, hb⟩; refine ⟨_, rfl, ?_⟩; have n0_ := Aside0.mk (below_step (hb0 HB) hb); clear HB; have HB := n0_; clear n0_; (try clear hb); (try clear hb2); (try clear hk); (try clear hi)))
            go_ret
            exact ⟨by first | rfl | (simp [errW_none, errW_some] <;> rfl) | (simp [*, errW_none, errW_some] <;> rfl), by repeat (first | (with_reducible first | exact HB.out | apply below_alloc | apply pw_below_drewN | apply below_drew1) | exact HB.out)⟩
          · rw [if_neg c11] at H
            have c11b0 : decide (a1 ≤ 64) = false := decide_eq_false c11
            clear c11
            replace H := Option.bind_eq_some_iff.mp H
            obtain ⟨⟨t299, t300, t301, t304⟩, A140, H⟩ := H
            replace H : ((barscanref47_Draw.f k a0 a1).bind fun bt306 => ((font_Width.f k a0 a1).bind fun bt313 => ((barscanref47_Width.f k a0 a1).bind fun bt315 => ((barscanlaw47_same.f k t299 t300 t301 bt306.1 bt306.2.1 bt306.2.2.1).bind fun t317 => (if t317 = true then (if t304 = bt306.2.2.2 then (if bt313.1 = bt315.1 then (if bt313.2 = bt315.2 then ((barscanlaw47_examples.f k).bind fun t318 => (some t318)) else (none)) else (none)) else (none)) else (none)))))) = some r := H
            have A14 := Aside0.mk A140
            clear A140
            replace H := Option.bind_eq_some_iff.mp H
            obtain ⟨⟨t306, t307, t308, t311⟩, A150, H⟩ := H
            replace H : ((font_Width.f k a0 a1).bind fun bt313 => ((barscanref47_Width.f k a0 a1).bind fun bt315 => ((barscanlaw47_same.f k t299 t300 t301 t306 t307 t308).bind fun t317 => (if t317 = true then (if t304 = t311 then (if bt313.1 = bt315.1 then (if bt313.2 = bt315.2 then ((barscanlaw47_examples.f k).bind fun t318 => (some t318)) else (none)) else (none)) else (none)) else (none))))) = some r := H
            have A15 := Aside0.mk A150
            clear A150
            replace H := Option.bind_eq_some_iff.mp H
            obtain ⟨⟨t313, t314⟩, A160, H⟩ := H
            replace H : ((barscanref47_Width.f k a0 a1).bind fun bt315 => ((barscanlaw47_same.f k t299 t300 t301 t306 t307 t308).bind fun t317 => (if t317 = true then (if t304 = t311 then (if t313 = bt315.1 then (if t314 = bt315.2 then ((barscanlaw47_examples.f k).bind fun t318 => (some t318)) else (none)) else (none)) else (none)) else (none)))) = some r := H
            have A16 := Aside0.mk A160
            clear A160
            replace H := Option.bind_eq_some_iff.mp H
            obtain ⟨⟨t315, t316⟩, A170, H⟩ := H
            replace H : ((barscanlaw47_same.f k t299 t300 t301 t306 t307 t308).bind fun t317 => (if t317 = true then (if t304 = t311 then (if t313 = t315 then (if t314 = t316 then ((barscanlaw47_examples.f k).bind fun t318 => (some t318)) else (none)) else (none)) else (none)) else (none))) = some r := H
            have A17 := Aside0.mk A170
            clear A170
            replace H := Option.bind_eq_some_iff.mp H
            obtain ⟨t317, A180, H⟩ := H
            replace H : (if t317 = true then (if t304 = t311 then (if t313 = t315 then (if t314 = t316 then ((barscanlaw47_examples.f k).bind fun t318 => (some t318)) else (none)) else (none)) else (none)) else (none)) = some r := H
            have A18 := Aside0.mk A180
            clear A180
            by_cases c19 : t317 = true
            · subst c19
              have H1 : (if t304 = t311 then (if t313 = t315 then (if t314 = t316 then ((barscanlaw47_examples.f k).bind fun t318 => (some t318)) else (none)) else (none)) else (none)) = some r := by rw [if_pos rfl] at H; exact H
              clear H
              have H := H1
              clear H1
              by_cases c20 : t304 = t311
              · rw [if_pos c20] at H
                have c20b0 : (t304 == t311) = true := beq_iff_eq.mpr c20
                have c20b1 : (t304 != t311) = false := bne_eq_false_iff_eq.mpr c20
                clear c20
                by_cases c21 : t313 = t315
                · rw [if_pos c21] at H
                  have c21b0 : (t313 == t315) = true := beq_iff_eq.mpr c21
                  have c21b1 : (t313 != t315) = false := bne_eq_false_iff_eq.mpr c21
                  clear c21
                  by_cases c22 : t314 = t316
                  · rw [if_pos c22] at H
                    have c22b0 : (t314 == t316) = true := beq_iff_eq.mpr c22
                    have c22b1 : (t314 != t316) = false := bne_eq_false_iff_eq.mpr c22
                    clear c22
                    replace H := Option.bind_eq_some_iff.mp H
                    obtain ⟨t318, A230, H⟩ := H
                    replace H : (some t318) = some r := H
                    have A23 := Aside0.mk A230
                    clear A230
                    obtain rfl := Option.some.inj H
                    go_enter Try.func4, Try.ntmps4
                    go_wp2_with (first | ((with_reducible refine gate_callee (f := 12) rfl ?_); refine goesL_ (some 38) rfl rfl Try.func12 (by kernel_rfl) rfl #[.string a0, .int .i64 a1] rfl mapx ?_; (with_reducible refine (font_Draw.calls k a0 a1 t299 t300 t301 t304 _ A14.out).mono ?_); rintro e w24 ⟨v302, rfl, ho0, hb⟩; refine ⟨_, rfl, ?_⟩; have n0_ := Aside0.mk (Kd.R_lower ho0 (below_size (hb0 HB))); have n1_ := Aside0.mk (below_step (hb0 HB) hb); clear HB; have HO303 := n0_; have HB := n1_; clear n0_ n1_; (try clear hb); (try clear hb2); (try clear hk); (try clear hi); (try clear ho0)) | ((with_reducible refine gate_dst (N := 5) rfl ?_); (try (refine gate_guard (by rfl) ?_; dsimp only)); refine box_event ?hg (N := 5) ?hd (cs := #[.int .i64 0, .int .i64 0, .slice none 0 0]) (t := 24) ?hr ?_; (case hd => rfl); (case hg => rfl); (case hr => first | (go_simp; done) | (go_simp; rfl)); intro gb305 hg w25 hbox hb; have n0_ := Aside0.mk (Kd.R_below (rkx HO303) hb); have n1_ := Aside0.mk (below_step (hb0 HB) hb); have n2_ := Aside0.mk (hbox); have n3_ := Aside0.mk ((by rw [hg]; exact (below_size (hb0 HB)) : w.heap.size ≤ gb305)); have n4_ := Aside0.mk ((by rw [hg]; exact (below_size (hb0 HB)) : w.heap.size ≤ gb305)); clear HO303; clear HB; have HO303 := n0_; have HB := n1_; have BK305 := n2_; have GW305 := n3_; have GE305 := n4_; clear n0_ n1_ n2_ n3_ n4_; clear hb hbox hg; have hcz26_0 : w25.cell? ⟨gb305, 0, none⟩ = some (.int .i64 0) := (blk_cell BK305.out 0).trans rfl; have hcz26_1 : w25.cell? ⟨gb305, 1, none⟩ = some (.int .i64 0) := (blk_cell BK305.out 1).trans rfl; have hcz26_2 : w25.cell? ⟨gb305, 2, none⟩ = some (.slice none 0 0) := (blk_cell BK305.out 2).trans rfl; have hfz26_0 := blk_frozen BK305.out 0; have hfz26_1 := blk_frozen BK305.out 1; have hfz26_2 := blk_frozen BK305.out 2; obtain ⟨Ao27, co27, eo27⟩ := Kd.R_slice HO303.out; subst eo27) | ((with_reducible refine gate_callee (f := 13) rfl ?_); refine goesL_ (some 44) rfl rfl Try.func13 (by kernel_rfl) rfl #[.string a0, .int .i64 a1] rfl mapx ?_; (with_reducible refine (barscanref47_Draw.calls k a0 a1 t306 t307 t308 t311 _ A15.out).mono ?_); rintro e w28 ⟨v309, rfl, ho0, hb⟩; refine ⟨_, rfl, ?_⟩; have n0_ := Aside0.mk (Kd.R_elder' (by refine rkt ?_; exact (far3 HO303 BK305)) (Kd.R_base ho0) hb); have n1_ := Aside0.mk (Kd.R_lower (Kd.R_new' ho0 (Kd.R_lt (by refine rkt ?_; exact (far3 HO303 BK305)))) (below_size (hb1 HB GE305))); have n2_ := Aside0.mk (blk_below (g := gb305) (o := .cells #[.int .i64 t299, .int .i64 t300, .slice Ao27 t301.length co27] 24 (0, 0)) (by refine bkt ?_; refine blk_put (cs := #[.int .i64 t299, .int .i64 t300, .slice none 0 0]) ?_ 2 _ rfl; refine bkt ?_; refine blk_put (cs := #[.int .i64 t299, .int .i64 0, .slice none 0 0]) ?_ 1 _ rfl; refine bkt ?_; refine blk_put (cs := #[.int .i64 0, .int .i64 0, .slice none 0 0]) ?_ 0 _ rfl; refine bkt ?_; exact BK305.out) hb); have n3_ := Aside0.mk (below_step (hb1 HB GE305) hb); clear HO303; clear BK305; clear HB; have HO303 := n0_; have HO310 := n1_; have BK305 := n2_; have HB := n3_; clear n0_ n1_ n2_ n3_; (try clear hb); (try clear hb2); (try clear hk); (try clear hi); (try clear ho0)) | ((with_reducible refine gate_dst (N := 7) rfl ?_); (try (refine gate_guard (by rfl) ?_; dsimp only)); refine box_event ?hg (N := 7) ?hd (cs := #[.int .i64 0, .int .i64 0, .slice none 0 0]) (t := 24) ?hr ?_; (case hd => rfl); (case hg => rfl); (case hr => first | (go_simp; done) | (go_simp; rfl)); intro gb312 hg w29 hbox hb; have n0_ := Aside0.mk (Kd.R_below (rkx HO303) hb); have n1_ := Aside0.mk (Kd.R_below (rkx HO310) hb); have n2_ := Aside0.mk (blk_below (bkx BK305) hb); have n3_ := Aside0.mk (below_step (hb1 HB GE305) hb); have n4_ := Aside0.mk (hbox); have n5_ := Aside0.mk ((by rw [hg]; exact (below_size (hb1 HB GE305)) : w.heap.size ≤ gb312)); have n6_ := Aside0.mk ((by rw [hg]; exact (below_size (hb1 HB GE305)) : w.heap.size ≤ gb312)); have n7_ := Aside0.mk (nel hg BK305 : gb305 ≠ gb312); have n8_ := Aside0.mk (neg hg BK305 : gb312 ≠ gb305); clear HO303; clear HO310; clear BK305; clear HB; have HO303 := n0_; have HO310 := n1_; have BK305 := n2_; have HB := n3_; have BK312 := n4_; have GW312 := n5_; have GE312 := n6_; have NB305_312 := n7_; have NB312_305 := n8_; clear n0_ n1_ n2_ n3_ n4_ n5_ n6_ n7_ n8_; clear hb hbox hg; have hnb30 := NB312_305.out; have hnc30 := NB305_312.out; have hcz31_0 : w29.cell? ⟨gb312, 0, none⟩ = some (.int .i64 0) := (blk_cell BK312.out 0).trans rfl; have hcz31_1 : w29.cell? ⟨gb312, 1, none⟩ = some (.int .i64 0) := (blk_cell BK312.out 1).trans rfl; have hcz31_2 : w29.cell? ⟨gb312, 2, none⟩ = some (.slice none 0 0) := (blk_cell BK312.out 2).trans rfl; have hfz31_0 := blk_frozen BK312.out 0; have hfz31_1 := blk_frozen BK312.out 1; have hfz31_2 := blk_frozen BK312.out 2; obtain ⟨Ao32, co32, eo32⟩ := Kd.R_slice HO310.out; subst eo32) | ((with_reducible refine gate_callee (f := 14) rfl ?_); refine goesL_ (some 50) rfl rfl Try.func14 (by kernel_rfl) rfl #[.string a0, .int .i64 a1] rfl mapx ?_; (with_reducible refine (font_Width.calls k a0 a1 t313 t314 _ A16.out).mono ?_); rintro e w33 ⟨rfl, hb⟩; refine ⟨_, rfl, ?_⟩; have n0_ := Aside0.mk (Kd.R_below (by refine rkt ?_; exact (far3 HO303 BK312)) hb); have n1_ := Aside0.mk (Kd.R_below (by refine rkt ?_; exact (far3 HO310 BK312)) hb); have n2_ := Aside0.mk (blk_below (g := gb305) (o := .cells #[.int .i64 t299, .int .i64 t300, .slice Ao27 t301.length co27] 24 (0, 0)) (bky BK305 NB305_312) hb); have n3_ := Aside0.mk (blk_below (g := gb312) (o := .cells #[.int .i64 t306, .int .i64 t307, .slice Ao32 t308.length co32] 24 (0, 0)) (by refine bkt ?_; refine blk_put (cs := #[.int .i64 t306, .int .i64 t307, .slice none 0 0]) ?_ 2 _ rfl; refine bkt ?_; refine blk_put (cs := #[.int .i64 t306, .int .i64 0, .slice none 0 0]) ?_ 1 _ rfl; refine bkt ?_; refine blk_put (cs := #[.int .i64 0, .int .i64 0, .slice none 0 0]) ?_ 0 _ rfl; refine bkt ?_; exact BK312.out) hb); have n4_ := Aside0.mk (below_step (hb2 HB GE305 GE312) hb); clear HO303; clear HO310; clear BK305; clear BK312; clear HB; have HO303 := n0_; have HO310 := n1_; have BK305 := n2_; have BK312 := n3_; have HB := n4_; clear n0_ n1_ n2_ n3_ n4_; (try clear hb); (try clear hb2); (try clear hk); (try clear hi)) | ((with_reducible refine gate_callee (f := 15) rfl ?_); refine goesL_ (some 56) rfl rfl Try.func15 (by kernel_rfl) rfl #[.string a0, .int .i64 a1] rfl mapx ?_; (with_reducible refine (barscanref47_Width.calls k a0 a1 t315 t316 _ A17.out).mono ?_); rintro e w' ⟨rfl, ⟨nd, rfl⟩⟩; refine ⟨_, rfl, ?_⟩; have hcz34_0 : w33.cell? ⟨gb305, 0, none⟩ = some (.int .i64 t299) := (blk_cell BK305.out 0).trans rfl; have hcz34_1 : w33.cell? ⟨gb305, 1, none⟩ = some (.int .i64 t300) := (blk_cell BK305.out 1).trans rfl; have hcz34_2 : w33.cell? ⟨gb305, 2, none⟩ = some (.slice Ao27 t301.length co27) := (blk_cell BK305.out 2).trans rfl; have hfz34_0 := blk_frozen BK305.out 0; have hfz34_1 := blk_frozen BK305.out 1; have hfz34_2 := blk_frozen BK305.out 2; have hcz35_0 : w33.cell? ⟨gb312, 0, none⟩ = some (.int .i64 t306) := (blk_cell BK312.out 0).trans rfl; have hcz35_1 : w33.cell? ⟨gb312, 1, none⟩ = some (.int .i64 t307) := (blk_cell BK312.out 1).trans rfl; have hcz35_2 : w33.cell? ⟨gb312, 2, none⟩ = some (.slice Ao32 t308.length co32) := (blk_cell BK312.out 2).trans rfl; have hfz35_0 := blk_frozen BK312.out 0; have hfz35_1 := blk_frozen BK312.out 1; have hfz35_2 := blk_frozen BK312.out 2) | ((with_reducible refine gate_callee (f := 16) rfl ?_); refine goesL_ (some 61) rfl rfl Try.func16 (by kernel_rfl) rfl #[.agg #[.int .i64 t299, .int .i64 t300, .slice Ao27 t301.length co27], .agg #[.int .i64 t306, .int .i64 t307, .slice Ao32 t308.length co32]] rfl mapx ?_; (with_reducible refine (barscanlaw47_same.calls k t299 t300 _ _ t301 t306 t307 _ _ t308 true _ ?side1 ?side2 ?side3 ?side4 A18.out).mono ?_); (case side1 => repeat (first | exact (Kd.R_reads' HO303.out).2.2 | (with_reducible refine Kd.C_alloc ?_ _) | (with_reducible refine Kd.C_drewN ?_ _) | (with_reducible refine Kd.C_drew ?_))); (case side2 => exact (Kd.R_reads' HO303.out).2.1); (case side3 => repeat (first | exact (Kd.R_reads' HO310.out).2.2 | (with_reducible refine Kd.C_alloc ?_ _) | (with_reducible refine Kd.C_drewN ?_ _) | (with_reducible refine Kd.C_drew ?_))); (case side4 => exact (Kd.R_reads' HO310.out).2.1); rintro e w36 ⟨rfl, hb⟩; refine ⟨_, rfl, ?_⟩; have n0_ := Aside0.mk (Kd.R_below (rkx HO303) hb); have n1_ := Aside0.mk (Kd.R_below (rkx HO310) hb); have n2_ := Aside0.mk (blk_below (bkx BK305) hb); have n3_ := Aside0.mk (blk_below (bkx BK312) hb); have n4_ := Aside0.mk (below_step (hb2 HB GE305 GE312) hb); clear HO303; clear HO310; clear BK305; clear BK312; clear HB; have HO303 := n0_; have HO310 := n1_; have BK305 := n2_; have BK312 := n3_; have HB := n4_; clear n0_ n1_ n2_ n3_ n4_; (try clear hb); (try clear hb2); (try clear hk); (try clear hi)) | (go_at_call 9; (with_reducible refine (barscanlaw47_examples.calls k  t318 _ A23.out).mono ?_); rintro e w37 ⟨rfl, hb⟩; have n0_ := Aside0.mk (Kd.R_below (rkx HO303) hb); have n1_ := Aside0.mk (Kd.R_below (rkx HO310) hb); have n2_ := Aside0.mk (blk_below (bkx BK305) hb); have n3_ := Aside0.mk (blk_below (bkx BK312) hb); have n4_ := Aside0.mk (below_step (hb2 HB GE305 GE312) hb); clear HO303; clear HO310; clear BK305; clear BK312; clear HB; have HO303 := n0_; have HO310 := n1_; have BK305 := n2_; have BK312 := n3_; have HB := n4_; clear n0_ n1_ n2_ n3_ n4_; (try clear hb); (try clear hb2); (try clear hk); (try clear hi)))
                    go_ret
                    exact ⟨by first | rfl | (simp [errW_none, errW_some] <;> rfl) | (simp [*, errW_none, errW_some] <;> rfl), by repeat (first | (with_reducible first | exact HB.out | apply below_alloc | apply pw_below_drewN | apply below_drew1 | refine below_set ?_ GE305.out | refine below_set ?_ GE312.out) | exact HB.out)⟩
                  · rw [if_neg c22] at H
                    exact absurd H (by simp)
                · rw [if_neg c21] at H
                  exact absurd H (by simp)
              · rw [if_neg c20] at H
                exact absurd H (by simp)
            · replace c19 := Bool.eq_false_iff.mpr c19
              subst c19
              have H1 : (none) = some r := by rw [if_neg (show ¬ (false = true) by decide)] at H; exact H
              clear H
              have H := H1
              clear H1
              exact absurd H (by simp)
        · rw [if_neg c10] at H
          have c10b0 : decide (8 < a1) = false := decide_eq_false c10
          clear c10
          replace H := Option.bind_eq_some_iff.mp H
          obtain ⟨⟨t319, t320, t321, t324⟩, A380, H⟩ := H
          replace H : ((barscanref47_Draw.f k a0 a1).bind fun bt326 => ((font_Width.f k a0 a1).bind fun bt333 => ((barscanref47_Width.f k a0 a1).bind fun bt335 => ((barscanlaw47_same.f k t319 t320 t321 bt326.1 bt326.2.1 bt326.2.2.1).bind fun t337 => (if t337 = true then (if t324 = bt326.2.2.2 then (if bt333.1 = bt335.1 then (if bt333.2 = bt335.2 then ((barscanlaw47_examples.f k).bind fun t338 => (some t338)) else (none)) else (none)) else (none)) else (none)))))) = some r := H
          have A38 := Aside0.mk A380
          clear A380
          replace H := Option.bind_eq_some_iff.mp H
          obtain ⟨⟨t326, t327, t328, t331⟩, A390, H⟩ := H
          replace H : ((font_Width.f k a0 a1).bind fun bt333 => ((barscanref47_Width.f k a0 a1).bind fun bt335 => ((barscanlaw47_same.f k t319 t320 t321 t326 t327 t328).bind fun t337 => (if t337 = true then (if t324 = t331 then (if bt333.1 = bt335.1 then (if bt333.2 = bt335.2 then ((barscanlaw47_examples.f k).bind fun t338 => (some t338)) else (none)) else (none)) else (none)) else (none))))) = some r := H
          have A39 := Aside0.mk A390
          clear A390
          replace H := Option.bind_eq_some_iff.mp H
          obtain ⟨⟨t333, t334⟩, A400, H⟩ := H
          replace H : ((barscanref47_Width.f k a0 a1).bind fun bt335 => ((barscanlaw47_same.f k t319 t320 t321 t326 t327 t328).bind fun t337 => (if t337 = true then (if t324 = t331 then (if t333 = bt335.1 then (if t334 = bt335.2 then ((barscanlaw47_examples.f k).bind fun t338 => (some t338)) else (none)) else (none)) else (none)) else (none)))) = some r := H
          have A40 := Aside0.mk A400
          clear A400
          replace H := Option.bind_eq_some_iff.mp H
          obtain ⟨⟨t335, t336⟩, A410, H⟩ := H
          replace H : ((barscanlaw47_same.f k t319 t320 t321 t326 t327 t328).bind fun t337 => (if t337 = true then (if t324 = t331 then (if t333 = t335 then (if t334 = t336 then ((barscanlaw47_examples.f k).bind fun t338 => (some t338)) else (none)) else (none)) else (none)) else (none))) = some r := H
          have A41 := Aside0.mk A410
          clear A410
          replace H := Option.bind_eq_some_iff.mp H
          obtain ⟨t337, A420, H⟩ := H
          replace H : (if t337 = true then (if t324 = t331 then (if t333 = t335 then (if t334 = t336 then ((barscanlaw47_examples.f k).bind fun t338 => (some t338)) else (none)) else (none)) else (none)) else (none)) = some r := H
          have A42 := Aside0.mk A420
          clear A420
          by_cases c43 : t337 = true
          · subst c43
            have H1 : (if t324 = t331 then (if t333 = t335 then (if t334 = t336 then ((barscanlaw47_examples.f k).bind fun t338 => (some t338)) else (none)) else (none)) else (none)) = some r := by rw [if_pos rfl] at H; exact H
            clear H
            have H := H1
            clear H1
            by_cases c44 : t324 = t331
            · rw [if_pos c44] at H
              have c44b0 : (t324 == t331) = true := beq_iff_eq.mpr c44
              have c44b1 : (t324 != t331) = false := bne_eq_false_iff_eq.mpr c44
              clear c44
              by_cases c45 : t333 = t335
              · rw [if_pos c45] at H
                have c45b0 : (t333 == t335) = true := beq_iff_eq.mpr c45
                have c45b1 : (t333 != t335) = false := bne_eq_false_iff_eq.mpr c45
                clear c45
                by_cases c46 : t334 = t336
                · rw [if_pos c46] at H
                  have c46b0 : (t334 == t336) = true := beq_iff_eq.mpr c46
                  have c46b1 : (t334 != t336) = false := bne_eq_false_iff_eq.mpr c46
                  clear c46
                  replace H := Option.bind_eq_some_iff.mp H
                  obtain ⟨t338, A470, H⟩ := H
                  replace H : (some t338) = some r := H
                  have A47 := Aside0.mk A470
                  clear A470
                  obtain rfl := Option.some.inj H
                  go_enter Try.func4, Try.ntmps4
                  go_wp2_with (first | ((with_reducible refine gate_callee (f := 12) rfl ?_); refine goesL_ (some 38) rfl rfl Try.func12 (by kernel_rfl) rfl #[.string a0, .int .i64 a1] rfl mapx ?_; (with_reducible refine (font_Draw.calls k a0 a1 t319 t320 t321 t324 _ A38.out).mono ?_); rintro e w48 ⟨v322, rfl, ho0, hb⟩; refine ⟨_, rfl, ?_⟩; have n0_ := Aside0.mk (Kd.R_lower ho0 (below_size (hb0 HB))); have n1_ := Aside0.mk (below_step (hb0 HB) hb); clear HB; have HO323 := n0_; have HB := n1_; clear n0_ n1_; (try clear hb); (try clear hb2); (try clear hk); (try clear hi); (try clear ho0)) | ((with_reducible refine gate_dst (N := 5) rfl ?_); (try (refine gate_guard (by rfl) ?_; dsimp only)); refine box_event ?hg (N := 5) ?hd (cs := #[.int .i64 0, .int .i64 0, .slice none 0 0]) (t := 24) ?hr ?_; (case hd => rfl); (case hg => rfl); (case hr => first | (go_simp; done) | (go_simp; rfl)); intro gb325 hg w49 hbox hb; have n0_ := Aside0.mk (Kd.R_below (rkx HO323) hb); have n1_ := Aside0.mk (below_step (hb0 HB) hb); have n2_ := Aside0.mk (hbox); have n3_ := Aside0.mk ((by rw [hg]; exact (below_size (hb0 HB)) : w.heap.size ≤ gb325)); have n4_ := Aside0.mk ((by rw [hg]; exact (below_size (hb0 HB)) : w.heap.size ≤ gb325)); clear HO323; clear HB; have HO323 := n0_; have HB := n1_; have BK325 := n2_; have GW325 := n3_; have GE325 := n4_; clear n0_ n1_ n2_ n3_ n4_; clear hb hbox hg; have hcz50_0 : w49.cell? ⟨gb325, 0, none⟩ = some (.int .i64 0) := (blk_cell BK325.out 0).trans rfl; have hcz50_1 : w49.cell? ⟨gb325, 1, none⟩ = some (.int .i64 0) := (blk_cell BK325.out 1).trans rfl; have hcz50_2 : w49.cell? ⟨gb325, 2, none⟩ = some (.slice none 0 0) := (blk_cell BK325.out 2).trans rfl; have hfz50_0 := blk_frozen BK325.out 0; have hfz50_1 := blk_frozen BK325.out 1; have hfz50_2 := blk_frozen BK325.out 2; obtain ⟨Ao51, co51, eo51⟩ := Kd.R_slice HO323.out; subst eo51) | ((with_reducible refine gate_callee (f := 13) rfl ?_); refine goesL_ (some 44) rfl rfl Try.func13 (by kernel_rfl) rfl #[.string a0, .int .i64 a1] rfl mapx ?_; (with_reducible refine (barscanref47_Draw.calls k a0 a1 t326 t327 t328 t331 _ A39.out).mono ?_); rintro e w52 ⟨v329, rfl, ho0, hb⟩; refine ⟨_, rfl, ?_⟩; have n0_ := Aside0.mk (Kd.R_elder' (by refine rkt ?_; exact (far3 HO323 BK325)) (Kd.R_base ho0) hb); have n1_ := Aside0.mk (Kd.R_lower (Kd.R_new' ho0 (Kd.R_lt (by refine rkt ?_; exact (far3 HO323 BK325)))) (below_size (hb1 HB GE325))); have n2_ := Aside0.mk (blk_below (g := gb325) (o := .cells #[.int .i64 t319, .int .i64 t320, .slice Ao51 t321.length co51] 24 (0, 0)) (by refine bkt ?_; refine blk_put (cs := #[.int .i64 t319, .int .i64 t320, .slice none 0 0]) ?_ 2 _ rfl; refine bkt ?_; refine blk_put (cs := #[.int .i64 t319, .int .i64 0, .slice none 0 0]) ?_ 1 _ rfl; refine bkt ?_; refine blk_put (cs := #[.int .i64 0, .int .i64 0, .slice none 0 0]) ?_ 0 _ rfl; refine bkt ?_; exact BK325.out) hb); have n3_ := Aside0.mk (below_step (hb1 HB GE325) hb); clear HO323; clear BK325; clear HB; have HO323 := n0_; have HO330 := n1_; have BK325 := n2_; have HB := n3_; clear n0_ n1_ n2_ n3_; (try clear hb); (try clear hb2); (try clear hk); (try clear hi); (try clear ho0)) | ((with_reducible refine gate_dst (N := 7) rfl ?_); (try (refine gate_guard (by rfl) ?_; dsimp only)); refine box_event ?hg (N := 7) ?hd (cs := #[.int .i64 0, .int .i64 0, .slice none 0 0]) (t := 24) ?hr ?_; (case hd => rfl); (case hg => rfl); (case hr => first | (go_simp; done) | (go_simp; rfl)); intro gb332 hg w53 hbox hb; have n0_ := Aside0.mk (Kd.R_below (rkx HO323) hb); have n1_ := Aside0.mk (Kd.R_below (rkx HO330) hb); have n2_ := Aside0.mk (blk_below (bkx BK325) hb); have n3_ := Aside0.mk (below_step (hb1 HB GE325) hb); have n4_ := Aside0.mk (hbox); have n5_ := Aside0.mk ((by rw [hg]; exact (below_size (hb1 HB GE325)) : w.heap.size ≤ gb332)); have n6_ := Aside0.mk ((by rw [hg]; exact (below_size (hb1 HB GE325)) : w.heap.size ≤ gb332)); have n7_ := Aside0.mk (nel hg BK325 : gb325 ≠ gb332); have n8_ := Aside0.mk (neg hg BK325 : gb332 ≠ gb325); clear HO323; clear HO330; clear BK325; clear HB; have HO323 := n0_; have HO330 := n1_; have BK325 := n2_; have HB := n3_; have BK332 := n4_; have GW332 := n5_; have GE332 := n6_; have NB325_332 := n7_; have NB332_325 := n8_; clear n0_ n1_ n2_ n3_ n4_ n5_ n6_ n7_ n8_; clear hb hbox hg; have hnb54 := NB332_325.out; have hnc54 := NB325_332.out; have hcz55_0 : w53.cell? ⟨gb332, 0, none⟩ = some (.int .i64 0) := (blk_cell BK332.out 0).trans rfl; have hcz55_1 : w53.cell? ⟨gb332, 1, none⟩ = some (.int .i64 0) := (blk_cell BK332.out 1).trans rfl; have hcz55_2 : w53.cell? ⟨gb332, 2, none⟩ = some (.slice none 0 0) := (blk_cell BK332.out 2).trans rfl; have hfz55_0 := blk_frozen BK332.out 0; have hfz55_1 := blk_frozen BK332.out 1; have hfz55_2 := blk_frozen BK332.out 2; obtain ⟨Ao56, co56, eo56⟩ := Kd.R_slice HO330.out; subst eo56) | ((with_reducible refine gate_callee (f := 14) rfl ?_); refine goesL_ (some 50) rfl rfl Try.func14 (by kernel_rfl) rfl #[.string a0, .int .i64 a1] rfl mapx ?_; (with_reducible refine (font_Width.calls k a0 a1 t333 t334 _ A40.out).mono ?_); rintro e w57 ⟨rfl, hb⟩; refine ⟨_, rfl, ?_⟩; have n0_ := Aside0.mk (Kd.R_below (by refine rkt ?_; exact (far3 HO323 BK332)) hb); have n1_ := Aside0.mk (Kd.R_below (by refine rkt ?_; exact (far3 HO330 BK332)) hb); have n2_ := Aside0.mk (blk_below (g := gb325) (o := .cells #[.int .i64 t319, .int .i64 t320, .slice Ao51 t321.length co51] 24 (0, 0)) (bky BK325 NB325_332) hb); have n3_ := Aside0.mk (blk_below (g := gb332) (o := .cells #[.int .i64 t326, .int .i64 t327, .slice Ao56 t328.length co56] 24 (0, 0)) (by refine bkt ?_; refine blk_put (cs := #[.int .i64 t326, .int .i64 t327, .slice none 0 0]) ?_ 2 _ rfl; refine bkt ?_; refine blk_put (cs := #[.int .i64 t326, .int .i64 0, .slice none 0 0]) ?_ 1 _ rfl; refine bkt ?_; refine blk_put (cs := #[.int .i64 0, .int .i64 0, .slice none 0 0]) ?_ 0 _ rfl; refine bkt ?_; exact BK332.out) hb); have n4_ := Aside0.mk (below_step (hb2 HB GE325 GE332) hb); clear HO323; clear HO330; clear BK325; clear BK332; clear HB; have HO323 := n0_; have HO330 := n1_; have BK325 := n2_; have BK332 := n3_; have HB := n4_; clear n0_ n1_ n2_ n3_ n4_; (try clear hb); (try clear hb2); (try clear hk); (try clear hi)) | ((with_reducible refine gate_callee (f := 15) rfl ?_); refine goesL_ (some 56) rfl rfl Try.func15 (by kernel_rfl) rfl #[.string a0, .int .i64 a1] rfl mapx ?_; (with_reducible refine (barscanref47_Width.calls k a0 a1 t335 t336 _ A41.out).mono ?_); rintro e w' ⟨rfl, ⟨nd, rfl⟩⟩; refine ⟨_, rfl, ?_⟩; have hcz58_0 : w57.cell? ⟨gb325, 0, none⟩ = some (.int .i64 t319) := (blk_cell BK325.out 0).trans rfl; have hcz58_1 : w57.cell? ⟨gb325, 1, none⟩ = some (.int .i64 t320) := (blk_cell BK325.out 1).trans rfl; have hcz58_2 : w57.cell? ⟨gb325, 2, none⟩ = some (.slice Ao51 t321.length co51) := (blk_cell BK325.out 2).trans rfl; have hfz58_0 := blk_frozen BK325.out 0; have hfz58_1 := blk_frozen BK325.out 1; have hfz58_2 := blk_frozen BK325.out 2; have hcz59_0 : w57.cell? ⟨gb332, 0, none⟩ = some (.int .i64 t326) := (blk_cell BK332.out 0).trans rfl; have hcz59_1 : w57.cell? ⟨gb332, 1, none⟩ = some (.int .i64 t327) := (blk_cell BK332.out 1).trans rfl; have hcz59_2 : w57.cell? ⟨gb332, 2, none⟩ = some (.slice Ao56 t328.length co56) := (blk_cell BK332.out 2).trans rfl; have hfz59_0 := blk_frozen BK332.out 0; have hfz59_1 := blk_frozen BK332.out 1; have hfz59_2 := blk_frozen BK332.out 2) | ((with_reducible refine gate_callee (f := 16) rfl ?_); refine goesL_ (some 61) rfl rfl Try.func16 (by kernel_rfl) rfl #[.agg #[.int .i64 t319, .int .i64 t320, .slice Ao51 t321.length co51], .agg #[.int .i64 t326, .int .i64 t327, .slice Ao56 t328.length co56]] rfl mapx ?_; (with_reducible refine (barscanlaw47_same.calls k t319 t320 _ _ t321 t326 t327 _ _ t328 true _ ?side1 ?side2 ?side3 ?side4 A42.out).mono ?_); (case side1 => repeat (first | exact (Kd.R_reads' HO323.out).2.2 | (with_reducible refine Kd.C_alloc ?_ _) | (with_reducible refine Kd.C_drewN ?_ _) | (with_reducible refine Kd.C_drew ?_))); (case side2 => exact (Kd.R_reads' HO323.out).2.1); (case side3 => repeat (first | exact (Kd.R_reads' HO330.out).2.2 | (with_reducible refine Kd.C_alloc ?_ _) | (with_reducible refine Kd.C_drewN ?_ _) | (with_reducible refine Kd.C_drew ?_))); (case side4 => exact (Kd.R_reads' HO330.out).2.1); rintro e w60 ⟨rfl, hb⟩; refine ⟨_, rfl, ?_⟩; have n0_ := Aside0.mk (Kd.R_below (rkx HO323) hb); have n1_ := Aside0.mk (Kd.R_below (rkx HO330) hb); have n2_ := Aside0.mk (blk_below (bkx BK325) hb); have n3_ := Aside0.mk (blk_below (bkx BK332) hb); have n4_ := Aside0.mk (below_step (hb2 HB GE325 GE332) hb); clear HO323; clear HO330; clear BK325; clear BK332; clear HB; have HO323 := n0_; have HO330 := n1_; have BK325 := n2_; have BK332 := n3_; have HB := n4_; clear n0_ n1_ n2_ n3_ n4_; (try clear hb); (try clear hb2); (try clear hk); (try clear hi)) | (go_at_call 9; (with_reducible refine (barscanlaw47_examples.calls k  t338 _ A47.out).mono ?_); rintro e w61 ⟨rfl, hb⟩; have n0_ := Aside0.mk (Kd.R_below (rkx HO323) hb); have n1_ := Aside0.mk (Kd.R_below (rkx HO330) hb); have n2_ := Aside0.mk (blk_below (bkx BK325) hb); have n3_ := Aside0.mk (blk_below (bkx BK332) hb); have n4_ := Aside0.mk (below_step (hb2 HB GE325 GE332) hb); clear HO323; clear HO330; clear BK325; clear BK332; clear HB; have HO323 := n0_; have HO330 := n1_; have BK325 := n2_; have BK332 := n3_; have HB := n4_; clear n0_ n1_ n2_ n3_ n4_; (try clear hb); (try clear hb2); (try clear hk); (try clear hi)))
                  go_ret
                  exact ⟨by first | rfl | (simp [errW_none, errW_some] <;> rfl) | (simp [*, errW_none, errW_some] <;> rfl), by repeat (first | (with_reducible first | exact HB.out | apply below_alloc | apply pw_below_drewN | apply below_drew1 | refine below_set ?_ GE325.out | refine below_set ?_ GE332.out) | exact HB.out)⟩
                · rw [if_neg c46] at H
                  exact absurd H (by simp)
              · rw [if_neg c45] at H
                exact absurd H (by simp)
            · rw [if_neg c44] at H
              exact absurd H (by simp)
          · replace c43 := Bool.eq_false_iff.mpr c43
            subst c43
            have H1 : (none) = some r := by rw [if_neg (show ¬ (false = true) by decide)] at H; exact H
            clear H
            have H := H1
            clear H1
            exact absurd H (by simp)
  · rw [if_neg c3] at H
    have c3b0 : decide (40 < (a0.size : Int)) = false := decide_eq_false c3
    have c3b1 : decide (40 < a0.size) = false := decide_eq_false (by omega)
    clear c3
    by_cases c62 : (a0.size : Int) > 10000
    · rw [if_pos c62] at H
      have c62b0 : decide (10000 < (a0.size : Int)) = true := decide_eq_true c62
      have c62b1 : decide (10000 < a0.size) = true := decide_eq_true (by omega)
      clear c62
      replace H := Option.bind_eq_some_iff.mp H
      obtain ⟨t339, A630, H⟩ := H
      replace H : (some t339) = some r := H
      have A63 := Aside0.mk A630
      clear A630
      obtain rfl := Option.some.inj H
      go_enter Try.func4, Try.ntmps4
      go_wp2_with (first | ((with_reducible refine gate_callee (f := 9) rfl ?_); refine goesL_ (some 34) rfl rfl Try.func9 (by kernel_rfl) rfl #[] rfl mapx ?_; (with_reducible refine (barscanlaw47_examples.calls k  t339 _ A63.out).mono ?_); rintro e w64 ⟨rfl, hb⟩; refine ⟨_, rfl, ?_⟩; have n0_ := Aside0.mk (below_step (hb0 HB) hb); clear HB; have HB := n0_; clear n0_; (try clear hb); (try clear hb2); (try clear hk); (try clear hi)))
      go_ret
      exact ⟨by first | rfl | (simp [errW_none, errW_some] <;> rfl) | (simp [*, errW_none, errW_some] <;> rfl), by repeat (first | (with_reducible first | exact HB.out | apply below_alloc | apply pw_below_drewN | apply below_drew1) | exact HB.out)⟩
    · rw [if_neg c62] at H
      have c62b0 : decide (10000 < (a0.size : Int)) = false := decide_eq_false c62
      have c62b1 : decide (10000 < a0.size) = false := decide_eq_false (by omega)
      clear c62
      by_cases c65 : a1 > 8
      · rw [if_pos c65] at H
        have c65b0 : decide (8 < a1) = true := decide_eq_true c65
        clear c65
        by_cases c66 : a1 ≤ 64
        · rw [if_pos c66] at H
          have c66b0 : decide (a1 ≤ 64) = true := decide_eq_true c66
          clear c66
          replace H := Option.bind_eq_some_iff.mp H
          obtain ⟨t340, A670, H⟩ := H
          replace H : (some t340) = some r := H
          have A67 := Aside0.mk A670
          clear A670
          obtain rfl := Option.some.inj H
          go_enter Try.func4, Try.ntmps4
          go_wp2_with (first | ((with_reducible refine gate_callee (f := 9) rfl ?_); refine goesL_ (some 34) rfl rfl Try.func9 (by kernel_rfl) rfl #[] rfl mapx ?_; (with_reducible refine (barscanlaw47_examples.calls k  t340 _ A67.out).mono ?_); rintro e w68 ⟨rfl, hb⟩; refine ⟨_, rfl, ?_⟩; have n0_ := Aside0.mk (below_step (hb0 HB) hb); clear HB; have HB := n0_; clear n0_; (try clear hb); (try clear hb2); (try clear hk); (try clear hi)))
          go_ret
          exact ⟨by first | rfl | (simp [errW_none, errW_some] <;> rfl) | (simp [*, errW_none, errW_some] <;> rfl), by repeat (first | (with_reducible first | exact HB.out | apply below_alloc | apply pw_below_drewN | apply below_drew1) | exact HB.out)⟩
        · rw [if_neg c66] at H
          have c66b0 : decide (a1 ≤ 64) = false := decide_eq_false c66
          clear c66
          replace H := Option.bind_eq_some_iff.mp H
          obtain ⟨⟨t341, t342, t343, t346⟩, A690, H⟩ := H
          replace H : ((barscanref47_Draw.f k a0 a1).bind fun bt348 => ((font_Width.f k a0 a1).bind fun bt355 => ((barscanref47_Width.f k a0 a1).bind fun bt357 => ((barscanlaw47_same.f k t341 t342 t343 bt348.1 bt348.2.1 bt348.2.2.1).bind fun t359 => (if t359 = true then (if t346 = bt348.2.2.2 then (if bt355.1 = bt357.1 then (if bt355.2 = bt357.2 then ((barscanlaw47_examples.f k).bind fun t360 => (some t360)) else (none)) else (none)) else (none)) else (none)))))) = some r := H
          have A69 := Aside0.mk A690
          clear A690
          replace H := Option.bind_eq_some_iff.mp H
          obtain ⟨⟨t348, t349, t350, t353⟩, A700, H⟩ := H
          replace H : ((font_Width.f k a0 a1).bind fun bt355 => ((barscanref47_Width.f k a0 a1).bind fun bt357 => ((barscanlaw47_same.f k t341 t342 t343 t348 t349 t350).bind fun t359 => (if t359 = true then (if t346 = t353 then (if bt355.1 = bt357.1 then (if bt355.2 = bt357.2 then ((barscanlaw47_examples.f k).bind fun t360 => (some t360)) else (none)) else (none)) else (none)) else (none))))) = some r := H
          have A70 := Aside0.mk A700
          clear A700
          replace H := Option.bind_eq_some_iff.mp H
          obtain ⟨⟨t355, t356⟩, A710, H⟩ := H
          replace H : ((barscanref47_Width.f k a0 a1).bind fun bt357 => ((barscanlaw47_same.f k t341 t342 t343 t348 t349 t350).bind fun t359 => (if t359 = true then (if t346 = t353 then (if t355 = bt357.1 then (if t356 = bt357.2 then ((barscanlaw47_examples.f k).bind fun t360 => (some t360)) else (none)) else (none)) else (none)) else (none)))) = some r := H
          have A71 := Aside0.mk A710
          clear A710
          replace H := Option.bind_eq_some_iff.mp H
          obtain ⟨⟨t357, t358⟩, A720, H⟩ := H
          replace H : ((barscanlaw47_same.f k t341 t342 t343 t348 t349 t350).bind fun t359 => (if t359 = true then (if t346 = t353 then (if t355 = t357 then (if t356 = t358 then ((barscanlaw47_examples.f k).bind fun t360 => (some t360)) else (none)) else (none)) else (none)) else (none))) = some r := H
          have A72 := Aside0.mk A720
          clear A720
          replace H := Option.bind_eq_some_iff.mp H
          obtain ⟨t359, A730, H⟩ := H
          replace H : (if t359 = true then (if t346 = t353 then (if t355 = t357 then (if t356 = t358 then ((barscanlaw47_examples.f k).bind fun t360 => (some t360)) else (none)) else (none)) else (none)) else (none)) = some r := H
          have A73 := Aside0.mk A730
          clear A730
          by_cases c74 : t359 = true
          · subst c74
            have H1 : (if t346 = t353 then (if t355 = t357 then (if t356 = t358 then ((barscanlaw47_examples.f k).bind fun t360 => (some t360)) else (none)) else (none)) else (none)) = some r := by rw [if_pos rfl] at H; exact H
            clear H
            have H := H1
            clear H1
            by_cases c75 : t346 = t353
            · rw [if_pos c75] at H
              have c75b0 : (t346 == t353) = true := beq_iff_eq.mpr c75
              have c75b1 : (t346 != t353) = false := bne_eq_false_iff_eq.mpr c75
              clear c75
              by_cases c76 : t355 = t357
              · rw [if_pos c76] at H
                have c76b0 : (t355 == t357) = true := beq_iff_eq.mpr c76
                have c76b1 : (t355 != t357) = false := bne_eq_false_iff_eq.mpr c76
                clear c76
                by_cases c77 : t356 = t358
                · rw [if_pos c77] at H
                  have c77b0 : (t356 == t358) = true := beq_iff_eq.mpr c77
                  have c77b1 : (t356 != t358) = false := bne_eq_false_iff_eq.mpr c77
                  clear c77
                  replace H := Option.bind_eq_some_iff.mp H
                  obtain ⟨t360, A780, H⟩ := H
                  replace H : (some t360) = some r := H
                  have A78 := Aside0.mk A780
                  clear A780
                  obtain rfl := Option.some.inj H
                  go_enter Try.func4, Try.ntmps4
                  go_wp2_with (first | ((with_reducible refine gate_callee (f := 12) rfl ?_); refine goesL_ (some 38) rfl rfl Try.func12 (by kernel_rfl) rfl #[.string a0, .int .i64 a1] rfl mapx ?_; (with_reducible refine (font_Draw.calls k a0 a1 t341 t342 t343 t346 _ A69.out).mono ?_); rintro e w79 ⟨v344, rfl, ho0, hb⟩; refine ⟨_, rfl, ?_⟩; have n0_ := Aside0.mk (Kd.R_lower ho0 (below_size (hb0 HB))); have n1_ := Aside0.mk (below_step (hb0 HB) hb); clear HB; have HO345 := n0_; have HB := n1_; clear n0_ n1_; (try clear hb); (try clear hb2); (try clear hk); (try clear hi); (try clear ho0)) | ((with_reducible refine gate_dst (N := 5) rfl ?_); (try (refine gate_guard (by rfl) ?_; dsimp only)); refine box_event ?hg (N := 5) ?hd (cs := #[.int .i64 0, .int .i64 0, .slice none 0 0]) (t := 24) ?hr ?_; (case hd => rfl); (case hg => rfl); (case hr => first | (go_simp; done) | (go_simp; rfl)); intro gb347 hg w80 hbox hb; have n0_ := Aside0.mk (Kd.R_below (rkx HO345) hb); have n1_ := Aside0.mk (below_step (hb0 HB) hb); have n2_ := Aside0.mk (hbox); have n3_ := Aside0.mk ((by rw [hg]; exact (below_size (hb0 HB)) : w.heap.size ≤ gb347)); have n4_ := Aside0.mk ((by rw [hg]; exact (below_size (hb0 HB)) : w.heap.size ≤ gb347)); clear HO345; clear HB; have HO345 := n0_; have HB := n1_; have BK347 := n2_; have GW347 := n3_; have GE347 := n4_; clear n0_ n1_ n2_ n3_ n4_; clear hb hbox hg; have hcz81_0 : w80.cell? ⟨gb347, 0, none⟩ = some (.int .i64 0) := (blk_cell BK347.out 0).trans rfl; have hcz81_1 : w80.cell? ⟨gb347, 1, none⟩ = some (.int .i64 0) := (blk_cell BK347.out 1).trans rfl; have hcz81_2 : w80.cell? ⟨gb347, 2, none⟩ = some (.slice none 0 0) := (blk_cell BK347.out 2).trans rfl; have hfz81_0 := blk_frozen BK347.out 0; have hfz81_1 := blk_frozen BK347.out 1; have hfz81_2 := blk_frozen BK347.out 2; obtain ⟨Ao82, co82, eo82⟩ := Kd.R_slice HO345.out; subst eo82) | ((with_reducible refine gate_callee (f := 13) rfl ?_); refine goesL_ (some 44) rfl rfl Try.func13 (by kernel_rfl) rfl #[.string a0, .int .i64 a1] rfl mapx ?_; (with_reducible refine (barscanref47_Draw.calls k a0 a1 t348 t349 t350 t353 _ A70.out).mono ?_); rintro e w83 ⟨v351, rfl, ho0, hb⟩; refine ⟨_, rfl, ?_⟩; have n0_ := Aside0.mk (Kd.R_elder' (by refine rkt ?_; exact (far3 HO345 BK347)) (Kd.R_base ho0) hb); have n1_ := Aside0.mk (Kd.R_lower (Kd.R_new' ho0 (Kd.R_lt (by refine rkt ?_; exact (far3 HO345 BK347)))) (below_size (hb1 HB GE347))); have n2_ := Aside0.mk (blk_below (g := gb347) (o := .cells #[.int .i64 t341, .int .i64 t342, .slice Ao82 t343.length co82] 24 (0, 0)) (by refine bkt ?_; refine blk_put (cs := #[.int .i64 t341, .int .i64 t342, .slice none 0 0]) ?_ 2 _ rfl; refine bkt ?_; refine blk_put (cs := #[.int .i64 t341, .int .i64 0, .slice none 0 0]) ?_ 1 _ rfl; refine bkt ?_; refine blk_put (cs := #[.int .i64 0, .int .i64 0, .slice none 0 0]) ?_ 0 _ rfl; refine bkt ?_; exact BK347.out) hb); have n3_ := Aside0.mk (below_step (hb1 HB GE347) hb); clear HO345; clear BK347; clear HB; have HO345 := n0_; have HO352 := n1_; have BK347 := n2_; have HB := n3_; clear n0_ n1_ n2_ n3_; (try clear hb); (try clear hb2); (try clear hk); (try clear hi); (try clear ho0)) | ((with_reducible refine gate_dst (N := 7) rfl ?_); (try (refine gate_guard (by rfl) ?_; dsimp only)); refine box_event ?hg (N := 7) ?hd (cs := #[.int .i64 0, .int .i64 0, .slice none 0 0]) (t := 24) ?hr ?_; (case hd => rfl); (case hg => rfl); (case hr => first | (go_simp; done) | (go_simp; rfl)); intro gb354 hg w84 hbox hb; have n0_ := Aside0.mk (Kd.R_below (rkx HO345) hb); have n1_ := Aside0.mk (Kd.R_below (rkx HO352) hb); have n2_ := Aside0.mk (blk_below (bkx BK347) hb); have n3_ := Aside0.mk (below_step (hb1 HB GE347) hb); have n4_ := Aside0.mk (hbox); have n5_ := Aside0.mk ((by rw [hg]; exact (below_size (hb1 HB GE347)) : w.heap.size ≤ gb354)); have n6_ := Aside0.mk ((by rw [hg]; exact (below_size (hb1 HB GE347)) : w.heap.size ≤ gb354)); have n7_ := Aside0.mk (nel hg BK347 : gb347 ≠ gb354); have n8_ := Aside0.mk (neg hg BK347 : gb354 ≠ gb347); clear HO345; clear HO352; clear BK347; clear HB; have HO345 := n0_; have HO352 := n1_; have BK347 := n2_; have HB := n3_; have BK354 := n4_; have GW354 := n5_; have GE354 := n6_; have NB347_354 := n7_; have NB354_347 := n8_; clear n0_ n1_ n2_ n3_ n4_ n5_ n6_ n7_ n8_; clear hb hbox hg; have hnb85 := NB354_347.out; have hnc85 := NB347_354.out; have hcz86_0 : w84.cell? ⟨gb354, 0, none⟩ = some (.int .i64 0) := (blk_cell BK354.out 0).trans rfl; have hcz86_1 : w84.cell? ⟨gb354, 1, none⟩ = some (.int .i64 0) := (blk_cell BK354.out 1).trans rfl; have hcz86_2 : w84.cell? ⟨gb354, 2, none⟩ = some (.slice none 0 0) := (blk_cell BK354.out 2).trans rfl; have hfz86_0 := blk_frozen BK354.out 0; have hfz86_1 := blk_frozen BK354.out 1; have hfz86_2 := blk_frozen BK354.out 2; obtain ⟨Ao87, co87, eo87⟩ := Kd.R_slice HO352.out; subst eo87) | ((with_reducible refine gate_callee (f := 14) rfl ?_); refine goesL_ (some 50) rfl rfl Try.func14 (by kernel_rfl) rfl #[.string a0, .int .i64 a1] rfl mapx ?_; (with_reducible refine (font_Width.calls k a0 a1 t355 t356 _ A71.out).mono ?_); rintro e w88 ⟨rfl, hb⟩; refine ⟨_, rfl, ?_⟩; have n0_ := Aside0.mk (Kd.R_below (by refine rkt ?_; exact (far3 HO345 BK354)) hb); have n1_ := Aside0.mk (Kd.R_below (by refine rkt ?_; exact (far3 HO352 BK354)) hb); have n2_ := Aside0.mk (blk_below (g := gb347) (o := .cells #[.int .i64 t341, .int .i64 t342, .slice Ao82 t343.length co82] 24 (0, 0)) (bky BK347 NB347_354) hb); have n3_ := Aside0.mk (blk_below (g := gb354) (o := .cells #[.int .i64 t348, .int .i64 t349, .slice Ao87 t350.length co87] 24 (0, 0)) (by refine bkt ?_; refine blk_put (cs := #[.int .i64 t348, .int .i64 t349, .slice none 0 0]) ?_ 2 _ rfl; refine bkt ?_; refine blk_put (cs := #[.int .i64 t348, .int .i64 0, .slice none 0 0]) ?_ 1 _ rfl; refine bkt ?_; refine blk_put (cs := #[.int .i64 0, .int .i64 0, .slice none 0 0]) ?_ 0 _ rfl; refine bkt ?_; exact BK354.out) hb); have n4_ := Aside0.mk (below_step (hb2 HB GE347 GE354) hb); clear HO345; clear HO352; clear BK347; clear BK354; clear HB; have HO345 := n0_; have HO352 := n1_; have BK347 := n2_; have BK354 := n3_; have HB := n4_; clear n0_ n1_ n2_ n3_ n4_; (try clear hb); (try clear hb2); (try clear hk); (try clear hi)) | ((with_reducible refine gate_callee (f := 15) rfl ?_); refine goesL_ (some 56) rfl rfl Try.func15 (by kernel_rfl) rfl #[.string a0, .int .i64 a1] rfl mapx ?_; (with_reducible refine (barscanref47_Width.calls k a0 a1 t357 t358 _ A72.out).mono ?_); rintro e w' ⟨rfl, ⟨nd, rfl⟩⟩; refine ⟨_, rfl, ?_⟩; have hcz89_0 : w88.cell? ⟨gb347, 0, none⟩ = some (.int .i64 t341) := (blk_cell BK347.out 0).trans rfl; have hcz89_1 : w88.cell? ⟨gb347, 1, none⟩ = some (.int .i64 t342) := (blk_cell BK347.out 1).trans rfl; have hcz89_2 : w88.cell? ⟨gb347, 2, none⟩ = some (.slice Ao82 t343.length co82) := (blk_cell BK347.out 2).trans rfl; have hfz89_0 := blk_frozen BK347.out 0; have hfz89_1 := blk_frozen BK347.out 1; have hfz89_2 := blk_frozen BK347.out 2; have hcz90_0 : w88.cell? ⟨gb354, 0, none⟩ = some (.int .i64 t348) := (blk_cell BK354.out 0).trans rfl; have hcz90_1 : w88.cell? ⟨gb354, 1, none⟩ = some (.int .i64 t349) := (blk_cell BK354.out 1).trans rfl; have hcz90_2 : w88.cell? ⟨gb354, 2, none⟩ = some (.slice Ao87 t350.length co87) := (blk_cell BK354.out 2).trans rfl; have hfz90_0 := blk_frozen BK354.out 0; have hfz90_1 := blk_frozen BK354.out 1; have hfz90_2 := blk_frozen BK354.out 2) | ((with_reducible refine gate_callee (f := 16) rfl ?_); refine goesL_ (some 61) rfl rfl Try.func16 (by kernel_rfl) rfl #[.agg #[.int .i64 t341, .int .i64 t342, .slice Ao82 t343.length co82], .agg #[.int .i64 t348, .int .i64 t349, .slice Ao87 t350.length co87]] rfl mapx ?_; (with_reducible refine (barscanlaw47_same.calls k t341 t342 _ _ t343 t348 t349 _ _ t350 true _ ?side1 ?side2 ?side3 ?side4 A73.out).mono ?_); (case side1 => repeat (first | exact (Kd.R_reads' HO345.out).2.2 | (with_reducible refine Kd.C_alloc ?_ _) | (with_reducible refine Kd.C_drewN ?_ _) | (with_reducible refine Kd.C_drew ?_))); (case side2 => exact (Kd.R_reads' HO345.out).2.1); (case side3 => repeat (first | exact (Kd.R_reads' HO352.out).2.2 | (with_reducible refine Kd.C_alloc ?_ _) | (with_reducible refine Kd.C_drewN ?_ _) | (with_reducible refine Kd.C_drew ?_))); (case side4 => exact (Kd.R_reads' HO352.out).2.1); rintro e w91 ⟨rfl, hb⟩; refine ⟨_, rfl, ?_⟩; have n0_ := Aside0.mk (Kd.R_below (rkx HO345) hb); have n1_ := Aside0.mk (Kd.R_below (rkx HO352) hb); have n2_ := Aside0.mk (blk_below (bkx BK347) hb); have n3_ := Aside0.mk (blk_below (bkx BK354) hb); have n4_ := Aside0.mk (below_step (hb2 HB GE347 GE354) hb); clear HO345; clear HO352; clear BK347; clear BK354; clear HB; have HO345 := n0_; have HO352 := n1_; have BK347 := n2_; have BK354 := n3_; have HB := n4_; clear n0_ n1_ n2_ n3_ n4_; (try clear hb); (try clear hb2); (try clear hk); (try clear hi)) | (go_at_call 9; (with_reducible refine (barscanlaw47_examples.calls k  t360 _ A78.out).mono ?_); rintro e w92 ⟨rfl, hb⟩; have n0_ := Aside0.mk (Kd.R_below (rkx HO345) hb); have n1_ := Aside0.mk (Kd.R_below (rkx HO352) hb); have n2_ := Aside0.mk (blk_below (bkx BK347) hb); have n3_ := Aside0.mk (blk_below (bkx BK354) hb); have n4_ := Aside0.mk (below_step (hb2 HB GE347 GE354) hb); clear HO345; clear HO352; clear BK347; clear BK354; clear HB; have HO345 := n0_; have HO352 := n1_; have BK347 := n2_; have BK354 := n3_; have HB := n4_; clear n0_ n1_ n2_ n3_ n4_; (try clear hb); (try clear hb2); (try clear hk); (try clear hi)))
                  go_ret
                  exact ⟨by first | rfl | (simp [errW_none, errW_some] <;> rfl) | (simp [*, errW_none, errW_some] <;> rfl), by repeat (first | (with_reducible first | exact HB.out | apply below_alloc | apply pw_below_drewN | apply below_drew1 | refine below_set ?_ GE347.out | refine below_set ?_ GE354.out) | exact HB.out)⟩
                · rw [if_neg c77] at H
                  exact absurd H (by simp)
              · rw [if_neg c76] at H
                exact absurd H (by simp)
            · rw [if_neg c75] at H
              exact absurd H (by simp)
          · replace c74 := Bool.eq_false_iff.mpr c74
            subst c74
            have H1 : (none) = some r := by rw [if_neg (show ¬ (false = true) by decide)] at H; exact H
            clear H
            have H := H1
            clear H1
            exact absurd H (by simp)
      · rw [if_neg c65] at H
        have c65b0 : decide (8 < a1) = false := decide_eq_false c65
        clear c65
        replace H := Option.bind_eq_some_iff.mp H
        obtain ⟨⟨t361, t362, t363, t366⟩, A930, H⟩ := H
        replace H : ((barscanref47_Draw.f k a0 a1).bind fun bt368 => ((font_Width.f k a0 a1).bind fun bt375 => ((barscanref47_Width.f k a0 a1).bind fun bt377 => ((barscanlaw47_same.f k t361 t362 t363 bt368.1 bt368.2.1 bt368.2.2.1).bind fun t379 => (if t379 = true then (if t366 = bt368.2.2.2 then (if bt375.1 = bt377.1 then (if bt375.2 = bt377.2 then ((barscanlaw47_examples.f k).bind fun t380 => (some t380)) else (none)) else (none)) else (none)) else (none)))))) = some r := H
        have A93 := Aside0.mk A930
        clear A930
        replace H := Option.bind_eq_some_iff.mp H
        obtain ⟨⟨t368, t369, t370, t373⟩, A940, H⟩ := H
        replace H : ((font_Width.f k a0 a1).bind fun bt375 => ((barscanref47_Width.f k a0 a1).bind fun bt377 => ((barscanlaw47_same.f k t361 t362 t363 t368 t369 t370).bind fun t379 => (if t379 = true then (if t366 = t373 then (if bt375.1 = bt377.1 then (if bt375.2 = bt377.2 then ((barscanlaw47_examples.f k).bind fun t380 => (some t380)) else (none)) else (none)) else (none)) else (none))))) = some r := H
        have A94 := Aside0.mk A940
        clear A940
        replace H := Option.bind_eq_some_iff.mp H
        obtain ⟨⟨t375, t376⟩, A950, H⟩ := H
        replace H : ((barscanref47_Width.f k a0 a1).bind fun bt377 => ((barscanlaw47_same.f k t361 t362 t363 t368 t369 t370).bind fun t379 => (if t379 = true then (if t366 = t373 then (if t375 = bt377.1 then (if t376 = bt377.2 then ((barscanlaw47_examples.f k).bind fun t380 => (some t380)) else (none)) else (none)) else (none)) else (none)))) = some r := H
        have A95 := Aside0.mk A950
        clear A950
        replace H := Option.bind_eq_some_iff.mp H
        obtain ⟨⟨t377, t378⟩, A960, H⟩ := H
        replace H : ((barscanlaw47_same.f k t361 t362 t363 t368 t369 t370).bind fun t379 => (if t379 = true then (if t366 = t373 then (if t375 = t377 then (if t376 = t378 then ((barscanlaw47_examples.f k).bind fun t380 => (some t380)) else (none)) else (none)) else (none)) else (none))) = some r := H
        have A96 := Aside0.mk A960
        clear A960
        replace H := Option.bind_eq_some_iff.mp H
        obtain ⟨t379, A970, H⟩ := H
        replace H : (if t379 = true then (if t366 = t373 then (if t375 = t377 then (if t376 = t378 then ((barscanlaw47_examples.f k).bind fun t380 => (some t380)) else (none)) else (none)) else (none)) else (none)) = some r := H
        have A97 := Aside0.mk A970
        clear A970
        by_cases c98 : t379 = true
        · subst c98
          have H1 : (if t366 = t373 then (if t375 = t377 then (if t376 = t378 then ((barscanlaw47_examples.f k).bind fun t380 => (some t380)) else (none)) else (none)) else (none)) = some r := by rw [if_pos rfl] at H; exact H
          clear H
          have H := H1
          clear H1
          by_cases c99 : t366 = t373
          · rw [if_pos c99] at H
            have c99b0 : (t366 == t373) = true := beq_iff_eq.mpr c99
            have c99b1 : (t366 != t373) = false := bne_eq_false_iff_eq.mpr c99
            clear c99
            by_cases c100 : t375 = t377
            · rw [if_pos c100] at H
              have c100b0 : (t375 == t377) = true := beq_iff_eq.mpr c100
              have c100b1 : (t375 != t377) = false := bne_eq_false_iff_eq.mpr c100
              clear c100
              by_cases c101 : t376 = t378
              · rw [if_pos c101] at H
                have c101b0 : (t376 == t378) = true := beq_iff_eq.mpr c101
                have c101b1 : (t376 != t378) = false := bne_eq_false_iff_eq.mpr c101
                clear c101
                replace H := Option.bind_eq_some_iff.mp H
                obtain ⟨t380, A1020, H⟩ := H
                replace H : (some t380) = some r := H
                have A102 := Aside0.mk A1020
                clear A1020
                obtain rfl := Option.some.inj H
                go_enter Try.func4, Try.ntmps4
                go_wp2_with (first | ((with_reducible refine gate_callee (f := 12) rfl ?_); refine goesL_ (some 38) rfl rfl Try.func12 (by kernel_rfl) rfl #[.string a0, .int .i64 a1] rfl mapx ?_; (with_reducible refine (font_Draw.calls k a0 a1 t361 t362 t363 t366 _ A93.out).mono ?_); rintro e w103 ⟨v364, rfl, ho0, hb⟩; refine ⟨_, rfl, ?_⟩; have n0_ := Aside0.mk (Kd.R_lower ho0 (below_size (hb0 HB))); have n1_ := Aside0.mk (below_step (hb0 HB) hb); clear HB; have HO365 := n0_; have HB := n1_; clear n0_ n1_; (try clear hb); (try clear hb2); (try clear hk); (try clear hi); (try clear ho0)) | ((with_reducible refine gate_dst (N := 5) rfl ?_); (try (refine gate_guard (by rfl) ?_; dsimp only)); refine box_event ?hg (N := 5) ?hd (cs := #[.int .i64 0, .int .i64 0, .slice none 0 0]) (t := 24) ?hr ?_; (case hd => rfl); (case hg => rfl); (case hr => first | (go_simp; done) | (go_simp; rfl)); intro gb367 hg w104 hbox hb; have n0_ := Aside0.mk (Kd.R_below (rkx HO365) hb); have n1_ := Aside0.mk (below_step (hb0 HB) hb); have n2_ := Aside0.mk (hbox); have n3_ := Aside0.mk ((by rw [hg]; exact (below_size (hb0 HB)) : w.heap.size ≤ gb367)); have n4_ := Aside0.mk ((by rw [hg]; exact (below_size (hb0 HB)) : w.heap.size ≤ gb367)); clear HO365; clear HB; have HO365 := n0_; have HB := n1_; have BK367 := n2_; have GW367 := n3_; have GE367 := n4_; clear n0_ n1_ n2_ n3_ n4_; clear hb hbox hg; have hcz105_0 : w104.cell? ⟨gb367, 0, none⟩ = some (.int .i64 0) := (blk_cell BK367.out 0).trans rfl; have hcz105_1 : w104.cell? ⟨gb367, 1, none⟩ = some (.int .i64 0) := (blk_cell BK367.out 1).trans rfl; have hcz105_2 : w104.cell? ⟨gb367, 2, none⟩ = some (.slice none 0 0) := (blk_cell BK367.out 2).trans rfl; have hfz105_0 := blk_frozen BK367.out 0; have hfz105_1 := blk_frozen BK367.out 1; have hfz105_2 := blk_frozen BK367.out 2; obtain ⟨Ao106, co106, eo106⟩ := Kd.R_slice HO365.out; subst eo106) | ((with_reducible refine gate_callee (f := 13) rfl ?_); refine goesL_ (some 44) rfl rfl Try.func13 (by kernel_rfl) rfl #[.string a0, .int .i64 a1] rfl mapx ?_; (with_reducible refine (barscanref47_Draw.calls k a0 a1 t368 t369 t370 t373 _ A94.out).mono ?_); rintro e w107 ⟨v371, rfl, ho0, hb⟩; refine ⟨_, rfl, ?_⟩; have n0_ := Aside0.mk (Kd.R_elder' (by refine rkt ?_; exact (far3 HO365 BK367)) (Kd.R_base ho0) hb); have n1_ := Aside0.mk (Kd.R_lower (Kd.R_new' ho0 (Kd.R_lt (by refine rkt ?_; exact (far3 HO365 BK367)))) (below_size (hb1 HB GE367))); have n2_ := Aside0.mk (blk_below (g := gb367) (o := .cells #[.int .i64 t361, .int .i64 t362, .slice Ao106 t363.length co106] 24 (0, 0)) (by refine bkt ?_; refine blk_put (cs := #[.int .i64 t361, .int .i64 t362, .slice none 0 0]) ?_ 2 _ rfl; refine bkt ?_; refine blk_put (cs := #[.int .i64 t361, .int .i64 0, .slice none 0 0]) ?_ 1 _ rfl; refine bkt ?_; refine blk_put (cs := #[.int .i64 0, .int .i64 0, .slice none 0 0]) ?_ 0 _ rfl; refine bkt ?_; exact BK367.out) hb); have n3_ := Aside0.mk (below_step (hb1 HB GE367) hb); clear HO365; clear BK367; clear HB; have HO365 := n0_; have HO372 := n1_; have BK367 := n2_; have HB := n3_; clear n0_ n1_ n2_ n3_; (try clear hb); (try clear hb2); (try clear hk); (try clear hi); (try clear ho0)) | ((with_reducible refine gate_dst (N := 7) rfl ?_); (try (refine gate_guard (by rfl) ?_; dsimp only)); refine box_event ?hg (N := 7) ?hd (cs := #[.int .i64 0, .int .i64 0, .slice none 0 0]) (t := 24) ?hr ?_; (case hd => rfl); (case hg => rfl); (case hr => first | (go_simp; done) | (go_simp; rfl)); intro gb374 hg w108 hbox hb; have n0_ := Aside0.mk (Kd.R_below (rkx HO365) hb); have n1_ := Aside0.mk (Kd.R_below (rkx HO372) hb); have n2_ := Aside0.mk (blk_below (bkx BK367) hb); have n3_ := Aside0.mk (below_step (hb1 HB GE367) hb); have n4_ := Aside0.mk (hbox); have n5_ := Aside0.mk ((by rw [hg]; exact (below_size (hb1 HB GE367)) : w.heap.size ≤ gb374)); have n6_ := Aside0.mk ((by rw [hg]; exact (below_size (hb1 HB GE367)) : w.heap.size ≤ gb374)); have n7_ := Aside0.mk (nel hg BK367 : gb367 ≠ gb374); have n8_ := Aside0.mk (neg hg BK367 : gb374 ≠ gb367); clear HO365; clear HO372; clear BK367; clear HB; have HO365 := n0_; have HO372 := n1_; have BK367 := n2_; have HB := n3_; have BK374 := n4_; have GW374 := n5_; have GE374 := n6_; have NB367_374 := n7_; have NB374_367 := n8_; clear n0_ n1_ n2_ n3_ n4_ n5_ n6_ n7_ n8_; clear hb hbox hg; have hnb109 := NB374_367.out; have hnc109 := NB367_374.out; have hcz110_0 : w108.cell? ⟨gb374, 0, none⟩ = some (.int .i64 0) := (blk_cell BK374.out 0).trans rfl; have hcz110_1 : w108.cell? ⟨gb374, 1, none⟩ = some (.int .i64 0) := (blk_cell BK374.out 1).trans rfl; have hcz110_2 : w108.cell? ⟨gb374, 2, none⟩ = some (.slice none 0 0) := (blk_cell BK374.out 2).trans rfl; have hfz110_0 := blk_frozen BK374.out 0; have hfz110_1 := blk_frozen BK374.out 1; have hfz110_2 := blk_frozen BK374.out 2; obtain ⟨Ao111, co111, eo111⟩ := Kd.R_slice HO372.out; subst eo111) | ((with_reducible refine gate_callee (f := 14) rfl ?_); refine goesL_ (some 50) rfl rfl Try.func14 (by kernel_rfl) rfl #[.string a0, .int .i64 a1] rfl mapx ?_; (with_reducible refine (font_Width.calls k a0 a1 t375 t376 _ A95.out).mono ?_); rintro e w112 ⟨rfl, hb⟩; refine ⟨_, rfl, ?_⟩; have n0_ := Aside0.mk (Kd.R_below (by refine rkt ?_; exact (far3 HO365 BK374)) hb); have n1_ := Aside0.mk (Kd.R_below (by refine rkt ?_; exact (far3 HO372 BK374)) hb); have n2_ := Aside0.mk (blk_below (g := gb367) (o := .cells #[.int .i64 t361, .int .i64 t362, .slice Ao106 t363.length co106] 24 (0, 0)) (bky BK367 NB367_374) hb); have n3_ := Aside0.mk (blk_below (g := gb374) (o := .cells #[.int .i64 t368, .int .i64 t369, .slice Ao111 t370.length co111] 24 (0, 0)) (by refine bkt ?_; refine blk_put (cs := #[.int .i64 t368, .int .i64 t369, .slice none 0 0]) ?_ 2 _ rfl; refine bkt ?_; refine blk_put (cs := #[.int .i64 t368, .int .i64 0, .slice none 0 0]) ?_ 1 _ rfl; refine bkt ?_; refine blk_put (cs := #[.int .i64 0, .int .i64 0, .slice none 0 0]) ?_ 0 _ rfl; refine bkt ?_; exact BK374.out) hb); have n4_ := Aside0.mk (below_step (hb2 HB GE367 GE374) hb); clear HO365; clear HO372; clear BK367; clear BK374; clear HB; have HO365 := n0_; have HO372 := n1_; have BK367 := n2_; have BK374 := n3_; have HB := n4_; clear n0_ n1_ n2_ n3_ n4_; (try clear hb); (try clear hb2); (try clear hk); (try clear hi)) | ((with_reducible refine gate_callee (f := 15) rfl ?_); refine goesL_ (some 56) rfl rfl Try.func15 (by kernel_rfl) rfl #[.string a0, .int .i64 a1] rfl mapx ?_; (with_reducible refine (barscanref47_Width.calls k a0 a1 t377 t378 _ A96.out).mono ?_); rintro e w' ⟨rfl, ⟨nd, rfl⟩⟩; refine ⟨_, rfl, ?_⟩; have hcz113_0 : w112.cell? ⟨gb367, 0, none⟩ = some (.int .i64 t361) := (blk_cell BK367.out 0).trans rfl; have hcz113_1 : w112.cell? ⟨gb367, 1, none⟩ = some (.int .i64 t362) := (blk_cell BK367.out 1).trans rfl; have hcz113_2 : w112.cell? ⟨gb367, 2, none⟩ = some (.slice Ao106 t363.length co106) := (blk_cell BK367.out 2).trans rfl; have hfz113_0 := blk_frozen BK367.out 0; have hfz113_1 := blk_frozen BK367.out 1; have hfz113_2 := blk_frozen BK367.out 2; have hcz114_0 : w112.cell? ⟨gb374, 0, none⟩ = some (.int .i64 t368) := (blk_cell BK374.out 0).trans rfl; have hcz114_1 : w112.cell? ⟨gb374, 1, none⟩ = some (.int .i64 t369) := (blk_cell BK374.out 1).trans rfl; have hcz114_2 : w112.cell? ⟨gb374, 2, none⟩ = some (.slice Ao111 t370.length co111) := (blk_cell BK374.out 2).trans rfl; have hfz114_0 := blk_frozen BK374.out 0; have hfz114_1 := blk_frozen BK374.out 1; have hfz114_2 := blk_frozen BK374.out 2) | ((with_reducible refine gate_callee (f := 16) rfl ?_); refine goesL_ (some 61) rfl rfl Try.func16 (by kernel_rfl) rfl #[.agg #[.int .i64 t361, .int .i64 t362, .slice Ao106 t363.length co106], .agg #[.int .i64 t368, .int .i64 t369, .slice Ao111 t370.length co111]] rfl mapx ?_; (with_reducible refine (barscanlaw47_same.calls k t361 t362 _ _ t363 t368 t369 _ _ t370 true _ ?side1 ?side2 ?side3 ?side4 A97.out).mono ?_); (case side1 => repeat (first | exact (Kd.R_reads' HO365.out).2.2 | (with_reducible refine Kd.C_alloc ?_ _) | (with_reducible refine Kd.C_drewN ?_ _) | (with_reducible refine Kd.C_drew ?_))); (case side2 => exact (Kd.R_reads' HO365.out).2.1); (case side3 => repeat (first | exact (Kd.R_reads' HO372.out).2.2 | (with_reducible refine Kd.C_alloc ?_ _) | (with_reducible refine Kd.C_drewN ?_ _) | (with_reducible refine Kd.C_drew ?_))); (case side4 => exact (Kd.R_reads' HO372.out).2.1); rintro e w115 ⟨rfl, hb⟩; refine ⟨_, rfl, ?_⟩; have n0_ := Aside0.mk (Kd.R_below (rkx HO365) hb); have n1_ := Aside0.mk (Kd.R_below (rkx HO372) hb); have n2_ := Aside0.mk (blk_below (bkx BK367) hb); have n3_ := Aside0.mk (blk_below (bkx BK374) hb); have n4_ := Aside0.mk (below_step (hb2 HB GE367 GE374) hb); clear HO365; clear HO372; clear BK367; clear BK374; clear HB; have HO365 := n0_; have HO372 := n1_; have BK367 := n2_; have BK374 := n3_; have HB := n4_; clear n0_ n1_ n2_ n3_ n4_; (try clear hb); (try clear hb2); (try clear hk); (try clear hi)) | (go_at_call 9; (with_reducible refine (barscanlaw47_examples.calls k  t380 _ A102.out).mono ?_); rintro e w116 ⟨rfl, hb⟩; have n0_ := Aside0.mk (Kd.R_below (rkx HO365) hb); have n1_ := Aside0.mk (Kd.R_below (rkx HO372) hb); have n2_ := Aside0.mk (blk_below (bkx BK367) hb); have n3_ := Aside0.mk (blk_below (bkx BK374) hb); have n4_ := Aside0.mk (below_step (hb2 HB GE367 GE374) hb); clear HO365; clear HO372; clear BK367; clear BK374; clear HB; have HO365 := n0_; have HO372 := n1_; have BK367 := n2_; have BK374 := n3_; have HB := n4_; clear n0_ n1_ n2_ n3_ n4_; (try clear hb); (try clear hb2); (try clear hk); (try clear hi)))
                go_ret
                exact ⟨by first | rfl | (simp [errW_none, errW_some] <;> rfl) | (simp [*, errW_none, errW_some] <;> rfl), by repeat (first | (with_reducible first | exact HB.out | apply below_alloc | apply pw_below_drewN | apply below_drew1 | refine below_set ?_ GE367.out | refine below_set ?_ GE374.out) | exact HB.out)⟩
              · rw [if_neg c101] at H
                exact absurd H (by simp)
            · rw [if_neg c100] at H
              exact absurd H (by simp)
          · rw [if_neg c99] at H
            exact absurd H (by simp)
        · replace c98 := Bool.eq_false_iff.mpr c98
          subst c98
          have H1 : (none) = some r := by rw [if_neg (show ¬ (false = true) by decide)] at H; exact H
          clear H
          have H := H1
          clear H1
          exact absurd H (by simp)

/-- THE ONE PURE STATEMENT of barscanlaw47_FontDraws: yours. -/
def barscanlaw47_FontDraws.Pure : Prop := ∀ (a0 : ByteArray) (a1 : Int), a0.size ≤ 140737488351232 → (Lit.int .i64 a1).wf = true → ∃ k, barscanlaw47_FontDraws.f k a0 a1 = some true
theorem barscanlaw47_FontDraws.walk (P : barscanlaw47_FontDraws.Pure) (a0 : ByteArray) (a1 : Int) (w : World) (w0 : a0.size ≤ 140737488351232) (w1 : (Lit.int .i64 a1).wf = true) :
    Calls Try.prog 4 #[.string a0, .int .i64 a1] w fun e w' => e = .returned (.bool true) ∧ Below w.heap.size w w' := by
  obtain ⟨k, h⟩ := P a0 a1 w0 w1
  refine (barscanlaw47_FontDraws.calls k a0 a1 true w h).mono ?_
  rintro e w' ⟨rfl, hd⟩
  exact ⟨rfl, hd⟩

end Go.Proofs.Ytghfcdgdbdeomaa.PR
