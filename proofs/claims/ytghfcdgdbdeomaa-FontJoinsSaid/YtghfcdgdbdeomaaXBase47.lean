/-
The bytes of the font: what the search for a glyph answers for each byte. Conditions: as each theorem says.
-/
import Derived.Test.YtghfcdgdbdeomaaPRx2
import Derived.Test.YtghfcdgdbdeomaaPRx1
import Derived.Test.YtghfcdgdbdeomaaXPure
import Derived.Test.YtghfcdgdbdeomaaXIter
import Derived.Laws.RangeAny
namespace Go.Proofs.Ytghfcdgdbdeomaa.Pure
set_option linter.unusedVariables false
set_option linter.unusedSimpArgs false
open Go.RowKit Go.Proofs.Ytghfcdgdbdeomaa.PR Go.Proofs.YtghfcdgdbdeomaaW.PrintWords Go.Proofs.YtghfcdgdbdeomaaW.PrintLast Go.Proofs.YtghfcdgdbdeomaaW.PrintMore Go.Proofs.Ytghfcdgdbdeomaa.XWords Go.Proofs.Ytghfcdgdbdeomaa.XPure

/-! ### Bytes -/
/-- What the search answers for a byte. -/
def fnd (c : Int) : Int × ByteArray × Bool := (font_find.f 200 c).getD (0, ⟨#[]⟩, false)
/-- The font has this byte. -/
def ok (c : Int) : Bool := (fnd c).2.2
/-- A pixel of its glyph. -/
def dot (c : Int) (j : Nat) : Bool := bt (fnd c).2.1 j == 49
def dots (c : Int) : List Bool := (List.range 35).map (dot c)
/-- What Glyph answers. -/
def gl (c : Int) : Int × Int × List Bool × Int := if ok c = true then (5, 7, dots c, 0) else (0, 0, [], 6)
theorem of_all {p : Nat → Bool} {n : Nat} (h : (List.range n).all p = true) {c : Int} (h0 : 0 ≤ c) (h1 : c < n) : p c.toNat = true := (List.all_eq_true.1 h) c.toNat (List.mem_range.2 (by omega))
theorem back {c : Int} (h0 : 0 ≤ c) : ((c.toNat : Nat) : Int) = c := by omega
theorem k_find : ((List.range 256).all fun a : Nat => (font_find.f 200 a).isSome) = true := by decide +kernel
theorem k_size : ((List.range 256).all fun a : Nat => !ok a || decide ((fnd a).2.1.size = 35) && decide (a < 128) && (List.range 35).all fun j : Nat => bt (fnd a).2.1 j == 48 || bt (fnd a).2.1 j == 49) = true := by decide +kernel
theorem k_glyph : ((List.range 256).all fun a : Nat => font_Glyph.f 200 a == some (gl a)) = true := by decide +kernel
def Byte (c : Int) : Prop := 0 ≤ c ∧ c ≤ 255
theorem find_ev {c : Int} (h : Byte c) : Ev (fun k => font_find.f k c) (fnd c) := by
  refine Ev.of (g := fun k => font_find.f k c) (font_find.mono c) (k := 200) ?_
  have := of_all k_find h.1 (by have := h.2; omega)
  simp only [back h.1] at this
  unfold fnd
  obtain ⟨x, hx⟩ := Option.isSome_iff_exists.1 this
  simp only [hx, Option.getD_some]
theorem glyph_ev {c : Int} (h : Byte c) : Ev (fun k => font_Glyph.f k c) (gl c) := by
  refine Ev.of (g := fun k => font_Glyph.f k c) (font_Glyph.mono c) (k := 200) ?_
  have := of_all k_glyph h.1 (by have := h.2; omega)
  simp only [back h.1] at this
  exact eq_of_beq this
theorem ok_size {c : Int} (h : Byte c) (ho : ok c = true) : (fnd c).2.1.size = 35 ∧ c < 128 ∧ ∀ j : Nat, j < 35 → bt (fnd c).2.1 j = 48 ∨ bt (fnd c).2.1 j = 49 := by
  have := of_all k_size h.1 (by have := h.2; omega)
  simp only [back h.1, ho, Bool.not_true, Bool.false_or, Bool.and_eq_true, decide_eq_true_eq, List.all_eq_true, List.mem_range, Bool.or_eq_true, beq_iff_eq] at this
  exact ⟨this.1.1, by have := this.1.2; have := h.1; omega, this.2⟩
theorem dots_length (c : Int) : (dots c).length = 35 := by simp [dots]
theorem dots_get (c : Int) {j : Nat} (h : j < 35) : (dots c).getD j false = dot c j := by
  unfold dots
  rw [List.getD_eq_getElem?_getD, List.getElem?_map, List.getElem?_range h]
  rfl
/-- A byte read out of a string. -/
theorem bt_byte (s : ByteArray) (i : Int) : Byte (bt s i) := by
  unfold bt Byte
  split
  · rename_i h
    have := (s[i.toNat]'h).toNat_lt
    omega
  · omega
theorem step_low {s : ByteArray} {i : Int} (h0 : 0 ≤ i) (h1 : i < s.size) (hb : bt s i < 128) : XIter.nx s i = i + 1 ∧ XIter.rn s i = bt s i := by
  have hi : i.toNat < s.size := by omega
  have e : bt s i = ((s[i.toNat]'hi).toNat : Int) := by unfold bt; rw [dif_pos hi]
  have d := decode_ascii s i.toNat hi (by rw [e] at hb; omega)
  unfold XIter.nx XIter.rn
  rw [d, e]
  exact ⟨rfl, rfl⟩
theorem step_high {s : ByteArray} {i : Int} (h0 : 0 ≤ i) (h1 : i < s.size) (hb : ¬ bt s i < 128) : 128 ≤ XIter.rn s i := by
  have hi : i.toNat < s.size := by omega
  have e : bt s i = ((s[i.toNat]'hi).toNat : Int) := by unfold bt; rw [dif_pos hi]
  have d := decode_high s i.toNat hi (by rw [e] at hb; omega)
  unfold XIter.rn
  omega
theorem toList_nil (s : ByteArray) : s.toList = ([] : List UInt8) ↔ s.size = 0 := by
  rw [ByteArray.toList_eq]
  constructor
  · intro h
    have := congrArg List.length h
    simpa using this
  · intro h
    exact List.eq_nil_of_length_eq_zero (by simpa using h)
/-- The last answer of a search that the font has. -/
theorem ok_def (c : Int) : ok c = (fnd c).2.2 := rfl
end Go.Proofs.Ytghfcdgdbdeomaa.Pure
