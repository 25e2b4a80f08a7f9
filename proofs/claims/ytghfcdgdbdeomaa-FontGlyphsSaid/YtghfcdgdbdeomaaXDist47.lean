/-
Distance and Closest of the font. Conditions: bytes.
-/
import Derived.Test.YtghfcdgdbdeomaaXBase47
import Derived.Test.YtghfcdgdbdeomaaPRx3
import Derived.Test.YtghfcdgdbdeomaaPRx8
import Derived.Test.YtghfcdgdbdeomaaPRx3
namespace Go.Proofs.Ytghfcdgdbdeomaa.Pure
set_option linter.unusedVariables false
set_option linter.unusedSimpArgs false
open Go.RowKit Go.Proofs.Ytghfcdgdbdeomaa.PR Go.Proofs.YtghfcdgdbdeomaaW.PrintWords Go.Proofs.YtghfcdgdbdeomaaW.PrintLast Go.Proofs.YtghfcdgdbdeomaaW.PrintMore Go.Proofs.Ytghfcdgdbdeomaa.XWords Go.Proofs.Ytghfcdgdbdeomaa.XPure

/-- How many of the first n places have a mark. -/
def cnt (p : Nat → Bool) : Nat → Int
  | 0 => 0
  | n + 1 => if p n = true then cnt p n + 1 else cnt p n
theorem cnt_congr {p q : Nat → Bool} : ∀ {n : Nat}, (∀ j, j < n → p j = q j) → cnt p n = cnt q n
  | 0, _ => rfl
  | n + 1, h => by
    unfold cnt
    rw [h n (by omega), cnt_congr (n := n) (fun j hj => h j (by omega))]
theorem cnt_bounds (p : Nat → Bool) : ∀ n : Nat, 0 ≤ cnt p n ∧ cnt p n ≤ n
  | 0 => by simp [cnt]
  | n + 1 => by
    have := cnt_bounds p n
    unfold cnt
    split <;> omega
/-- The number of places at which two glyphs differ. -/
def df (a b : Int) : Int := cnt (fun j => dot a j != dot b j) 35
theorem df_comm (a b : Int) : df a b = df b a := cnt_congr (fun j _ => by cases dot a j <;> cases dot b j <;> rfl)
theorem cnt_none {p : Nat → Bool} (h : ∀ j, p j = false) : ∀ n, cnt p n = 0
  | 0 => rfl
  | n + 1 => by
    unfold cnt
    rw [h n, cnt_none h n]
    rfl
theorem df_self (a : Int) : df a a = 0 := cnt_none (fun j => bne_self_eq_false (dot a j)) 35

/-- The distance of two rows of the kind that the table holds. -/
theorem distance_ev {a b : Int} {x y : Int} {r s : ByteArray} (hr : r.size = 35) (hs : s.size = 35) (hrd : ∀ j : Nat, j < 35 → (bt r j = 48 ∨ bt r j = 49) ∧ (bt r j == 49) = dot a j) (hsd : ∀ j : Nat, j < 35 → (bt s j = 48 ∨ bt s j = 49) ∧ (bt s j == 49) = dot b j) :
    Ev (fun k => font_distance.f k x r y s) (df a b) := by
  unfold font_distance.f
  refine ev_loop (fun k i n => font_distance.l0 k n x r y s r i) 0 35 (by omega) (fun i n => n = cnt (fun j => dot a j != dot b j) i.toNat) _ ?_ ?_ 0 rfl
  · intro i n hi hin hI K
    have hi2 : i.toNat < 35 := by omega
    have e0 : ((i.toNat : Nat) : Int) = i := by omega
    have hb : bt r i < 128 := by
      have := (hrd i.toNat hi2).1
      rw [e0] at this
      omega
    obtain ⟨e1, _⟩ := step_low hi (by omega) hb
    have h1 := hrd i.toNat hi2
    have h2 := hsd i.toNat hi2
    rw [e0] at h1 h2
    have hc := cnt_bounds (fun j => dot a j != dot b j) i.toNat
    have et : (i + 1).toNat = i.toNat + 1 := by omega
    by_cases he : bt r i = bt s i
    · refine Ev.step (f := fun k => font_distance.l0 k n x r y s r (i + 1)) (fun k => ?_) (K _ ?_)
      · simp only [font_distance.l0]
        rw [if_pos hi, if_pos (by omega), if_pos (by omega), if_pos (by omega), if_pos he, e1]
      · rw [et]
        unfold cnt
        rw [if_neg, hI]
        rw [← h1.2, ← h2.2, he]
        simp
    · refine Ev.step (f := fun k => font_distance.l0 k (n + 1) x r y s r (i + 1)) (fun k => ?_) (K _ ?_)
      · simp only [font_distance.l0]
        rw [if_pos hi, if_pos (by omega), if_pos (by omega), if_pos (by omega), if_neg he, e1, w64 (by omega)]
      · rw [et]
        unfold cnt
        rw [if_pos, hI]
        rw [← h1.2, ← h2.2]
        rcases h1.1 with a1 | a1 <;> rcases h2.1 with a2 | a2 <;> rw [a1, a2] <;> first | rfl | (exfalso; omega)
  · intro n hI
    refine ev_end (fun k => ?_)
    simp only [font_distance.l0]
    rw [if_pos (by omega), if_neg (by omega), hI]
    rfl
theorem own_row {a : Int} (h : Byte a) (ho : ok a = true) : (fnd a).2.1.size = 35 ∧ ∀ j : Nat, j < 35 → (bt (fnd a).2.1 j = 48 ∨ bt (fnd a).2.1 j = 49) ∧ (bt (fnd a).2.1 j == 49) = dot a j :=
  ⟨(ok_size h ho).1, fun j hj => ⟨(ok_size h ho).2.2 j hj, rfl⟩⟩
/-- What Distance answers. -/
def dst (a b : Int) : Int × Int := if ok a = true ∧ ok b = true then (df a b, 0) else (0, 6)
theorem Distance_ev {a b : Int} (ha : Byte a) (hb : Byte b) : Ev (fun k => font_Distance.f k a b) (dst a b) := by
  unfold font_Distance.f
  refine Ev.bind (find_ev ha) ?_
  refine Ev.bind (find_ev hb) ?_
  unfold dst
  by_cases h1 : ok a = true
  · by_cases h2 : ok b = true
    · rw [if_pos ⟨h1, h2⟩]
      have h1' : (fnd a).2.2 = true := h1
      have h2' : (fnd b).2.2 = true := h2
      simp only [h1', h2', if_true]
      obtain ⟨r1, r2⟩ := own_row ha h1
      obtain ⟨s1, s2⟩ := own_row hb h2
      exact Ev.bind (distance_ev r1 s1 r2 s2) (Ev.now _)
    · rw [if_neg (fun h => h2 h.2)]
      have h1' : (fnd a).2.2 = true := h1
      have h2' : (fnd b).2.2 = false := eq_false_of_ne_true h2
      simp only [h1', h2', if_true, Bool.false_eq_true, if_false]
      exact Ev.now _
  · rw [if_neg (fun h => h1 h.1)]
    have h1' : (fnd a).2.2 = false := eq_false_of_ne_true h1
    simp only [h1', Bool.false_eq_true, if_false]
    exact Ev.now _
/-! ### The table, by places -/
def tab : List S44 := (font_table.f).getD []
theorem table_eq : font_table.f = some tab := rfl
theorem tab_length : tab.length = 62 := by decide +kernel
/-- The character at a place of the table. -/
def ch (i : Nat) : Int := (tab.getD i z44).f0
/-- The glyphs as numbers, a bit for each pixel. -/
def codes : List Nat := [0, 1074824225, 5285, 11105828170, 4819720132, 26610901603, 23946401062, 1091, 4363158596, 1145180225, 156718208, 139432064, 1143996416, 1015808, 3321888768, 35791360, 15692650286, 33424544964, 33357578798, 15619854623, 8891181448, 15620127807, 15621129292, 2216829471, 15613438510, 6728664622, 103812192, 1143999584, 8726284424, 32537600, 1145311297, 4299440686, 15097067054, 18842895918, 16694887983, 32246891582, 7836583207, 33321092159, 1108575295, 32801457710, 18842895921, 33424543903, 6753100060, 18560947505, 33320633377, 18842572657, 18850958897, 15621211694, 1108854319, 23946905134, 19106612783, 16660235326, 4433514655, 15621211697, 4648912433, 19182306865, 18834663985, 4433521201, 33321787935, 7550829607, 7654740103, 33285996544]
theorem k_tab : ((List.range 62).all fun i : Nat => ok (ch i) && decide (0 ≤ ch i ∧ ch i ≤ 255) && decide ((tab.getD i z44).f1.size = 35) && (List.range 35).all fun j : Nat => (bt (tab.getD i z44).f1 j == 48 || bt (tab.getD i z44).f1 j == 49) && (bt (tab.getD i z44).f1 j == 49) == dot (ch i) j) = true := by decide +kernel
theorem k_codes : ((List.range 62).all fun i : Nat => (List.range 35).all fun j : Nat => dot (ch i) j == (codes.getD i 0).testBit j) = true := by decide +kernel
/-- The distance of two places. -/
def pd (i k : Nat) : Int := df (ch i) (ch k)
def pc (i k : Nat) : Int := cnt (fun j => (codes.getD i 0).testBit j != (codes.getD k 0).testBit j) 35
theorem pd_eq {i k : Nat} (hi : i < 62) (hk : k < 62) : pd i k = pc i k := by
  refine cnt_congr (fun j hj => ?_)
  have h := k_codes
  simp only [List.all_eq_true, List.mem_range, beq_iff_eq] at h
  rw [h i hi j hj, h k hk j hj]
/-- The least distance, place by place. -/
def m1 (g : Nat → Int) (x : Int) : Nat → Int
  | 0 => x
  | n + 1 => mn (m1 g x n) (g n)
def m0 (g : Nat → Nat → Int) : Nat → Int
  | 0 => 35
  | i + 1 => m1 (g i) (m0 g i) i
theorem m1_congr {g h : Nat → Int} {x : Int} : ∀ {n : Nat}, (∀ j, j < n → g j = h j) → m1 g x n = m1 h x n
  | 0, _ => rfl
  | n + 1, e => by
    unfold m1
    rw [e n (by omega), m1_congr (n := n) (fun j hj => e j (by omega))]
theorem m0_congr {g h : Nat → Nat → Int} : ∀ {n : Nat}, (∀ i j, i < n → j < i → g i j = h i j) → m0 g n = m0 h n
  | 0, _ => rfl
  | n + 1, e => by
    unfold m0
    rw [m0_congr (n := n) (fun i j hi hj => e i j (by omega) hj), m1_congr (fun j hj => e n j (by omega) hj)]
def wordB (c : Int) : Bool := decide (48 ≤ c ∧ c ≤ 57) || decide (65 ≤ c ∧ c ≤ 90)
theorem k_apart : ((List.range 62).all fun i : Nat => (List.range 62).all fun k : Nat => i == k || (decide (2 ≤ pc i k) && (decide (4 ≤ pc i k) || !wordB (ch i) || !wordB (ch k)))) = true := by decide +kernel
theorem k_place : ((List.range 256).all fun a : Nat => !ok a || (List.range 62).any fun i : Nat => ch i == (a : Int)) = true := by decide +kernel
theorem place {a : Int} (h : Byte a) (ho : ok a = true) : ∃ i, i < 62 ∧ ch i = a := by
  have := of_all k_place h.1 (by have := h.2; omega)
  simp only [back h.1, ho, Bool.not_true, Bool.false_or, List.any_eq_true, List.mem_range, beq_iff_eq] at this
  exact this
/-- Two different characters are two pixels apart, and letters and digits four. -/
theorem apart {a b : Int} (ha : Byte a) (hb : Byte b) (h1 : ok a = true) (h2 : ok b = true) (hne : a ≠ b) : 2 ≤ df a b ∧ (4 ≤ df a b ∨ wordB a = false ∨ wordB b = false) := by
  obtain ⟨i, hi, rfl⟩ := place ha h1
  obtain ⟨k, hk, rfl⟩ := place hb h2
  have h := k_apart
  simp only [List.all_eq_true, List.mem_range, Bool.or_eq_true, Bool.and_eq_true, decide_eq_true_eq, beq_iff_eq, Bool.not_eq_true', ← pd_eq] at h
  have := h i hi k hk
  rw [← pd_eq hi hk] at this
  rcases this with e | ⟨e1, e2⟩
  · exact absurd (congrArg ch e) hne
  · refine ⟨e1, ?_⟩
    rcases e2 with (e2 | e2) | e2
    · exact .inl e2
    · exact .inr (.inl e2)
    · exact .inr (.inr e2)
theorem tab_row {i : Nat} (hi : i < 62) : Byte (ch i) ∧ ok (ch i) = true ∧ (tab.getD i z44).f1.size = 35 ∧ ∀ j : Nat, j < 35 → (bt (tab.getD i z44).f1 j = 48 ∨ bt (tab.getD i z44).f1 j = 49) ∧ (bt (tab.getD i z44).f1 j == 49) = dot (ch i) j := by
  have h := k_tab
  simp only [List.all_eq_true, List.mem_range, Bool.or_eq_true, Bool.and_eq_true, decide_eq_true_eq, beq_iff_eq] at h
  have := h i hi
  exact ⟨this.1.1.2, this.1.1.1, this.1.2, this.2⟩
theorem m1_le (g : Nat → Int) (x : Int) : ∀ n : Nat, m1 g x n ≤ x ∧ ∀ j, j < n → m1 g x n ≤ g j
  | 0 => ⟨Int.le_refl _, fun j hj => absurd hj (by omega)⟩
  | n + 1 => by
    obtain ⟨h1, h2⟩ := m1_le g x n
    have e1 : m1 g x (n + 1) ≤ m1 g x n := by
      show mn (m1 g x n) (g n) ≤ m1 g x n
      unfold mn
      split <;> omega
    have e2 : m1 g x (n + 1) ≤ g n := by
      show mn (m1 g x n) (g n) ≤ g n
      unfold mn
      split <;> omega
    refine ⟨Int.le_trans e1 h1, fun j hj => ?_⟩
    by_cases hjn : j < n
    · exact Int.le_trans e1 (h2 j hjn)
    · have : j = n := by omega
      rw [this]
      exact e2
theorem m1_ge {g : Nat → Int} {x c : Int} (hx : c ≤ x) : ∀ {n : Nat}, (∀ j, j < n → c ≤ g j) → c ≤ m1 g x n
  | 0, _ => hx
  | n + 1, h => by
    have e1 := m1_ge hx (n := n) (fun j hj => h j (by omega))
    have e2 := h n (by omega)
    unfold m1 mn
    split <;> assumption
theorem m0_le (g : Nat → Nat → Int) : ∀ (n i j : Nat), i < n → j < i → m0 g n ≤ g i j
  | 0, i, j, hi, _ => absurd hi (by omega)
  | n + 1, i, j, hi, hj => by
    obtain ⟨h1, h2⟩ := m1_le (g n) (m0 g n) n
    unfold m0
    by_cases hin : i < n
    · exact Int.le_trans h1 (m0_le g n i j hin hj)
    · have : i = n := by omega
      subst this
      exact h2 j hj
theorem m0_ge {g : Nat → Nat → Int} {c : Int} (hc : c ≤ 35) : ∀ {n : Nat}, (∀ i j, i < n → j < i → c ≤ g i j) → c ≤ m0 g n
  | 0, _ => hc
  | n + 1, h => by
    unfold m0
    exact m1_ge (m0_ge hc (fun i j hi hj => h i j (by omega) hj)) (fun j hj => h n j (by omega) hj)
theorem k_pair : pc 30 9 = 2 := by decide +kernel
theorem least_eq : m0 pd 62 = 2 := by
  have h1 := m0_le pd 62 30 9 (by omega) (by omega)
  rw [pd_eq (by omega) (by omega), k_pair] at h1
  have h2 : 2 ≤ m0 pd 62 := m0_ge (by omega) (fun i j hi hj => by
    have h := k_apart
    simp only [List.all_eq_true, List.mem_range, Bool.or_eq_true, Bool.and_eq_true, decide_eq_true_eq, beq_iff_eq] at h
    have := h i hi j (by omega)
    rw [pd_eq hi (by omega)]
    rcases this with e | e
    · omega
    · exact e.1)
  omega
theorem Closest_ev : Ev (fun k => font_Closest.f k) 2 := by
  unfold font_Closest.f
  rw [table_eq]
  simp only [Option.bind_some, tab_length]
  rw [← least_eq]
  refine ev_loop (fun k i x => font_Closest.l0 k x tab tab 62 i) 0 62 (by omega) (fun i x => x = m0 pd i.toNat) _ ?_ ?_ 35 rfl
  · intro i x hi hin hI K
    have hi2 : i.toNat < 62 := by omega
    obtain ⟨_, _, r1, r2⟩ := tab_row hi2
    have ey : ((tab.take i.toNat).length : Int) = i := by rw [List.length_take, tab_length]; omega
    refine Ev.step (f := fun k => font_Closest.l1 k x tab tab 62 i (tab.take i.toNat) i 0 ((rd_T44 tab i).f0) ((rd_T44 tab i).f1)) (fun k => ?_) ?_
    · simp only [font_Closest.l0, Option.bind_some, tab_length]
      rw [if_pos hin, if_pos hi, if_pos (by omega), if_pos (by omega), ey]
    refine ev_loop (fun k j x => font_Closest.l1 k x tab tab 62 i (tab.take i.toNat) i j ((rd_T44 tab i).f0) ((rd_T44 tab i).f1)) 0 i hi (fun j y => y = m1 (pd i.toNat) x j.toNat) _ ?_ ?_ x rfl
    · intro j y hj hji hJ K2
      have hj2 : j.toNat < 62 := by omega
      obtain ⟨_, _, s1, s2⟩ := tab_row hj2
      have et : rd_T44 (tab.take i.toNat) j = tab.getD j.toNat z44 := by
        unfold rd_T44
        rw [List.getD_eq_getElem?_getD, List.getD_eq_getElem?_getD, List.getElem?_take, if_pos (by omega)]
      refine Ev.step (f := fun k => (font_distance.f k ((rd_T44 tab i).f0) ((rd_T44 tab i).f1) ((rd_T44 (tab.take i.toNat) j).f0) ((rd_T44 (tab.take i.toNat) j).f1)).bind fun t222 => (font_Closest.l1 k (mn y t222) tab tab 62 i (tab.take i.toNat) i (j + 1) ((rd_T44 tab i).f0) ((rd_T44 tab i).f1))) (fun k => ?_) ?_
      · simp only [font_Closest.l1]
        rw [if_pos hji, if_pos hj, if_pos (by omega), w64 (by omega)]
      rw [et]
      refine Ev.bind (distance_ev (a := ch i.toNat) (b := ch j.toNat) r1 s1 r2 s2) ?_
      refine K2 _ ?_
      rw [hJ, show (j + 1).toNat = j.toNat + 1 by omega]
      rfl
    · intro y hJ
      refine Ev.step (f := fun k => font_Closest.l0 k y tab tab 62 (i + 1)) (fun k => ?_) (K y ?_)
      · simp only [font_Closest.l1]
        rw [if_neg (by omega), w64 (by omega)]
      · rw [hJ, hI, show (i + 1).toNat = i.toNat + 1 by omega]
        rfl
  · intro x hI
    refine ev_end (fun k => ?_)
    simp only [font_Closest.l0]
    rw [if_neg (by omega), hI]
    rfl
end Go.Proofs.Ytghfcdgdbdeomaa.Pure
