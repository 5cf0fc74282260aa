/- Part 4 of this proof: what the last part leans on. -/
import Derived.Test.YtldpdidlfbphcaaGreatDoorBWrites3
import Derived.Lib.BufferWrite
set_option linter.unusedVariables false
set_option linter.unusedSimpArgs false
set_option maxHeartbeats 8000000
set_option maxRecDepth 100000
section
namespace Go.Proofs.YtldpdidlfbphcaaGreatDoor.P
open Go.RowKit Go.Proofs.YtldpdidlfbphcaaGreatDoorW.PrintWords Go.Proofs.YtldpdidlfbphcaaGreatDoorW.PrintLast Go.Proofs.YtldpdidlfbphcaaGreatDoorW.PrintMore
def Yd (y : Int) : Int := 365 * (y - 1) + (y - 1) / 4 - (y - 1) / 100 + (y - 1) / 400
def leapB (y : Int) : Bool := decide (y % 4 = 0) && (!decide (y % 100 = 0) || decide (y % 400 = 0))
def ml (y m : Int) : Int := if m = 2 then (if leapB y = true then 29 else 28) else mdS m
def Md (y : Int) : Nat → Int
 | 0 => 0
 | m + 1 => Md y m + ml y ((m : Int) + 1)
theorem yd_step (y : Int) (h : 1 ≤ y) : Yd (y + 1) = Yd y + 365 + (if leapB y = true then 1 else 0) := by
 unfold Yd leapB
 by_cases h4 : y % 4 = 0 <;> by_cases h1 : y % 100 = 0 <;> by_cases h40 : y % 400 = 0 <;> simp [h4, h1, h40] <;> omega
theorem mdy_12 (y : Int) : Md y 12 = 365 + (if leapB y = true then 1 else 0) := by
 simp [Md, ml, mdS]
 split <;> omega
theorem ml_pos (y : Int) (m : Int) : 28 ≤ ml y m ∧ ml y m ≤ 31 := by
 unfold ml mdS
 repeat' split
 all_goals omega
theorem yd_mono {y z : Int} (h1 : 1 ≤ y) (h : y ≤ z) : Yd y ≤ Yd z := by
 obtain ⟨n, rfl⟩ : ∃ n : Nat, z = y + n := ⟨(z - y).toNat, by omega⟩
 clear h
 induction n with
 | zero => simp
 | succ n ih =>
  have := yd_step (y + n) (by omega)
  have e : y + ((n + 1 : Nat) : Int) = y + n + 1 := by omega
  rw [e, this]
  split <;> omega
theorem md_mono (y : Int) {m n : Nat} (h : m ≤ n) : Md y m ≤ Md y n := by
 induction n with
 | zero =>
  obtain rfl : m = 0 := by omega
  exact Int.le_refl _
 | succ n ih =>
  by_cases e : m = n + 1
  ·subst e
   exact Int.le_refl _
  have := ih (by omega)
  have := ml_pos y ((n : Int) + 1)
  simp only [Md]
  omega
structure Cal (day y : Int) (m : Nat) (d : Int) : Prop where
 y1 : 1 ≤ y
 y2 : y ≤ 9999
 m2 : m ≤ 11
 d1 : 1 ≤ d
 d2 : d ≤ ml y ((m : Int) + 1)
 eq : Yd y + Md y m + d = day
theorem year_ex (day : Int) (h1 : 1 ≤ day) : ∀ n : Nat, day ≤ Yd ((n : Int) + 2) → ∃ y, 1 ≤ y ∧ y ≤ (n : Int) + 1 ∧ Yd y < day ∧ day ≤ Yd (y + 1)
 | 0, h => ⟨1, by omega, by omega, by simp [Yd]; omega, by simpa using h⟩
 | n + 1, h => by
  by_cases h2 : day ≤ Yd ((n : Int) + 2)
  ·obtain ⟨y, a, b, c, d⟩ := year_ex day h1 n h2
   exact ⟨y, a, by omega, c, d⟩
  ·refine ⟨(n : Int) + 2, by omega, by omega, by omega, ?_⟩
   have e : (n : Int) + 2 + 1 = ((n + 1 : Nat) : Int) + 2 := by omega
   rw [e]
   exact h
theorem month_ex (y r : Int) (h1 : 1 ≤ r) : ∀ n : Nat, r ≤ Md y (n + 1) → ∃ m, m ≤ n ∧ Md y m < r ∧ r ≤ Md y (m + 1)
 | 0, h => ⟨0, Nat.le_refl _, by simp [Md]; omega, h⟩
 | n + 1, h => by
  by_cases h2 : r ≤ Md y (n + 1)
  ·obtain ⟨m, a, b, c⟩ := month_ex y r h1 n h2
   exact ⟨m, by omega, b, c⟩
  ·exact ⟨n + 1, Nat.le_refl _, by omega, h⟩
theorem cal_ex (day : Int) (h1 : 1 ≤ day) (h2 : day ≤ 3652059) : ∃ y m d, Cal day y m d := by
 obtain ⟨y, a, b, c, e⟩ := year_ex day h1 9998 (by simp [Yd]; omega)
 have hs := yd_step y a
 have hm := mdy_12 y
 obtain ⟨m, m1, m2, m3⟩ := month_ex y (day - Yd y) (by omega) 11 (by rw [hm]; omega)
 simp only [Md] at m3
 exact ⟨y, m, day - Yd y - Md y m, a, by simpa using b, m1, by omega, by omega, by omega⟩
theorem cal_year {day y : Int} {m : Nat} {d : Int} (h : Cal day y m d) : Yd y < day ∧ day ≤ Yd (y + 1) := by
 have hs := yd_step y h.y1
 have hm := mdy_12 y
 have a : Md y m + ml y ((m : Int) + 1) ≤ Md y 12 := by
  have := md_mono y (m := m + 1) (n := 12) (by have := h.m2; omega)
  simpa only [Md] using this
 have b : 0 ≤ Md y m := by
  have := md_mono y (m := 0) (n := m) (Nat.zero_le _)
  simpa only [Md] using this
 have e := h.eq
 have hd1 := h.d1
 have hd2 := h.d2
 omega
theorem years_is (y : Int) (h1 : 1 ≤ y) (h2 : y ≤ 20000) : val_yearsDays.f y = some (Yd y) := by
 unfold val_yearsDays.f Yd
 have w : ∀ n : Int, -9223372036854775808 ≤ n ∧ n ≤ 9223372036854775807 → wrap64 n = n := fun n h => by unfold wrap64; omega
 rw [w (y - 1) (by omega), Int.tdiv_eq_ediv_of_nonneg (by omega), Int.tdiv_eq_ediv_of_nonneg (by omega), Int.tdiv_eq_ediv_of_nonneg (by omega), w (365 * (y - 1)) (by omega), w ((y - 1) / 4) (by omega), w ((y - 1) / 100) (by omega), w ((y - 1) / 400) (by omega), w (365 * (y - 1) + (y - 1) / 4) (by omega), w (365 * (y - 1) + (y - 1) / 4 - (y - 1) / 100) (by omega), w (365 * (y - 1) + (y - 1) / 4 - (y - 1) / 100 + (y - 1) / 400) (by omega)]
theorem leap_is (y : Int) (h1 : 1 ≤ y) (k : Nat) (hk : 0 < k) : val_isLeap.f k y = some (leapB y) ∧ cabinetryref01_leap.f k y = some (leapB y) := by
 obtain ⟨m, rfl⟩ : ∃ m, k = m + 1 := ⟨k - 1, by omega⟩
 unfold val_isLeap.f cabinetryref01_leap.f leapB
 simp only [val_isLeap.j0, cabinetryref01_leap.j0]
 rw [Int.tmod_eq_emod_of_nonneg (by omega), Int.tmod_eq_emod_of_nonneg (by omega), Int.tmod_eq_emod_of_nonneg (by omega)]
 by_cases h4 : y % 4 = 0 <;> by_cases h1 : y % 100 = 0 <;> by_cases h40 : y % 400 = 0 <;> simp [h4, h1, h40] <;> omega
theorem month_is (y : Int) (h1 : 1 ≤ y) (m : Int) (hm : 1 ≤ m) (hm2 : m ≤ 12) : val_monthDays.f y m = some (ml y m) := by
 unfold val_monthDays.f ml
 rw [if_pos ⟨hm, hm2⟩]
 by_cases h : m = 2
 rotate_left
 ·rw [if_neg h, if_neg h]
 rw [if_pos h, if_pos h, (leap_is y h1 1 (by omega)).1]
 rfl
theorem length_is' (y : Int) (h1 : 1 ≤ y) (m : Int) (hm : 1 ≤ m) (hm2 : m ≤ 12) (k : Nat) (hk : 0 < k) : cabinetryref01_length.f k y m = some (ml y m) := by
 obtain ⟨q, rfl⟩ : ∃ q, k = q + 1 := ⟨k - 1, by omega⟩
 unfold cabinetryref01_length.f ml mdS
 by_cases h : m = 2
 ·rw [if_pos h, if_pos h, (leap_is y h1 (q + 1) (by omega)).2]
  simp only [Option.bind_some]
  split <;> rfl
 rw [if_neg h, if_neg h, if_neg h]
 simp only [cabinetryref01_length.j0]
 by_cases h4 : m = 4
 ·simp [h4]
 by_cases h6 : m = 6
 ·simp [h6]
 by_cases h9 : m = 9
 ·simp [h9]
 by_cases h11 : m = 11
 ·simp [h11]
 simp [h4, h6, h9, h11]
theorem wr64 (n : Int) (h : -9223372036854775808 ≤ n ∧ n ≤ 9223372036854775807) : wrap64 n = n := by unfold wrap64; omega
theorem split_months {day y : Int} {m : Nat} {d : Int} (h : Cal day y m d) : ∀ (n j k : Nat), j + n = m → n < k → val_Split.l1 k y (Md y m + d - Md y j) ((j : Int) + 1) = some (y, (m : Int) + 1, d, 0)
 | 0, j, k, hj, hk => by
  obtain ⟨q, rfl⟩ : ∃ q, k = q + 1 := ⟨k - 1, by omega⟩
  obtain rfl : j = m := by omega
  have h2 := h.d2
  have hm := h.m2
  simp only [val_Split.l1]
  rw [month_is y h.y1 _ (by omega) (by omega)]
  simp only [Option.bind_some]
  have e : Md y j + d - Md y j = d := by omega
  rw [e, if_neg (by omega)]
 | n + 1, j, k, hj, hk => by
  obtain ⟨q, rfl⟩ : ∃ q, k = q + 1 := ⟨k - 1, by omega⟩
  have h1 := h.d1
  have h2 := h.d2
  have hm := h.m2
  have a := md_mono y (m := j + 1) (n := m) (by omega)
  have b := md_mono y (m := m) (n := 12) (by omega)
  have b0 := md_mono y (m := 0) (n := j) (by omega)
  have b12 := mdy_12 y
  have l1 := ml_pos y ((m : Int) + 1)
  have l2 := ml_pos y ((j : Int) + 1)
  simp only [Md] at a b0
  simp only [val_Split.l1]
  rw [month_is y h.y1 _ (by omega) (by omega)]
  simp only [Option.bind_some]
  have hb : Md y 12 ≤ 366 := by rw [b12]; split <;> omega
  rw [if_pos (by omega), wr64 _ (by omega), wr64 _ (by omega)]
  have e : Md y m + d - Md y j - ml y ((j : Int) + 1) = Md y m + d - Md y (j + 1) := by simp only [Md]; omega
  have e2 : (j : Int) + 1 + 1 = ((j + 1 : Nat) : Int) + 1 := by omega
  rw [e, e2]
  exact split_months h n (j + 1) q (by omega) (by omega)
theorem split_years {day y : Int} {m : Nat} {d : Int} (h : Cal day y m d) : ∀ (n k : Nat) (z : Int), z + n = y → 1 ≤ z → n + 13 < k → val_Split.l0 k day z = some (y, (m : Int) + 1, d, 0)
 | 0, k, z, hz, hz1, hk => by
  obtain ⟨q, rfl⟩ : ∃ q, k = q + 1 := ⟨k - 1, by omega⟩
  obtain rfl : z = y := by omega
  obtain ⟨c1, c2⟩ := cal_year h
  have h2 := h.y2
  have e := h.eq
  have hY : 0 ≤ Yd z := by unfold Yd; omega
  have hY2 : Yd z ≤ 4000000 := by unfold Yd; omega
  have hm := h.m2
  have b := md_mono z (m := m) (n := 12) (by omega)
  have b12 := mdy_12 z
  have hb : Md z 12 ≤ 366 := by rw [b12]; split <;> omega
  have b0 := md_mono z (m := 0) (n := m) (by omega)
  simp only [Md] at b0
  have hd1 := h.d1
  have hd2 := h.d2
  have l1 := ml_pos z ((m : Int) + 1)
  simp only [val_Split.l0]
  rw [wr64 (z + 1) (by omega), years_is (z + 1) (by omega) (by omega), years_is z hz1 (by omega)]
  simp only [Option.bind_some]
  rw [if_neg (by omega), wr64 _ (by omega)]
  have e1 : day - Yd z = Md z m + d - Md z 0 := by simp only [Md]; omega
  have e2 : (1 : Int) = ((0 : Nat) : Int) + 1 := rfl
  rw [e1, e2]
  exact split_months h m 0 q (by omega) (by omega)
 | n + 1, k, z, hz, hz1, hk => by
  obtain ⟨q, rfl⟩ : ∃ q, k = q + 1 := ⟨k - 1, by omega⟩
  obtain ⟨c1, c2⟩ := cal_year h
  have h2 := h.y2
  have hmono := yd_mono (y := z + 1) (z := y) (by omega) (by omega)
  simp only [val_Split.l0]
  rw [wr64 (z + 1) (by omega), years_is (z + 1) (by omega) (by omega)]
  simp only [Option.bind_some]
  rw [if_pos (by omega)]
  exact split_years h n q (z + 1) (by omega) (by omega) (by omega)
theorem split_is {day y : Int} {m : Nat} {d : Int} (h : Cal day y m d) (h1 : 1 ≤ day) (h2 : day ≤ 3652059) (k : Nat) (hk : 60 < k) : val_Split.f k day = some (y, (m : Int) + 1, d, 0) := by
 have hd : val_isDay.f day = some true := by
  unfold val_isDay.f
  rw [if_pos (by omega), decide_eq_true (by omega)]
 unfold val_Split.f
 rw [hd]
 simp only [Option.bind_some, if_true]
 obtain ⟨c1, c2⟩ := cal_year h
 have y1 := h.y1
 have y2 := h.y2
 rw [if_neg (by omega), Int.tdiv_eq_ediv_of_nonneg (by omega), wr64 (day / 366) (by omega), wr64 _ (by omega)]
 have s1 : day / 366 + 1 ≤ y := by
  unfold Yd at c2
  omega
 have s2 : y ≤ day / 366 + 1 + 45 := by
  unfold Yd at c1
  omega
 exact split_years h (y - (day / 366 + 1)).toNat k _ (by omega) (by omega) (by omega)
theorem days_go (y : Int) (h1 : 1 ≤ y) (h2 : y ≤ 9999) (m : Nat) (hm : m ≤ 11) : ∀ (n j k : Nat), j + n = m → n + 1 < k → cabinetryref01_Days.l0 k y ((m : Int) + 1) (1 + Md y j) ((j : Int) + 1) = some (Yd y + Md y m + 1, 0)
 | 0, j, k, hj, hk => by
  obtain ⟨q, rfl⟩ : ∃ q, k = q + 1 := ⟨k - 1, by omega⟩
  obtain rfl : j = m := by omega
  have b := md_mono y (m := j) (n := 12) (by omega)
  have b0 := md_mono y (m := 0) (n := j) (by omega)
  have b12 := mdy_12 y
  have hb : Md y 12 ≤ 366 := by rw [b12]; split <;> omega
  simp only [Md] at b0
  simp only [cabinetryref01_Days.l0]
  rw [if_neg (by omega), wr64 (y - 1) (by omega), Int.tdiv_eq_ediv_of_nonneg (by omega), Int.tdiv_eq_ediv_of_nonneg (by omega), Int.tdiv_eq_ediv_of_nonneg (by omega), wr64 (365 * (y - 1)) (by omega), wr64 ((y - 1) / 4) (by omega), wr64 ((y - 1) / 100) (by omega), wr64 ((y - 1) / 400) (by omega),
   wr64 (1 + Md y j + 365 * (y - 1)) (by omega), wr64 (1 + Md y j + 365 * (y - 1) + (y - 1) / 4) (by omega), wr64 (1 + Md y j + 365 * (y - 1) + (y - 1) / 4 - (y - 1) / 100) (by omega), wr64 (1 + Md y j + 365 * (y - 1) + (y - 1) / 4 - (y - 1) / 100 + (y - 1) / 400) (by omega)]
  unfold Yd
  congr 2
  omega
 | n + 1, j, k, hj, hk => by
  obtain ⟨q, rfl⟩ : ∃ q, k = q + 1 := ⟨k - 1, by omega⟩
  have b := md_mono y (m := j) (n := 12) (by omega)
  have b0 := md_mono y (m := 0) (n := j) (by omega)
  have b12 := mdy_12 y
  have hb : Md y 12 ≤ 366 := by rw [b12]; split <;> omega
  simp only [Md] at b0
  have l2 := ml_pos y ((j : Int) + 1)
  simp only [cabinetryref01_Days.l0]
  rw [if_pos (by omega), length_is' y h1 _ (by omega) (by omega) q (by omega)]
  simp only [Option.bind_some]
  rw [wr64 _ (by omega), wr64 _ (by omega)]
  have e : 1 + Md y j + ml y ((j : Int) + 1) = 1 + Md y (j + 1) := by simp only [Md]; omega
  have e2 : (j : Int) + 1 + 1 = ((j + 1 : Nat) : Int) + 1 := by omega
  rw [e, e2]
  exact days_go y h1 h2 m hm n (j + 1) q (by omega) (by omega)
theorem days_is (y : Int) (h1 : 1 ≤ y) (h2 : y ≤ 9999) (m : Nat) (hm : m ≤ 11) (k : Nat) (hk : 20 < k) : cabinetryref01_Days.f k y ((m : Int) + 1) 1 = some (Yd y + Md y m + 1, 0) := by
 obtain ⟨q, rfl⟩ : ∃ q, k = q + 1 := ⟨k - 1, by omega⟩
 have l2 := ml_pos y ((m : Int) + 1)
 unfold cabinetryref01_Days.f
 rw [if_neg (by omega), if_neg (by omega), if_neg (by omega), if_neg (by omega), if_neg (by omega), length_is' y h1 _ (by omega) (by omega) (q + 1) (by omega)]
 simp only [Option.bind_some, cabinetryref01_Days.j0]
 rw [if_neg (by simp; omega)]
 have := days_go y h1 h2 m hm m 0 q (by omega) (by omega)
 simpa [Md] using this
theorem refSplit_months {day y : Int} {m : Nat} {d : Int} (h : Cal day y m d) : ∀ (n j k : Nat), m + n = j → j ≤ 11 → n + 22 < k → cabinetryref01_Split.l1 k day y ((j : Int) + 1) (Yd y + Md y j + 1) = some (y, (m : Int) + 1, d, 0)
 | 0, j, k, hj, hj2, hk => by
  obtain ⟨q, rfl⟩ : ∃ q, k = q + 1 := ⟨k - 1, by omega⟩
  obtain rfl : m = j := by omega
  have e := h.eq
  have h1 := h.d1
  have h2 := h.d2
  have l1 := ml_pos y ((m : Int) + 1)
  simp only [cabinetryref01_Split.l1]
  rw [if_neg (by omega), wr64 (day - (Yd y + Md y m + 1)) (by omega), wr64 _ (by omega)]
  have : day - (Yd y + Md y m + 1) + 1 = d := by omega
  rw [this]
 | n + 1, j, k, hj, hj2, hk => by
  obtain ⟨q, rfl⟩ : ∃ q, k = q + 1 := ⟨k - 1, by omega⟩
  obtain ⟨i, rfl⟩ : ∃ i, j = i + 1 := ⟨j - 1, by omega⟩
  have e := h.eq
  have h2 := h.d2
  have a := md_mono y (m := m + 1) (n := i + 1) (by omega)
  have e0 : Md y (m + 1) = Md y m + ml y ((m : Int) + 1) := rfl
  simp only [cabinetryref01_Split.l1]
  rw [if_pos (by omega), wr64 _ (by omega)]
  have e2 : ((i + 1 : Nat) : Int) + 1 - 1 = (i : Int) + 1 := by omega
  rw [e2, days_is y h.y1 h.y2 i (by omega) q (by omega)]
  simp only [Option.bind_some]
  exact refSplit_months h n i q (by omega) (by omega) (by omega)
theorem refSplit_years {day y : Int} {m : Nat} {d : Int} (h : Cal day y m d) : ∀ (n k : Nat) (lo hi : Int), hi - lo ≤ (n : Int) → 1 ≤ lo → lo ≤ y → y ≤ hi → hi ≤ 9999 → n + 60 < k → cabinetryref01_Split.l0 k day lo hi = some (y, (m : Int) + 1, d, 0)
 | 0, k, lo, hi, hn, h1, h2, h3, h4, hk => by
  obtain ⟨q, rfl⟩ : ∃ q, k = q + 1 := ⟨k - 1, by omega⟩
  obtain rfl : lo = y := by omega
  simp only [cabinetryref01_Split.l0]
  rw [if_neg (by omega)]
  have := days_is lo h1 h.y2 11 (by omega) q (by omega)
  rw [show (12 : Int) = ((11 : Nat) : Int) + 1 from rfl, this]
  simp only [Option.bind_some]
  exact refSplit_months h (11 - m) 11 q (by have := h.m2; omega) (by omega) (by omega)
 | n + 1, k, lo, hi, hn, h1, h2, h3, h4, hk => by
  by_cases hlt : lo < hi
  ·obtain ⟨q, rfl⟩ : ∃ q, k = q + 1 := ⟨k - 1, by omega⟩
   obtain ⟨c1, c2⟩ := cal_year h
   simp only [cabinetryref01_Split.l0]
   rw [if_pos hlt, wr64 (lo + hi) (by omega), wr64 (lo + hi + 1) (by omega), Int.tdiv_eq_ediv_of_nonneg (by omega), wr64 ((lo + hi + 1) / 2) (by omega)]
   obtain ⟨mid, hmid⟩ : ∃ mid, (lo + hi + 1) / 2 = mid := ⟨_, rfl⟩
   rw [hmid]
   have m1 : lo < mid := by omega
   have m2 : mid ≤ hi := by omega
   have := days_is mid (by omega) (by omega) 0 (by omega) q (by omega)
   rw [show ((0 : Nat) : Int) + 1 = 1 from rfl] at this
   rw [this]
   simp only [Option.bind_some, Md]
   by_cases hle : mid ≤ y
   ·have := yd_mono (y := mid) (z := y) (by omega) hle
    rw [if_pos (by omega)]
    exact refSplit_years h n q mid hi (by omega) (by omega) hle h3 h4 (by omega)
   ·have := yd_mono (y := y + 1) (z := mid) (by omega) (by omega)
    rw [if_neg (by omega), wr64 _ (by omega)]
    exact refSplit_years h n q lo (mid - 1) (by omega) h1 h2 (by omega) (by omega) (by omega)
  ·exact refSplit_years h n k lo hi (by omega) h1 h2 h3 h4 (by omega)
theorem refSplit_is {day y : Int} {m : Nat} {d : Int} (h : Cal day y m d) (h1 : 1 ≤ day) (h2 : day ≤ 3652059) (k : Nat) (hk : 10070 < k) : cabinetryref01_Split.f k day = some (y, (m : Int) + 1, d, 0) := by
 obtain ⟨q, rfl⟩ : ∃ q, k = q + 1 := ⟨k - 1, by omega⟩
 unfold cabinetryref01_Split.f
 rw [if_neg (by omega)]
 simp only [cabinetryref01_Split.j0]
 rw [if_neg (by simp; omega), if_neg (by omega)]
 exact refSplit_years h 9998 q 1 9999 (by omega) (by omega) h.y1 h.y2 (by omega) (by omega)
section
attribute [local go_sem] max2_int min2_int max_two min_two max_three min_three max_four min_four
def cabinetryref01_Times.l0 : Nat → ByteArray → Int → ByteArray → Int → Option (ByteArray)
 | 0, _, _, _, _ => none
 | k + 1, x0, x1, x5, x6 => if x6 < x1 then (if x5.size + x0.size ≤ 9223372036854775807 then (cabinetryref01_Times.l0 k x0 x1 (x5 ++ x0) (wrap64 (x6 + 1))) else (none)) else (some x5)
def cabinetryref01_Times.f (k : Nat) (a0 : ByteArray) (a1 : Int) : Option (ByteArray) := cabinetryref01_Times.l0 k a0 a1 (⟨#[]⟩ : ByteArray) 0
theorem cabinetryref01_Times.mono_l : ∀ k, (∀ y0 y1 y2 y3, LeO (cabinetryref01_Times.l0 k y0 y1 y2 y3) (cabinetryref01_Times.l0 (k + 1) y0 y1 y2 y3))
 | 0 => fun _ _ _ _ r h => by simp [cabinetryref01_Times.l0] at h
 | k + 1 => by
  have ih0 := cabinetryref01_Times.mono_l k
  ·intro y0 y1 y2 y3
   unfold cabinetryref01_Times.l0
   repeat' first
   | (with_reducible exact ih0 _ _ _ _)
   | (with_reducible exact LeO.refl _)
   | (with_reducible exact LeO.none _)
   | (with_reducible refine LeO.ite ?_ ?_)
   | (with_reducible refine LeO.bind ?_ (fun _ => ?_))
   | exact ih0 _ _ _ _
   | exact LeO.none _
   | refine LeO.ite ?_ ?_
   | refine LeO.bind ?_ (fun _ => ?_)
theorem cabinetryref01_Times.mono : ∀ a0 a1 k, LeO (cabinetryref01_Times.f k a0 a1) (cabinetryref01_Times.f (k + 1) a0 a1) := by
 intro a0 a1 k
 have ih0 := cabinetryref01_Times.mono_l k
 unfold cabinetryref01_Times.f
 repeat' first
   | (with_reducible exact ih0 _ _ _ _)
   | (with_reducible exact LeO.refl _)
   | (with_reducible exact LeO.none _)
   | (with_reducible refine LeO.ite ?_ ?_)
   | (with_reducible refine LeO.bind ?_ (fun _ => ?_))
   | exact ih0 _ _ _ _
   | exact LeO.none _
   | refine LeO.ite ?_ ?_
   | refine LeO.bind ?_ (fun _ => ?_)
theorem cabinetryref01_Times.calls (k : Nat) (a0 : ByteArray) (a1 : Int) (r : ByteArray) (w : World) (h : cabinetryref01_Times.f k a0 a1 = some r) :
  Calls Tryz.prog 148 #[.string a0, .int .i64 a1] w fun e w' => e = .returned (.string r) ∧ Drawn0 w w' := by
 unfold cabinetryref01_Times.f at h
 have H := h
 clear h
 have H' := Z0 H
 clear H
 go_enter Tryz.func148, Tryz.ntmps148
 go_wp2
 go_loopg [5, 6] k (fun kq v5 v6 w' => ∃ (x5_1 : ByteArray) (x6_1 : Int), v5 = .string x5_1 ∧ v6 = .int .i64 x6_1 ∧ Aside0 (cabinetryref01_Times.l0 kq a0 a1 x5_1 x6_1 = some r) ∧ Aside0 (kq ≤ k) ∧ Drawn0 w w')
 case atStart => exact ⟨((⟨#[]⟩ : ByteArray)), (0), V2, V2, H', ⟨Nat.le_refl _⟩, by repeat (first | exact Y4 _ | apply Y0)⟩
 case round =>
  clear H'
  try clear c1
  try clear p2
  obtain ⟨x5_1, x6_1, rfl, rfl, HA, HK1, ⟨m1, rfl⟩⟩ := hrel
  cases gk with
  | zero => exact absurd HA.out (by simp [cabinetryref01_Times.l0])
  | succ k1 =>
   have H := HA.out
   clear HA
   simp only [cabinetryref01_Times.l0] at H
   by_cases c3 : x6_1 < a1
   rotate_left
   ·rw [if_neg c3] at H
    have c3b0 : decide (x6_1 < a1) = false := decide_eq_false c3
    clear c3
    obtain rfl := Option.some.inj H
    go_wp2
    go_ret
    exact ⟨V2, by repeat (first | exact Y4 _ | apply Y0)⟩
   rw [if_pos c3] at H
   have c3b0 : decide (x6_1 < a1) = true := decide_eq_true c3
   clear c3
   by_cases c4 : x5_1.size + a0.size ≤ 9223372036854775807
   rotate_left
   ·rw [if_neg c4] at H
    exact absurd H (by simp)
   rw [if_pos c4] at H
   have c4b0 := eq_true c4
   have c4b1 : decide (x5_1.size + a0.size ≤ 9223372036854775807) = true := decide_eq_true c4
   try have c4b2 : (9223372036854775807 < x5_1.size + a0.size) = False := eq_false (Nat.not_lt.2 c4)
   have H' := Z0 H
   clear H
   go_wp2
   go_roundg k1
   case measure => have := HK1.out; omega
   case rel => exact ⟨(x5_1 ++ a0), (wrap64 (x6_1 + 1)), V2, V2, H', ⟨by have := HK1.out; omega⟩, by repeat (first | exact Y4 _ | apply Y0)⟩
mutual
def cabinetryref03_shown.j1 : Nat → ByteArray → ByteArray → Int → Int → Bool → Option (ByteArray)
 | 0, _, _, _, _, _ => none
 | k + 1, x5, x600000, x600001, x600002, x600003 => (cabinetryref01_Times.f k (⟨#[32]⟩ : ByteArray) (wrap64 (x600002 - (x5.size : Int)))).bind fun t605 => (if x5.size + t605.size ≤ 9223372036854775807 then (some (x5 ++ t605)) else (none))
def cabinetryref03_shown.j0 : Nat → ByteArray → Bool → ByteArray → Int → Int → Bool → Int → Int → ByteArray → Option (ByteArray)
 | 0, _, _, _, _, _, _, _, _, _ => none
 | k + 1, x5, x44, x600000, x600001, x600002, x600003, x601000, x601001, x601002 => if x44 = true then (cabinetryref03_shown.j1 k x5 x600000 x600001 x600002 x600003) else ((cabinetryref01_Written.f k x601001).bind fun t603 => ((cabinetryref01_Times.f k (⟨#[32]⟩ : ByteArray) (wrap64 (x600002 - (t603.size : Int)))).bind fun t604 => (if t604.size + t603.size ≤ 9223372036854775807 then (some (t604 ++ t603)) else (none))))
end
def cabinetryref03_shown.f (k : Nat) (a0_0 : ByteArray) (a0_1 : Int) (a0_2 : Int) (a0_3 : Bool) (a1_0 : Int) (a1_1 : Int) (a1_2 : ByteArray) : Option (ByteArray) := if a1_0 = 0 then (cabinetryref03_shown.j1 k (⟨#[]⟩ : ByteArray) a0_0 a0_1 a0_2 a0_3) else (if a0_1 = 1 then (if a1_1 = 1 then (cabinetryref03_shown.j1 k (⟨#[84]⟩ : ByteArray) a0_0 a0_1 a0_2 a0_3) else (cabinetryref03_shown.j1 k (⟨#[70]⟩ : ByteArray) a0_0 a0_1 a0_2 a0_3)) else (if a0_1 = 3 then ((cabinetryref01_Stamp.f k a1_1).bind fun bt601 => (cabinetryref03_shown.j1 k bt601.1 a0_0 a0_1 a0_2 a0_3)) else (if a0_1 = 4 then (cabinetryref03_shown.j1 k a1_2 a0_0 a0_1 a0_2 a0_3) else (if a0_1 = 5 then (cabinetryref03_shown.j0 k (⟨#[]⟩ : ByteArray) (a1_1 == 0) a0_0 a0_1 a0_2 a0_3 a1_0 a1_1 a1_2) else (cabinetryref03_shown.j0 k (⟨#[]⟩ : ByteArray) false a0_0 a0_1 a0_2 a0_3 a1_0 a1_1 a1_2)))))
theorem cabinetryref03_shown.mono_l : ∀ k, (∀ y0 y1 y2 y3 y4, LeO (cabinetryref03_shown.j1 k y0 y1 y2 y3 y4) (cabinetryref03_shown.j1 (k + 1) y0 y1 y2 y3 y4)) ∧ (∀ y0 y1 y2 y3 y4 y5 y6 y7 y8, LeO (cabinetryref03_shown.j0 k y0 y1 y2 y3 y4 y5 y6 y7 y8) (cabinetryref03_shown.j0 (k + 1) y0 y1 y2 y3 y4 y5 y6 y7 y8))
 | 0 => ⟨fun _ _ _ _ _ r h => by simp [cabinetryref03_shown.j1] at h, fun _ _ _ _ _ _ _ _ _ r h => by simp [cabinetryref03_shown.j0] at h⟩
 | k + 1 => by
  obtain ⟨ih0, ih1⟩ := cabinetryref03_shown.mono_l k
  refine ⟨?_, ?_⟩
  ·intro y0 y1 y2 y3 y4
   unfold cabinetryref03_shown.j1
   repeat' first
   | (with_reducible exact ih0 _ _ _ _ _)
   | (with_reducible exact ih1 _ _ _ _ _ _ _ _ _)
   | (with_reducible exact cabinetryref01_Stamp.mono _ _)
   | (with_reducible exact cabinetryref01_Times.mono _ _ _)
   | (with_reducible exact cabinetryref01_Written.mono _ _)
   | (with_reducible exact LeO.refl _)
   | (with_reducible exact LeO.none _)
   | (with_reducible refine LeO.ite ?_ ?_)
   | (with_reducible refine LeO.bind ?_ (fun _ => ?_))
  ·intro y0 y1 y2 y3 y4 y5 y6 y7 y8
   unfold cabinetryref03_shown.j0
   repeat' first
   | (with_reducible exact ih0 _ _ _ _ _)
   | (with_reducible exact ih1 _ _ _ _ _ _ _ _ _)
   | (with_reducible exact cabinetryref01_Stamp.mono _ _)
   | (with_reducible exact cabinetryref01_Times.mono _ _ _)
   | (with_reducible exact cabinetryref01_Written.mono _ _)
   | (with_reducible exact LeO.refl _)
   | (with_reducible exact LeO.none _)
   | (with_reducible refine LeO.ite ?_ ?_)
   | (with_reducible refine LeO.bind ?_ (fun _ => ?_))
theorem cabinetryref03_shown.mono : ∀ a0 a1 a2 a3 a4 a5 a6 k, LeO (cabinetryref03_shown.f k a0 a1 a2 a3 a4 a5 a6) (cabinetryref03_shown.f (k + 1) a0 a1 a2 a3 a4 a5 a6) := by
 intro a0 a1 a2 a3 a4 a5 a6 k
 obtain ⟨ih0, ih1⟩ := cabinetryref03_shown.mono_l k
 unfold cabinetryref03_shown.f
 repeat' first
   | (with_reducible exact ih0 _ _ _ _ _)
   | (with_reducible exact ih1 _ _ _ _ _ _ _ _ _)
   | (with_reducible exact cabinetryref01_Stamp.mono _ _)
   | (with_reducible exact cabinetryref01_Times.mono _ _ _)
   | (with_reducible exact cabinetryref01_Written.mono _ _)
   | (with_reducible exact LeO.refl _)
   | (with_reducible exact LeO.none _)
   | (with_reducible refine LeO.ite ?_ ?_)
   | (with_reducible refine LeO.bind ?_ (fun _ => ?_))
theorem cabinetryref03_shown.calls (k : Nat) (a0_0 : ByteArray) (a0_1 : Int) (a0_2 : Int) (a0_3 : Bool) (a1_0 : Int) (a1_1 : Int) (a1_2 : ByteArray) (r : ByteArray) (w : World) (h : cabinetryref03_shown.f k a0_0 a0_1 a0_2 a0_3 a1_0 a1_1 a1_2 = some r) :
  Calls Tryz.prog 108 #[.agg #[.string a0_0, .int .i64 a0_1, .int .i64 a0_2, .bool a0_3], .agg #[.int .i64 a1_0, .int .i64 a1_1, .string a1_2]] w fun e w' => e = .returned (.string r) ∧ Below w.heap.size w w' := by
 have hu23 := Tryz.underlying23
 have hu25 := Tryz.underlying25
 have HB := Z0 (Below.refl w.heap.size w)
 unfold cabinetryref03_shown.f at h
 have H := h
 clear h
 have HC3 := Z0 H
 clear H
 go_enter Tryz.func108, Tryz.ntmps108
 go_upto_block 0 with (first | ((with_reducible refine Z9 (N := 2) rfl ?_); refine bx (N := 2) (cs := #[.string a0_0, .int .i64 a0_1, .int .i64 a0_2, .bool a0_3]) (t := 23) ?_; intro gb599 hg w4 hbox hb; have BK599 := Z0 hbox; have GE599 := ge hg HB.out; replace HB := Z0 (Z1 HB.out hb); clear hb hbox hg) | ((with_reducible refine Z9 (N := 3) rfl ?_); refine bx (N := 3) (cs := #[.int .i64 a1_0, .int .i64 a1_1, .string a1_2]) (t := 25) ?_; intro gb600 hg w5 hbox hb; have BK600 := Z0 hbox; have GE600 := ge hg HB.out; replace HB := Z0 (Z1 HB.out hb); obtain ⟨NB599_600, NB600_599⟩ := nb hg BK599.out; replace BK599 := Z0 (Z2 BK599.out hb); clear hb hbox hg))
 (try simp only [Act.put, Z3, Z6, Z7])
 go_cut [5] (fun v5 wc => ∃ (kq : Nat) (x5_2 : ByteArray), v5 = .string x5_2 ∧ Aside0 (cabinetryref03_shown.j1 kq x5_2 a0_0 a0_1 a0_2 a0_3 = some r) ∧ Aside0 (kq ≤ k) ∧ Aside0 (wc.heap[gb599]? = some (.cells #[.string a0_0, .int .i64 a0_1, .int .i64 a0_2, .bool a0_3] 23 (0, 0))) ∧ Aside0 (wc.heap[gb600]? = some (.cells #[.int .i64 a1_0, .int .i64 a1_1, .string a1_2] 25 (0, 0))) ∧ Aside0 (Below w.heap.size w wc))
 case first =>
  have H := HC3.out
  clear HC3
  by_cases c6 : a1_0 = 0
  ·rw [if_pos c6] at H
   have c6b0 : (a1_0 == 0) = true := beq_iff_eq.mpr c6
   have c6b1 : (a1_0 != 0) = false := bne_eq_false_iff_eq.mpr c6
   clear c6
   (first | rw [c6b0] | (simp only [i64_w, i32_w]; rw [c6b0]) | skip)
   have H' := Z0 H
   clear H
   have hnb7 := NB600_599.out
   have hnc7 := NB599_600.out
   obtain ⟨hcz8_0, hcz8_1, hcz8_2⟩ := bc3 BK600.out
   obtain ⟨hfz8_0, hfz8_1, hfz8_2⟩ := bf3 BK600.out
   go_wp2
   go_meet
   case rel => exact ⟨_, ((⟨#[]⟩ : ByteArray)), V2, H', ⟨by first | omega | exact Nat.le_refl _⟩, ⟨bk⟩, ⟨bk⟩, ⟨V0⟩⟩
  rw [if_neg c6] at H
  have c6b0 : (a1_0 == 0) = false := beq_eq_false_iff_ne.mpr c6
  have c6b1 : (a1_0 != 0) = true := bne_iff_ne.mpr c6
  (first | rw [c6b0] | (simp only [i64_w, i32_w]; rw [c6b0]) | skip)
  by_cases c9 : a0_1 = 1
  ·rw [if_pos c9] at H
   have c9b0 : (a0_1 == 1) = true := beq_iff_eq.mpr c9
   have c9b1 : (a0_1 != 1) = false := bne_eq_false_iff_eq.mpr c9
   clear c9
   by_cases c10 : a1_1 = 1
   ·rw [if_pos c10] at H
    have c10b0 : (a1_1 == 1) = true := beq_iff_eq.mpr c10
    have c10b1 : (a1_1 != 1) = false := bne_eq_false_iff_eq.mpr c10
    clear c10
    have H' := Z0 H
    clear H
    have hnb11 := NB600_599.out
    have hnc11 := NB599_600.out
    obtain ⟨hcz12_0, hcz12_1, hcz12_2⟩ := bc3 BK600.out
    obtain ⟨hfz12_0, hfz12_1, hfz12_2⟩ := bf3 BK600.out
    obtain ⟨hcz13_0, hcz13_1, hcz13_2, hcz13_3⟩ := bc4 BK599.out
    obtain ⟨hfz13_0, hfz13_1, hfz13_2, hfz13_3⟩ := bf4 BK599.out
    go_wp2
    go_meet
    case rel => exact ⟨_, ((⟨#[84]⟩ : ByteArray)), V2, H', ⟨by first | omega | exact Nat.le_refl _⟩, ⟨bk⟩, ⟨bk⟩, ⟨V0⟩⟩
   rw [if_neg c10] at H
   have c10b0 : (a1_1 == 1) = false := beq_eq_false_iff_ne.mpr c10
   have c10b1 : (a1_1 != 1) = true := bne_iff_ne.mpr c10
   have H' := Z0 H
   clear H
   have hnb14 := NB600_599.out
   have hnc14 := NB599_600.out
   obtain ⟨hcz15_0, hcz15_1, hcz15_2⟩ := bc3 BK600.out
   obtain ⟨hfz15_0, hfz15_1, hfz15_2⟩ := bf3 BK600.out
   obtain ⟨hcz16_0, hcz16_1, hcz16_2, hcz16_3⟩ := bc4 BK599.out
   obtain ⟨hfz16_0, hfz16_1, hfz16_2, hfz16_3⟩ := bf4 BK599.out
   go_wp2
   go_meet
   case rel => exact ⟨_, ((⟨#[70]⟩ : ByteArray)), V2, H', ⟨by first | omega | exact Nat.le_refl _⟩, ⟨bk⟩, ⟨bk⟩, ⟨V0⟩⟩
  rw [if_neg c9] at H
  have c9b0 : (a0_1 == 1) = false := beq_eq_false_iff_ne.mpr c9
  have c9b1 : (a0_1 != 1) = true := bne_iff_ne.mpr c9
  by_cases c17 : a0_1 = 3
  ·rw [if_pos c17] at H
   have c17b0 : (a0_1 == 3) = true := beq_iff_eq.mpr c17
   have c17b1 : (a0_1 != 3) = false := bne_eq_false_iff_eq.mpr c17
   clear c17
   replace H := Option.bind_eq_some_iff.mp H
   obtain ⟨⟨t601, t602⟩, A180, H⟩ := H
   replace H : (cabinetryref03_shown.j1 k t601 a0_0 a0_1 a0_2 a0_3) = some r := H
   have A18 := Z0 A180
   clear A180
   have H' := Z0 H
   clear H
   have hnb19 := NB600_599.out
   have hnc19 := NB599_600.out
   obtain ⟨hcz20_0, hcz20_1, hcz20_2⟩ := bc3 BK600.out
   obtain ⟨hfz20_0, hfz20_1, hfz20_2⟩ := bf3 BK600.out
   obtain ⟨hcz21_0, hcz21_1, hcz21_2, hcz21_3⟩ := bc4 BK599.out
   obtain ⟨hfz21_0, hfz21_1, hfz21_2, hfz21_3⟩ := bf4 BK599.out
   go_wp2_with (first | ((with_reducible refine Z5 (f := 121) rfl ?_); refine gl Tryz.func121 (cabinetryref01_Stamp.calls k a1_1 t601 t602 _ A18.out) ?_; rintro e w' ⟨rfl, ⟨nd, rfl⟩⟩; refine ⟨_, rfl, ?_⟩))
   go_meet
   case rel => exact ⟨_, (t601), V2, H', ⟨by first | omega | exact Nat.le_refl _⟩, ⟨bk⟩, ⟨bk⟩, ⟨V0⟩⟩
  rw [if_neg c17] at H
  have c17b0 : (a0_1 == 3) = false := beq_eq_false_iff_ne.mpr c17
  have c17b1 : (a0_1 != 3) = true := bne_iff_ne.mpr c17
  by_cases c22 : a0_1 = 4
  ·rw [if_pos c22] at H
   have c22b0 : (a0_1 == 4) = true := beq_iff_eq.mpr c22
   have c22b1 : (a0_1 != 4) = false := bne_eq_false_iff_eq.mpr c22
   clear c22
   have H' := Z0 H
   clear H
   have hnb23 := NB600_599.out
   have hnc23 := NB599_600.out
   obtain ⟨hcz24_0, hcz24_1, hcz24_2⟩ := bc3 BK600.out
   obtain ⟨hfz24_0, hfz24_1, hfz24_2⟩ := bf3 BK600.out
   obtain ⟨hcz25_0, hcz25_1, hcz25_2, hcz25_3⟩ := bc4 BK599.out
   obtain ⟨hfz25_0, hfz25_1, hfz25_2, hfz25_3⟩ := bf4 BK599.out
   go_wp2
   go_meet
   case rel => exact ⟨_, (a1_2), V2, H', ⟨by first | omega | exact Nat.le_refl _⟩, ⟨bk⟩, ⟨bk⟩, ⟨V0⟩⟩
  rw [if_neg c22] at H
  have c22b0 : (a0_1 == 4) = false := beq_eq_false_iff_ne.mpr c22
  have c22b1 : (a0_1 != 4) = true := bne_iff_ne.mpr c22
  have HC26 := Z0 H
  clear H
  have hnb27 := NB600_599.out
  have hnc27 := NB599_600.out
  obtain ⟨hcz28_0, hcz28_1, hcz28_2⟩ := bc3 BK600.out
  obtain ⟨hfz28_0, hfz28_1, hfz28_2⟩ := bf3 BK600.out
  obtain ⟨hcz29_0, hcz29_1, hcz29_2, hcz29_3⟩ := bc4 BK599.out
  obtain ⟨hfz29_0, hfz29_1, hfz29_2, hfz29_3⟩ := bf4 BK599.out
  go_upto_region 13 with (fail)
  go_cut [44] (fun v44 wc => ∃ (kq : Nat) (x44_25 : Bool), v44 = .bool x44_25 ∧ Aside0 (cabinetryref03_shown.j0 kq (⟨#[]⟩ : ByteArray) x44_25 a0_0 a0_1 a0_2 a0_3 a1_0 a1_1 a1_2 = some r) ∧ Aside0 (kq ≤ k) ∧ Aside0 (wc.heap[gb599]? = some (.cells #[.string a0_0, .int .i64 a0_1, .int .i64 a0_2, .bool a0_3] 23 (0, 0))) ∧ Aside0 (wc.heap[gb600]? = some (.cells #[.int .i64 a1_0, .int .i64 a1_1, .string a1_2] 25 (0, 0))) ∧ Aside0 (Below w.heap.size w wc))
  case first =>
   have H := HC26.out
   clear HC26
   by_cases c30 : a0_1 = 5
   rotate_left
   ·rw [if_neg c30] at H
    have c30b0 : (a0_1 == 5) = false := beq_eq_false_iff_ne.mpr c30
    have c30b1 : (a0_1 != 5) = true := bne_iff_ne.mpr c30
    (first | rw [c30b0] | (simp only [i64_w, i32_w]; rw [c30b0]) | skip)
    have H' := Z0 H
    clear H
    have hnb34 := NB599_600.out
    have hnc34 := NB600_599.out
    obtain ⟨hcz35_0, hcz35_1, hcz35_2, hcz35_3⟩ := bc4 BK599.out
    obtain ⟨hfz35_0, hfz35_1, hfz35_2, hfz35_3⟩ := bf4 BK599.out
    go_wp2
    go_meet
    case rel => exact ⟨_, (false), V2, H', ⟨by first | omega | exact Nat.le_refl _⟩, ⟨bk⟩, ⟨bk⟩, ⟨V0⟩⟩
   rw [if_pos c30] at H
   have c30b0 : (a0_1 == 5) = true := beq_iff_eq.mpr c30
   have c30b1 : (a0_1 != 5) = false := bne_eq_false_iff_eq.mpr c30
   clear c30
   (first | rw [c30b0] | (simp only [i64_w, i32_w]; rw [c30b0]) | skip)
   have H' := Z0 H
   clear H
   have hnb31 := NB599_600.out
   have hnc31 := NB600_599.out
   obtain ⟨hcz32_0, hcz32_1, hcz32_2, hcz32_3⟩ := bc4 BK599.out
   obtain ⟨hfz32_0, hfz32_1, hfz32_2, hfz32_3⟩ := bf4 BK599.out
   obtain ⟨hcz33_0, hcz33_1, hcz33_2⟩ := bc3 BK600.out
   obtain ⟨hfz33_0, hfz33_1, hfz33_2⟩ := bf3 BK600.out
   go_wp2
   go_meet
   case rel => exact ⟨_, ((a1_1 == 0)), V2, H', ⟨by first | omega | exact Nat.le_refl _⟩, ⟨bk⟩, ⟨bk⟩, ⟨V0⟩⟩
  case rest =>
   clear HC26
   obtain ⟨kq, x44_25, rfl, HA, HJ25, BK599, BK600, HB⟩ := hcut
   cases kq with
   | zero => exact absurd HA.out (by simp [cabinetryref03_shown.j0])
   | succ kj25 =>
    have H := HA.out
    clear HA
    simp only [cabinetryref03_shown.j0] at H
    by_cases c36 : x44_25 = true
    ·subst c36
     have H1 : (cabinetryref03_shown.j1 kj25 (⟨#[]⟩ : ByteArray) a0_0 a0_1 a0_2 a0_3) = some r := by rw [if_pos rfl] at H; exact H
     clear H
     have H := H1
     clear H1
     have H' := Z0 H
     clear H
     go_wp2
     go_meet
     case rel => exact ⟨_, ((⟨#[]⟩ : ByteArray)), V2, H', ⟨by have := HJ25.out; first | omega | exact Nat.le_refl _⟩, ⟨bk⟩, ⟨bk⟩, ⟨V0⟩⟩
    replace c36 := Bool.eq_false_iff.mpr c36
    subst c36
    have H1 : ((cabinetryref01_Written.f kj25 a1_1).bind fun t603 => ((cabinetryref01_Times.f kj25 (⟨#[32]⟩ : ByteArray) (wrap64 (a0_2 - (t603.size : Int)))).bind fun t604 => (if t604.size + t603.size ≤ 9223372036854775807 then (some (t604 ++ t603)) else (none)))) = some r := by rw [if_neg (show ¬ (false = true) by decide)] at H; exact H
    clear H
    have H := H1
    clear H1
    replace H := Option.bind_eq_some_iff.mp H
    obtain ⟨t603, A370, H⟩ := H
    replace H : ((cabinetryref01_Times.f kj25 (⟨#[32]⟩ : ByteArray) (wrap64 (a0_2 - (t603.size : Int)))).bind fun t604 => (if t604.size + t603.size ≤ 9223372036854775807 then (some (t604 ++ t603)) else (none))) = some r := H
    have A37 := Z0 A370
    clear A370
    replace H := Option.bind_eq_some_iff.mp H
    obtain ⟨t604, A380, H⟩ := H
    replace H : (if t604.size + t603.size ≤ 9223372036854775807 then (some (t604 ++ t603)) else (none)) = some r := H
    have A38 := Z0 A380
    clear A380
    by_cases c39 : t604.size + t603.size ≤ 9223372036854775807
    rotate_left
    ·rw [if_neg c39] at H
     exact absurd H (by simp)
    rw [if_pos c39] at H
    have c39b0 := eq_true c39
    have c39b1 : decide (t604.size + t603.size ≤ 9223372036854775807) = true := decide_eq_true c39
    try have c39b2 : (9223372036854775807 < t604.size + t603.size) = False := eq_false (Nat.not_lt.2 c39)
    obtain rfl := Option.some.inj H
    have hnb40 := NB600_599.out
    have hnc40 := NB599_600.out
    obtain ⟨hcz41_0, hcz41_1, hcz41_2⟩ := bc3 BK600.out
    obtain ⟨hfz41_0, hfz41_1, hfz41_2⟩ := bf3 BK600.out
    go_wp2_with (first | ((with_reducible refine Z5 (f := 119) rfl ?_); refine gl Tryz.func119 (cabinetryref01_Written.calls kj25 a1_1 t603 _ A37.out) ?_; rintro e w' ⟨rfl, ⟨nd, rfl⟩⟩; refine ⟨_, rfl, ?_⟩; obtain ⟨hcz42_0, hcz42_1, hcz42_2, hcz42_3⟩ := bc4 BK599.out; obtain ⟨hfz42_0, hfz42_1, hfz42_2, hfz42_3⟩ := bf4 BK599.out) | ((with_reducible refine Z5 (f := 148) rfl ?_); refine gl Tryz.func148 (cabinetryref01_Times.calls kj25 (⟨#[32]⟩ : ByteArray) (wrap64 (a0_2 - (t603.size : Int))) t604 _ A38.out) ?_; rintro e w' ⟨rfl, ⟨nd, rfl⟩⟩; refine ⟨_, rfl, ?_⟩))
    go_ret
    exact ⟨rfl, V0⟩
 case rest =>
  clear HC3
  obtain ⟨kq, x5_2, rfl, HA, HJ2, BK599, BK600, HB⟩ := hcut
  cases kq with
  | zero => exact absurd HA.out (by simp [cabinetryref03_shown.j1])
  | succ kj2 =>
   have H := HA.out
   clear HA
   simp only [cabinetryref03_shown.j1] at H
   replace H := Option.bind_eq_some_iff.mp H
   obtain ⟨t605, A430, H⟩ := H
   replace H : (if x5_2.size + t605.size ≤ 9223372036854775807 then (some (x5_2 ++ t605)) else (none)) = some r := H
   have A43 := Z0 A430
   clear A430
   by_cases c44 : x5_2.size + t605.size ≤ 9223372036854775807
   rotate_left
   ·rw [if_neg c44] at H
    exact absurd H (by simp)
   rw [if_pos c44] at H
   have c44b0 := eq_true c44
   have c44b1 : decide (x5_2.size + t605.size ≤ 9223372036854775807) = true := decide_eq_true c44
   try have c44b2 : (9223372036854775807 < x5_2.size + t605.size) = False := eq_false (Nat.not_lt.2 c44)
   obtain rfl := Option.some.inj H
   have hnb45 := NB599_600.out
   have hnc45 := NB600_599.out
   obtain ⟨hcz46_0, hcz46_1, hcz46_2, hcz46_3⟩ := bc4 BK599.out
   obtain ⟨hfz46_0, hfz46_1, hfz46_2, hfz46_3⟩ := bf4 BK599.out
   go_wp2_with (first | ((with_reducible refine Z5 (f := 148) rfl ?_); refine gl Tryz.func148 (cabinetryref01_Times.calls kj2 (⟨#[32]⟩ : ByteArray) (wrap64 (a0_2 - (x5_2.size : Int))) t605 _ A43.out) ?_; rintro e w' ⟨rfl, ⟨nd, rfl⟩⟩; refine ⟨_, rfl, ?_⟩))
   go_ret
   exact ⟨rfl, V0⟩
def val_Stamp.f (k : Nat) (a0 : Int) : Option (ByteArray × Int) := (val_isDay.f a0).bind fun t565 => (if t565 = true then (if a0 = 0 then (some ((⟨#[32, 32, 32, 32, 32, 32, 32, 32]⟩ : ByteArray), 0)) else ((val_stamp.f k a0).bind fun t566 => (some (t566, 0)))) else (some ((⟨#[]⟩ : ByteArray), 1)))
theorem val_Stamp.mono : ∀ a0 k, LeO (val_Stamp.f k a0) (val_Stamp.f (k + 1) a0) := by
 intro a0 k
 unfold val_Stamp.f
 repeat' first
   | (with_reducible exact val_stamp.mono _ _)
   | (with_reducible exact LeO.refl _)
   | (with_reducible exact LeO.none _)
   | (with_reducible refine LeO.ite ?_ ?_)
   | (with_reducible refine LeO.bind ?_ (fun _ => ?_))
theorem val_Stamp.calls (k : Nat) (a0 : Int) (r1 : ByteArray) (r2 : Int) (w : World) (h : val_Stamp.f k a0 = some (r1, r2)) :
  Calls Tryz.prog 156 #[.int .i64 a0] w fun e w' => e = .returned (.tuple #[.string r1, .int .i64 r2]) ∧ Below w.heap.size w w' := by
 have HB := Z0 (Below.refl w.heap.size w)
 unfold val_Stamp.f at h
 have H := h
 clear h
 replace H := Option.bind_eq_some_iff.mp H
 obtain ⟨t565, A20, H⟩ := H
 replace H : (if t565 = true then (if a0 = 0 then (some ((⟨#[32, 32, 32, 32, 32, 32, 32, 32]⟩ : ByteArray), 0)) else ((val_stamp.f k a0).bind fun t566 => (some (t566, 0)))) else (some ((⟨#[]⟩ : ByteArray), 1))) = some (r1, r2) := H
 have A2 := Z0 A20
 clear A20
 by_cases c3 : t565 = true
 rotate_left
 ·replace c3 := Bool.eq_false_iff.mpr c3
  subst c3
  have H1 : (some ((⟨#[]⟩ : ByteArray), 1)) = some (r1, r2) := by rw [if_neg (show ¬ (false = true) by decide)] at H; exact H
  clear H
  have H := H1
  clear H1
  simp only [Option.some.injEq, Prod.mk.injEq] at H
  obtain ⟨rfl, rfl⟩ := H
  go_enter Tryz.func156, Tryz.ntmps156
  go_wp2_with (first | ((with_reducible refine Z5 (f := 136) rfl ?_); refine gl Tryz.func136 (val_isDay.calls a0 false _ A2.out) ?_; rintro e w' ⟨rfl, ⟨nd, rfl⟩⟩; refine ⟨_, rfl, ?_⟩))
  go_ret2
  exact ⟨rfl, V0⟩
 subst c3
 have H1 : (if a0 = 0 then (some ((⟨#[32, 32, 32, 32, 32, 32, 32, 32]⟩ : ByteArray), 0)) else ((val_stamp.f k a0).bind fun t566 => (some (t566, 0)))) = some (r1, r2) := by rw [if_pos rfl] at H; exact H
 clear H
 have H := H1
 clear H1
 by_cases c4 : a0 = 0
 ·rw [if_pos c4] at H
  have c4b0 : (a0 == 0) = true := beq_iff_eq.mpr c4
  have c4b1 : (a0 != 0) = false := bne_eq_false_iff_eq.mpr c4
  clear c4
  simp only [Option.some.injEq, Prod.mk.injEq] at H
  obtain ⟨rfl, rfl⟩ := H
  go_enter Tryz.func156, Tryz.ntmps156
  go_wp2_with (first | ((with_reducible refine Z5 (f := 136) rfl ?_); refine gl Tryz.func136 (val_isDay.calls a0 true _ A2.out) ?_; rintro e w' ⟨rfl, ⟨nd, rfl⟩⟩; refine ⟨_, rfl, ?_⟩))
  go_ret2
  exact ⟨rfl, V0⟩
 rw [if_neg c4] at H
 have c4b0 : (a0 == 0) = false := beq_eq_false_iff_ne.mpr c4
 have c4b1 : (a0 != 0) = true := bne_iff_ne.mpr c4
 replace H := Option.bind_eq_some_iff.mp H
 obtain ⟨t566, A50, H⟩ := H
 replace H : (some (t566, 0)) = some (r1, r2) := H
 have A5 := Z0 A50
 clear A50
 simp only [Option.some.injEq, Prod.mk.injEq] at H
 obtain ⟨rfl, rfl⟩ := H
 go_enter Tryz.func156, Tryz.ntmps156
 go_wp2_with (first | ((with_reducible refine Z5 (f := 136) rfl ?_); refine gl Tryz.func136 (val_isDay.calls a0 true _ A2.out) ?_; rintro e w' ⟨rfl, ⟨nd, rfl⟩⟩; refine ⟨_, rfl, ?_⟩) | ((with_reducible refine Z5 (f := 167) rfl ?_); refine gl Tryz.func167 (val_stamp.calls k a0 t566 _ A5.out) ?_; rintro e w6 ⟨rfl, hb⟩; refine ⟨_, rfl, ?_⟩; replace HB := Z0 (Z1 V0 hb)))
 go_ret2
 exact ⟨rfl, V0⟩
end
def ofL (l : List UInt8) : ByteArray := ⟨l.toArray⟩
theorem ofL_append (a b : List UInt8) : ofL a ++ ofL b = ofL (a ++ b) := by
 apply ByteArray.ext
 rw [ByteArray.data_append]
 simp [ofL]
theorem ofL_size (a : List UInt8) : (ofL a).size = a.length := by
 show (ofL a).data.size = a.length
 simp [ofL]
theorem repeatL_rep (b : UInt8) : ∀ n, Lib.repeatL [b] n = List.replicate n b
 | 0 => rfl
 | n + 1 => by
  have := repeatL_rep b n
  simp [Lib.repeatL, this, List.replicate_succ]
theorem repeat_is (b : UInt8) (n : Int) (h0 : 0 ≤ n) (h1 : n ≤ 1000000) : strings_Repeat.f (⟨#[b]⟩ : ByteArray) n = some (ofL (List.replicate n.toNat b)) := by
 unfold strings_Repeat.f
 have e : (⟨#[b]⟩ : ByteArray).size = 1 := rfl
 rw [e, if_pos ⟨h0, by omega, by omega⟩]
 have : ((⟨#[b]⟩ : ByteArray).data.toList) = [b] := rfl
 rw [this, repeatL_rep]
 rfl
theorem times_go (b : UInt8) (n : Int) (hn : n ≤ 1000000) : ∀ (r i k : Nat), (i : Int) + r = n → r < k → cabinetryref01_Times.l0 k (⟨#[b]⟩ : ByteArray) n (ofL (List.replicate i b)) (i : Int) = some (ofL (List.replicate (i + r) b))
 | 0, i, k, h, hk => by
  obtain ⟨m, rfl⟩ : ∃ m, k = m + 1 := ⟨k - 1, by omega⟩
  simp only [cabinetryref01_Times.l0]
  rw [if_neg (by omega)]
  rfl
 | r + 1, i, k, h, hk => by
  obtain ⟨m, rfl⟩ : ∃ m, k = m + 1 := ⟨k - 1, by omega⟩
  simp only [cabinetryref01_Times.l0]
  have e1 : (⟨#[b]⟩ : ByteArray).size = 1 := rfl
  have e2 : ofL (List.replicate i b) ++ (⟨#[b]⟩ : ByteArray) = ofL (List.replicate (i + 1) b) := by
   show ofL _ ++ ofL [b] = _
   rw [ofL_append, List.replicate_succ']
  rw [if_pos (by omega), e1, ofL_size, List.length_replicate, if_pos (by omega), e2, wr64 _ (by omega)]
  have := times_go b n hn r (i + 1) m (by omega) (by omega)
  rw [show ((i + 1 : Nat) : Int) = (i : Int) + 1 from by omega] at this
  rw [this]
  congr 2
  congr 1
  omega
theorem times_is (b : UInt8) (n : Int) (hn : n ≤ 1000000) (k : Nat) (hk : 1000001 < k) : cabinetryref01_Times.f k (⟨#[b]⟩ : ByteArray) n = some (ofL (List.replicate n.toNat b)) := by
 unfold cabinetryref01_Times.f
 by_cases h : 0 ≤ n
 ·have := times_go b n hn n.toNat 0 k (by omega) (by omega)
  rw [Nat.zero_add] at this
  exact this
 obtain ⟨m, rfl⟩ : ∃ m, k = m + 1 := ⟨k - 1, by omega⟩
 simp only [cabinetryref01_Times.l0]
 rw [if_neg (by omega)]
 have : n.toNat = 0 := by omega
 rw [this]
 rfl
theorem padded_go (w : Int) (hw : w ≤ 1000) (s : List UInt8) (hs : s.length ≤ 1000) : ∀ (r k : Nat), r < k → (s.length : Int) + r ≤ max w s.length → ∀ i : Nat, i + r = (w - s.length).toNat → cabinetryref01_Padded.l0 k w (ofL (List.replicate i 48 ++ s)) = some (ofL (List.replicate (w - s.length).toNat 48 ++ s))
 | 0, k, hk, hm, i, hi => by
  obtain ⟨m, rfl⟩ : ∃ m, k = m + 1 := ⟨k - 1, by omega⟩
  simp only [cabinetryref01_Padded.l0]
  rw [ofL_size, List.length_append, List.length_replicate, if_neg (by omega)]
  rw [show i = (w - s.length).toNat from by omega]
 | r + 1, k, hk, hm, i, hi => by
  obtain ⟨m, rfl⟩ : ∃ m, k = m + 1 := ⟨k - 1, by omega⟩
  simp only [cabinetryref01_Padded.l0]
  have e2 : (⟨#[48]⟩ : ByteArray) ++ ofL (List.replicate i 48 ++ s) = ofL (List.replicate (i + 1) 48 ++ s) := by
   show ofL [48] ++ _ = _
   rw [ofL_append, List.replicate_succ]
   rfl
  rw [ofL_size, List.length_append, List.length_replicate, if_pos (by omega), if_pos (by omega), e2]
  exact padded_go w hw s hs r m (by omega) (by omega) (i + 1) (by omega)
def padL (n w : Int) : List UInt8 := List.replicate (w - ((decL n).length : Int)).toNat 48 ++ decL n
theorem refPadded_is (n w : Int) (h0 : 0 ≤ n) (h1 : n ≤ 1000000) (hw : w ≤ 1000) (hl : (decL n).length ≤ 10) : Ev (fun k => cabinetryref01_Padded.f k n w) (ofL (padL n w)) := by
 obtain ⟨K, hK⟩ := Written_is n (by omega)
 refine ⟨K + 1100, fun k hk => ?_⟩
 have e : cabinetryref01_Written.f k n = some (ofL (decL n)) := hK k (by omega)
 show cabinetryref01_Padded.f k n w = _
 unfold cabinetryref01_Padded.f
 rw [e]
 simp only [Option.bind_some]
 have := padded_go w hw (decL n) (by omega) (w - (decL n).length).toNat k (by omega) (by omega) 0 (by omega)
 exact this
theorem valPadded_is (n w : Int) (h0 : 0 ≤ n) (h1 : n ≤ 1000000) (hw : w ≤ 1000) (hl : ((decL n).length : Int) ≤ w) : val_padded.f n w = some (ofL (padL n w)) := by
 have e : val_decimal.f n = some (ofL (decL n)) := by
  unfold val_decimal.f
  rw [if_pos (by omega)]
  rfl
 unfold val_padded.f
 rw [e]
 simp only [Option.bind_some]
 rw [ofL_size, wr64 _ (by omega), repeat_is 48 _ (by omega) (by omega)]
 simp only [Option.bind_some]
 rw [ofL_size, List.length_replicate, if_pos (by omega), ofL_append]
 rfl
theorem decLn_len (n : Int) (c : Nat) (h0 : 0 ≤ n) (h : n < 10 ^ (c + 1)) : (decL n).length ≤ c + 1 := by
 unfold decL
 rw [if_neg (by omega)]
 refine dig10_len _ _ ?_
 have e : ((10 ^ (c + 1) : Nat) : Int) = (10 : Int) ^ (c + 1) := by push_cast; rfl
 omega
theorem padL_len (n w : Int) : (padL n w).length ≤ (w.toNat + (decL n).length) := by
 unfold padL
 rw [List.length_append, List.length_replicate]
 omega
theorem padL_eq (n w : Int) (h : ((decL n).length : Int) ≤ w) : (padL n w).length = w.toNat := by
 unfold padL
 rw [List.length_append, List.length_replicate]
 omega
theorem stamp_is (day : Int) (h0 : 0 ≤ day) (h1 : day ≤ 3652059) : ∃ s : ByteArray, val_Stamp.f 100 day = some (s, 0) ∧ s.size = 8 ∧ Ev (fun k => cabinetryref01_Stamp.f k day) (s, 0) := by
 have hd : val_isDay.f day = some true := by
  unfold val_isDay.f
  rw [if_pos (by omega), decide_eq_true (by omega)]
 by_cases hz : day = 0
 ·subst hz
  refine ⟨⟨#[32, 32, 32, 32, 32, 32, 32, 32]⟩, ?_, rfl, ⟨10, fun k hk => ?_⟩⟩
  ·unfold val_Stamp.f
   rw [hd]
   rfl
  obtain ⟨q, rfl⟩ : ∃ q, k = q + 1 := ⟨k - 1, by omega⟩
  show cabinetryref01_Stamp.f (q + 1) 0 = _
  unfold cabinetryref01_Stamp.f cabinetryref01_Split.f
  simp [cabinetryref01_Split.j0]
 obtain ⟨y, m, d, hc⟩ := cal_ex day (by omega) h1
 have y1 := hc.y1
 have y2 := hc.y2
 have m2 := hc.m2
 have d1 := hc.d1
 have d2 := hc.d2
 have l2 := ml_pos y ((m : Int) + 1)
 have a1 := decLn_len y 3 (by omega) (by omega)
 have a2 := decLn_len ((m : Int) + 1) 1 (by omega) (by omega)
 have a3 := decLn_len d 1 (by omega) (by omega)
 have b1 := padL_len y 4
 have b2 := padL_len ((m : Int) + 1) 2
 have b3 := padL_len d 2
 refine ⟨ofL (padL y 4 ++ padL ((m : Int) + 1) 2 ++ padL d 2), ?_, by rw [ofL_size, List.length_append, List.length_append, padL_eq y 4 (by omega), padL_eq _ 2 (by omega), padL_eq d 2 (by omega)]; rfl, ?_⟩
 ·unfold val_Stamp.f
  rw [hd]
  simp only [Option.bind_some, if_true]
  rw [if_neg hz]
  unfold val_stamp.f
  rw [split_is hc (by omega) h1 100 (by omega)]
  simp only [Option.bind_some]
  rw [valPadded_is y 4 (by omega) (by omega) (by omega) (by omega), valPadded_is ((m : Int) + 1) 2 (by omega) (by omega) (by omega) (by omega), valPadded_is d 2 (by omega) (by omega) (by omega) (by omega)]
  simp only [Option.bind_some, ofL_append, ofL_size, List.length_append]
  rw [if_pos (by omega), if_pos (by omega)]
  rfl
 obtain ⟨K1, e1⟩ := refPadded_is y 4 (by omega) (by omega) (by omega) (by omega)
 obtain ⟨K2, e2⟩ := refPadded_is ((m : Int) + 1) 2 (by omega) (by omega) (by omega) (by omega)
 obtain ⟨K3, e3⟩ := refPadded_is d 2 (by omega) (by omega) (by omega) (by omega)
 refine ⟨K1 + K2 + K3 + 10080, fun k hk => ?_⟩
 have f1 : cabinetryref01_Padded.f k y 4 = some (ofL (padL y 4)) := e1 k (by omega)
 have f2 : cabinetryref01_Padded.f k ((m : Int) + 1) 2 = some (ofL (padL ((m : Int) + 1) 2)) := e2 k (by omega)
 have f3 : cabinetryref01_Padded.f k d 2 = some (ofL (padL d 2)) := e3 k (by omega)
 show cabinetryref01_Stamp.f k day = _
 unfold cabinetryref01_Stamp.f
 rw [refSplit_is hc (by omega) h1 k (by omega)]
 simp only [Option.bind_some, if_true]
 rw [if_neg hz, f1, f2, f3]
 simp only [Option.bind_some, ofL_append, ofL_size, List.length_append]
 rw [if_pos (by omega), if_pos (by omega)]
theorem blanks_size (s : ByteArray) : (blanksOff s).size ≤ s.size := by
 unfold blanksOff
 rw [ba_size, ← data_length s]
 exact trimRightS_len _ _
theorem extract_all (s : ByteArray) (n : Nat) (h : s.size ≤ n) : s.extract 0 (min s.size n) = s := by
 rw [Nat.min_eq_left h]
 apply ByteArray.ext
 rw [ByteArray.data_extract]
 exact Array.extract_size
section
attribute [local go_sem] max2_int min2_int max_two min_two max_three min_three max_four min_four
theorem eqA25 (d : Nat) (w : World) (x0 y0 : Int) (x1 y1 : Int) (x2 y2 : ByteArray) :
  (Op.equalIn (d + 2) 25 (.agg #[.int .i64 x0, .int .i64 x1, .string x2]) (.agg #[.int .i64 y0, .int .i64 y1, .string y2])).run Tryz.prog w = .ok (x0 == y0 && (x1 == y1 && (x2.toList == y2.toList))) w := by
 refine eqA_of Tryz.underlying25 (by kernel_rfl) ?_
 refine eqf_cons (by rfl) (by go_simp; rfl) (by go_simp; rfl) (by go_simp) ?_
 refine eqf_cons (by rfl) (by go_simp; rfl) (by go_simp; rfl) (by go_simp) ?_
 exact eqf_last (by rfl) (by go_simp; rfl) (by go_simp; rfl) (by go_simp)
end
section
attribute [local go_sem high] eqA25
attribute [local go_sem] max2_int min2_int max_two min_two max_three min_three max_four min_four
def table_holds.f (k : Nat) (a0_0 : ByteArray) (a0_1 : Int) (a0_2 : Int) (a0_3 : Bool) (a1 : Int) (a2_0 : Int) (a2_1 : Int) (a2_2 : ByteArray) : Option (Bool) := if a2_0 = 0 then (if a0_3 = true then (some (a2_0 == 0 && (a2_1 == 0 && (a2_2.toList == ([] : List UInt8))))) else (some false)) else ((val_Validate.f k a2_0 a2_1 a2_2).bind fun t176 => (if t176 = 0 then ((table_Fit.f a0_0 a0_1 a0_2 a0_3 a1 a2_0 a2_1 a2_2).bind fun bt177 => (if bt177.2.2.2 = 0 then (some (bt177.1 == a2_0 && (bt177.2.1 == a2_1 && (bt177.2.2.1.toList == a2_2.toList)))) else (some false))) else (some false)))
theorem table_holds.mono : ∀ a0 a1 a2 a3 a4 a5 a6 a7 k, LeO (table_holds.f k a0 a1 a2 a3 a4 a5 a6 a7) (table_holds.f (k + 1) a0 a1 a2 a3 a4 a5 a6 a7) := by
 intro a0 a1 a2 a3 a4 a5 a6 a7 k
 unfold table_holds.f
 repeat' first
   | (with_reducible exact val_Validate.mono _ _ _ _)
   | (with_reducible exact LeO.refl _)
   | (with_reducible exact LeO.none _)
   | (with_reducible refine LeO.ite ?_ ?_)
   | (with_reducible refine LeO.bind ?_ (fun _ => ?_))
theorem table_holds.calls (k : Nat) (a0_0 : ByteArray) (a0_1 : Int) (a0_2 : Int) (a0_3 : Bool) (a1 : Int) (a2_0 : Int) (a2_1 : Int) (a2_2 : ByteArray) (r : Bool) (w : World) (h : table_holds.f k a0_0 a0_1 a0_2 a0_3 a1 a2_0 a2_1 a2_2 = some r) :
  Calls Tryz.prog 73 #[.agg #[.string a0_0, .int .i64 a0_1, .int .i64 a0_2, .bool a0_3], .int .i64 a1, .agg #[.int .i64 a2_0, .int .i64 a2_1, .string a2_2]] w fun e w' => e = .returned (.bool r) ∧ Below w.heap.size w w' := by
 have hu23 := Tryz.underlying23
 have hu25 := Tryz.underlying25
 have HB := Z0 (Below.refl w.heap.size w)
 unfold table_holds.f at h
 have H := h
 clear h
 by_cases c4 : a2_0 = 0
 ·rw [if_pos c4] at H
  have c4b0 : (a2_0 == 0) = true := beq_iff_eq.mpr c4
  have c4b1 : (a2_0 != 0) = false := bne_eq_false_iff_eq.mpr c4
  clear c4
  by_cases c5 : a0_3 = true
  ·subst c5
   have H1 : (some (a2_0 == 0 && (a2_1 == 0 && (a2_2.toList == ([] : List UInt8))))) = some r := by rw [if_pos rfl] at H; exact H
   clear H
   have H := H1
   clear H1
   obtain rfl := Option.some.inj H
   go_enter Tryz.func73, Tryz.ntmps73
   go_wp2_with (first | ((with_reducible refine Z9 (N := 3) rfl ?_); refine bx (N := 3) (cs := #[.string a0_0, .int .i64 a0_1, .int .i64 a0_2, .bool true]) (t := 23) ?_; intro gb174 hg w6 hbox hb; have BK174 := Z0 hbox; have GE174 := ge hg HB.out; replace HB := Z0 (Z1 HB.out hb); clear hb hbox hg) | ((with_reducible refine Z9 (N := 5) rfl ?_); refine bx (N := 5) (cs := #[.int .i64 a2_0, .int .i64 a2_1, .string a2_2]) (t := 25) ?_; intro gb175 hg w7 hbox hb; have BK175 := Z0 hbox; have GE175 := ge hg HB.out; replace HB := Z0 (Z1 HB.out hb); obtain ⟨NB174_175, NB175_174⟩ := nb hg BK174.out; replace BK174 := Z0 (Z2 BK174.out hb); clear hb hbox hg; have hnb8 := NB175_174.out; have hnc8 := NB174_175.out; obtain ⟨hcz9_0, hcz9_1, hcz9_2⟩ := bc3 BK175.out; obtain ⟨hfz9_0, hfz9_1, hfz9_2⟩ := bf3 BK175.out; obtain ⟨hcz10_0, hcz10_1, hcz10_2, hcz10_3⟩ := bc4 BK174.out; obtain ⟨hfz10_0, hfz10_1, hfz10_2, hfz10_3⟩ := bf4 BK174.out))
   go_ret
   exact ⟨rfl, V0⟩
  replace c5 := Bool.eq_false_iff.mpr c5
  subst c5
  have H1 : (some false) = some r := by rw [if_neg (show ¬ (false = true) by decide)] at H; exact H
  clear H
  have H := H1
  clear H1
  obtain rfl := Option.some.inj H
  go_enter Tryz.func73, Tryz.ntmps73
  go_wp2_with (first | ((with_reducible refine Z9 (N := 3) rfl ?_); refine bx (N := 3) (cs := #[.string a0_0, .int .i64 a0_1, .int .i64 a0_2, .bool false]) (t := 23) ?_; intro gb174 hg w11 hbox hb; have BK174 := Z0 hbox; have GE174 := ge hg HB.out; replace HB := Z0 (Z1 HB.out hb); clear hb hbox hg) | ((with_reducible refine Z9 (N := 5) rfl ?_); refine bx (N := 5) (cs := #[.int .i64 a2_0, .int .i64 a2_1, .string a2_2]) (t := 25) ?_; intro gb175 hg w12 hbox hb; have BK175 := Z0 hbox; have GE175 := ge hg HB.out; replace HB := Z0 (Z1 HB.out hb); obtain ⟨NB174_175, NB175_174⟩ := nb hg BK174.out; replace BK174 := Z0 (Z2 BK174.out hb); clear hb hbox hg; have hnb13 := NB175_174.out; have hnc13 := NB174_175.out; obtain ⟨hcz14_0, hcz14_1, hcz14_2⟩ := bc3 BK175.out; obtain ⟨hfz14_0, hfz14_1, hfz14_2⟩ := bf3 BK175.out; obtain ⟨hcz15_0, hcz15_1, hcz15_2, hcz15_3⟩ := bc4 BK174.out; obtain ⟨hfz15_0, hfz15_1, hfz15_2, hfz15_3⟩ := bf4 BK174.out))
  go_ret
  exact ⟨rfl, V0⟩
 rw [if_neg c4] at H
 have c4b0 : (a2_0 == 0) = false := beq_eq_false_iff_ne.mpr c4
 have c4b1 : (a2_0 != 0) = true := bne_iff_ne.mpr c4
 replace H := Option.bind_eq_some_iff.mp H
 obtain ⟨t176, A160, H⟩ := H
 replace H : (if t176 = 0 then ((table_Fit.f a0_0 a0_1 a0_2 a0_3 a1 a2_0 a2_1 a2_2).bind fun bt177 => (if bt177.2.2.2 = 0 then (some (bt177.1 == a2_0 && (bt177.2.1 == a2_1 && (bt177.2.2.1.toList == a2_2.toList)))) else (some false))) else (some false)) = some r := H
 have A16 := Z0 A160
 clear A160
 by_cases c17 : t176 = 0
 rotate_left
 ·rw [if_neg c17] at H
  have c17b0 : (t176 == 0) = false := beq_eq_false_iff_ne.mpr c17
  have c17b1 : (t176 != 0) = true := bne_iff_ne.mpr c17
  obtain rfl := Option.some.inj H
  go_enter Tryz.func73, Tryz.ntmps73
  go_wp2_with (first | ((with_reducible refine Z9 (N := 3) rfl ?_); refine bx (N := 3) (cs := #[.string a0_0, .int .i64 a0_1, .int .i64 a0_2, .bool a0_3]) (t := 23) ?_; intro gb174 hg w45 hbox hb; have BK174 := Z0 hbox; have GE174 := ge hg HB.out; replace HB := Z0 (Z1 HB.out hb); clear hb hbox hg) | ((with_reducible refine Z9 (N := 5) rfl ?_); refine bx (N := 5) (cs := #[.int .i64 a2_0, .int .i64 a2_1, .string a2_2]) (t := 25) ?_; intro gb175 hg w46 hbox hb; have BK175 := Z0 hbox; have GE175 := ge hg HB.out; replace HB := Z0 (Z1 HB.out hb); obtain ⟨NB174_175, NB175_174⟩ := nb hg BK174.out; replace BK174 := Z0 (Z2 BK174.out hb); clear hb hbox hg; have hnb47 := NB175_174.out; have hnc47 := NB174_175.out; obtain ⟨hcz48_0, hcz48_1, hcz48_2⟩ := bc3 BK175.out; obtain ⟨hfz48_0, hfz48_1, hfz48_2⟩ := bf3 BK175.out) | ((with_reducible refine Z5 (f := 49) rfl ?_); refine gl Tryz.func49 (val_Validate.calls k a2_0 a2_1 a2_2 t176 _ A16.out) ?_; rintro e w49 ⟨rfl, hb⟩; refine ⟨_, rfl, ?_⟩; replace BK174 := Z0 (Z2 BK174.out hb); replace BK175 := Z0 (Z2 BK175.out hb); replace HB := Z0 (Z1 HB.out hb)))
  go_ret
  exact ⟨rfl, V0⟩
 rw [if_pos c17] at H
 have c17b0 : (t176 == 0) = true := beq_iff_eq.mpr c17
 have c17b1 : (t176 != 0) = false := bne_eq_false_iff_eq.mpr c17
 clear c17
 replace H := Option.bind_eq_some_iff.mp H
 obtain ⟨⟨t177, t178, t179, t180⟩, A180, H⟩ := H
 replace H : (if t180 = 0 then (some (t177 == a2_0 && (t178 == a2_1 && (t179.toList == a2_2.toList)))) else (some false)) = some r := H
 have A18 := Z0 A180
 clear A180
 by_cases c19 : t180 = 0
 rotate_left
 ·rw [if_neg c19] at H
  have c19b0 : (t180 == 0) = false := beq_eq_false_iff_ne.mpr c19
  have c19b1 : (t180 != 0) = true := bne_iff_ne.mpr c19
  obtain rfl := Option.some.inj H
  go_enter Tryz.func73, Tryz.ntmps73
  go_wp2_with (first | ((with_reducible refine Z9 (N := 3) rfl ?_); refine bx (N := 3) (cs := #[.string a0_0, .int .i64 a0_1, .int .i64 a0_2, .bool a0_3]) (t := 23) ?_; intro gb174 hg w33 hbox hb; have BK174 := Z0 hbox; have GE174 := ge hg HB.out; replace HB := Z0 (Z1 HB.out hb); clear hb hbox hg) | ((with_reducible refine Z9 (N := 5) rfl ?_); refine bx (N := 5) (cs := #[.int .i64 a2_0, .int .i64 a2_1, .string a2_2]) (t := 25) ?_; intro gb175 hg w34 hbox hb; have BK175 := Z0 hbox; have GE175 := ge hg HB.out; replace HB := Z0 (Z1 HB.out hb); obtain ⟨NB174_175, NB175_174⟩ := nb hg BK174.out; replace BK174 := Z0 (Z2 BK174.out hb); clear hb hbox hg; have hnb35 := NB175_174.out; have hnc35 := NB174_175.out; obtain ⟨hcz36_0, hcz36_1, hcz36_2⟩ := bc3 BK175.out; obtain ⟨hfz36_0, hfz36_1, hfz36_2⟩ := bf3 BK175.out) | ((with_reducible refine Z5 (f := 49) rfl ?_); refine gl Tryz.func49 (val_Validate.calls k a2_0 a2_1 a2_2 t176 _ A16.out) ?_; rintro e w37 ⟨rfl, hb⟩; refine ⟨_, rfl, ?_⟩; replace BK174 := Z0 (Z2 BK174.out hb); replace BK175 := Z0 (Z2 BK175.out hb); replace HB := Z0 (Z1 HB.out hb); obtain ⟨hcz38_0, hcz38_1, hcz38_2, hcz38_3⟩ := bc4 BK174.out; obtain ⟨hfz38_0, hfz38_1, hfz38_2, hfz38_3⟩ := bf4 BK174.out; obtain ⟨hcz39_0, hcz39_1, hcz39_2⟩ := bc3 BK175.out; obtain ⟨hfz39_0, hfz39_1, hfz39_2⟩ := bf3 BK175.out) | ((with_reducible refine Z5 (f := 13) rfl ?_); refine gl Tryz.func13 (table_Fit.calls a0_0 a0_1 a0_2 a0_3 a1 a2_0 a2_1 a2_2 t177 t178 t179 t180 _ A18.out) ?_; rintro e w40 ⟨rfl, hb⟩; refine ⟨_, rfl, ?_⟩; replace BK174 := Z0 (Z2 BK174.out hb); replace BK175 := Z0 (Z2 BK175.out hb); replace HB := Z0 (Z1 HB.out hb)) | ((with_reducible refine Z9 (N := 7) rfl ?_); refine bx (N := 7) (cs := #[.int .i64 0, .int .i64 0, .string (⟨#[]⟩ : ByteArray)]) (t := 25) ?_; intro gb181 hg w41 hbox hb; have BK181 := Z0 hbox; have GE181 := ge hg HB.out; replace HB := Z0 (Z1 HB.out hb); obtain ⟨NB174_181, NB181_174⟩ := nb hg BK174.out; replace BK174 := Z0 (Z2 BK174.out hb); obtain ⟨NB175_181, NB181_175⟩ := nb hg BK175.out; replace BK175 := Z0 (Z2 BK175.out hb); clear hb hbox hg; have hnb42 := NB181_174.out; have hnc42 := NB174_181.out; have hnb43 := NB181_175.out; have hnc43 := NB175_181.out; obtain ⟨hcz44_0, hcz44_1, hcz44_2⟩ := bc3 BK181.out; obtain ⟨hfz44_0, hfz44_1, hfz44_2⟩ := bf3 BK181.out))
  go_ret
  exact ⟨rfl, V0⟩
 rw [if_pos c19] at H
 have c19b0 : (t180 == 0) = true := beq_iff_eq.mpr c19
 have c19b1 : (t180 != 0) = false := bne_eq_false_iff_eq.mpr c19
 clear c19
 obtain rfl := Option.some.inj H
 go_enter Tryz.func73, Tryz.ntmps73
 go_wp2_with (first | ((with_reducible refine Z9 (N := 3) rfl ?_); refine bx (N := 3) (cs := #[.string a0_0, .int .i64 a0_1, .int .i64 a0_2, .bool a0_3]) (t := 23) ?_; intro gb174 hg w20 hbox hb; have BK174 := Z0 hbox; have GE174 := ge hg HB.out; replace HB := Z0 (Z1 HB.out hb); clear hb hbox hg) | ((with_reducible refine Z9 (N := 5) rfl ?_); refine bx (N := 5) (cs := #[.int .i64 a2_0, .int .i64 a2_1, .string a2_2]) (t := 25) ?_; intro gb175 hg w21 hbox hb; have BK175 := Z0 hbox; have GE175 := ge hg HB.out; replace HB := Z0 (Z1 HB.out hb); obtain ⟨NB174_175, NB175_174⟩ := nb hg BK174.out; replace BK174 := Z0 (Z2 BK174.out hb); clear hb hbox hg; have hnb22 := NB175_174.out; have hnc22 := NB174_175.out; obtain ⟨hcz23_0, hcz23_1, hcz23_2⟩ := bc3 BK175.out; obtain ⟨hfz23_0, hfz23_1, hfz23_2⟩ := bf3 BK175.out) | ((with_reducible refine Z5 (f := 49) rfl ?_); refine gl Tryz.func49 (val_Validate.calls k a2_0 a2_1 a2_2 t176 _ A16.out) ?_; rintro e w24 ⟨rfl, hb⟩; refine ⟨_, rfl, ?_⟩; replace BK174 := Z0 (Z2 BK174.out hb); replace BK175 := Z0 (Z2 BK175.out hb); replace HB := Z0 (Z1 HB.out hb); obtain ⟨hcz25_0, hcz25_1, hcz25_2, hcz25_3⟩ := bc4 BK174.out; obtain ⟨hfz25_0, hfz25_1, hfz25_2, hfz25_3⟩ := bf4 BK174.out; obtain ⟨hcz26_0, hcz26_1, hcz26_2⟩ := bc3 BK175.out; obtain ⟨hfz26_0, hfz26_1, hfz26_2⟩ := bf3 BK175.out) | ((with_reducible refine Z5 (f := 13) rfl ?_); refine gl Tryz.func13 (table_Fit.calls a0_0 a0_1 a0_2 a0_3 a1 a2_0 a2_1 a2_2 t177 t178 t179 t180 _ A18.out) ?_; rintro e w27 ⟨rfl, hb⟩; refine ⟨_, rfl, ?_⟩; replace BK174 := Z0 (Z2 BK174.out hb); replace BK175 := Z0 (Z2 BK175.out hb); replace HB := Z0 (Z1 HB.out hb)) | ((with_reducible refine Z9 (N := 7) rfl ?_); refine bx (N := 7) (cs := #[.int .i64 0, .int .i64 0, .string (⟨#[]⟩ : ByteArray)]) (t := 25) ?_; intro gb181 hg w28 hbox hb; have BK181 := Z0 hbox; have GE181 := ge hg HB.out; replace HB := Z0 (Z1 HB.out hb); obtain ⟨NB174_181, NB181_174⟩ := nb hg BK174.out; replace BK174 := Z0 (Z2 BK174.out hb); obtain ⟨NB175_181, NB181_175⟩ := nb hg BK175.out; replace BK175 := Z0 (Z2 BK175.out hb); clear hb hbox hg; have hnb29 := NB181_174.out; have hnc29 := NB174_181.out; have hnb30 := NB181_175.out; have hnc30 := NB175_181.out; obtain ⟨hcz31_0, hcz31_1, hcz31_2⟩ := bc3 BK181.out; obtain ⟨hfz31_0, hfz31_1, hfz31_2⟩ := bf3 BK181.out; obtain ⟨hcz32_0, hcz32_1, hcz32_2⟩ := bc3 BK175.out; obtain ⟨hfz32_0, hfz32_1, hfz32_2⟩ := bf3 BK175.out))
 go_ret
 exact ⟨rfl, V0⟩
end
section
attribute [local go_sem] max2_int min2_int max_two min_two max_three min_three max_four min_four
mutual
def table_Validate.l0 : Nat → List (S46) → Int → Int → Int → List (S23) → List (S46) → Option (Int)
 | 0, _, _, _, _, _, _ => none
 | k + 1, x23, x24, x25, x183000, x183001, x183002 => if x25 < x24 then (if 0 ≤ x25 then (if x25 < (x23.length : Int) then (if (((rd_T46 x23 x25).f1).length : Int) = (x183001.length : Int) then (table_Validate.l1 k x23 x24 x25 x183001 (x183001.length : Int) 0 x183000 x183001 x183002 ((rd_T46 x23 x25).f0) ((rd_T46 x23 x25).f1)) else (some 10)) else (none)) else (none)) else (some 0)
def table_Validate.l1 : Nat → List (S46) → Int → Int → List (S23) → Int → Int → Int → List (S23) → List (S46) → Bool → List (S25) → Option (Int)
 | 0, _, _, _, _, _, _, _, _, _, _, _ => none
 | k + 1, x23, x24, x25, x37, x38, x39, x183000, x183001, x183002, x187000, x187001 => if x39 < x38 then (if 0 ≤ x39 then (if x39 < (x37.length : Int) then (if x39 < (x187001.length : Int) then ((table_holds.f k ((rd_T23 x37 x39).f0) ((rd_T23 x37 x39).f1) ((rd_T23 x37 x39).f2) ((rd_T23 x37 x39).f3) x183000 ((rd_T25 x187001 x39).f0) ((rd_T25 x187001 x39).f1) ((rd_T25 x187001 x39).f2)).bind fun t190 => (if t190 = true then (table_Validate.l1 k x23 x24 x25 x37 x38 (wrap64 (x39 + 1)) x183000 x183001 x183002 x187000 x187001) else (some 1))) else (none)) else (none)) else (none)) else (table_Validate.l0 k x23 x24 (wrap64 (x25 + 1)) x183000 x183001 x183002)
end
def table_Validate.f (k : Nat) (a0_0 : Int) (l0_1 : List (S23)) (l0_2 : List (S46)) : Option (Int) := (table_isPage.f a0_0).bind fun t183 => (if t183 = true then ((table_ValidateFields.f l0_1).bind fun t184 => (if t184 = 0 then (if (l0_2.length : Int) > 300 then (some 3) else (table_Validate.l0 k l0_2 (l0_2.length : Int) 0 a0_0 l0_1 l0_2)) else (some t184))) else (some 1))
theorem table_Validate.mono_l : ∀ k, (∀ y0 y1 y2 y3 y4 y5, LeO (table_Validate.l0 k y0 y1 y2 y3 y4 y5) (table_Validate.l0 (k + 1) y0 y1 y2 y3 y4 y5)) ∧ (∀ y0 y1 y2 y3 y4 y5 y6 y7 y8 y9 y10, LeO (table_Validate.l1 k y0 y1 y2 y3 y4 y5 y6 y7 y8 y9 y10) (table_Validate.l1 (k + 1) y0 y1 y2 y3 y4 y5 y6 y7 y8 y9 y10))
 | 0 => ⟨fun _ _ _ _ _ _ r h => by simp [table_Validate.l0] at h, fun _ _ _ _ _ _ _ _ _ _ _ r h => by simp [table_Validate.l1] at h⟩
 | k + 1 => by
  obtain ⟨ih0, ih1⟩ := table_Validate.mono_l k
  refine ⟨?_, ?_⟩
  ·intro y0 y1 y2 y3 y4 y5
   unfold table_Validate.l0
   repeat' first
   | (with_reducible exact ih0 _ _ _ _ _ _)
   | (with_reducible exact ih1 _ _ _ _ _ _ _ _ _ _ _)
   | (with_reducible exact table_holds.mono _ _ _ _ _ _ _ _ _)
   | (with_reducible exact LeO.refl _)
   | (with_reducible exact LeO.none _)
   | (with_reducible refine LeO.ite ?_ ?_)
   | (with_reducible refine LeO.bind ?_ (fun _ => ?_))
  ·intro y0 y1 y2 y3 y4 y5 y6 y7 y8 y9 y10
   unfold table_Validate.l1
   repeat' first
   | (with_reducible exact ih0 _ _ _ _ _ _)
   | (with_reducible exact ih1 _ _ _ _ _ _ _ _ _ _ _)
   | (with_reducible exact table_holds.mono _ _ _ _ _ _ _ _ _)
   | (with_reducible exact LeO.refl _)
   | (with_reducible exact LeO.none _)
   | (with_reducible refine LeO.ite ?_ ?_)
   | (with_reducible refine LeO.bind ?_ (fun _ => ?_))
theorem table_Validate.mono : ∀ a0 a1 a2 k, LeO (table_Validate.f k a0 a1 a2) (table_Validate.f (k + 1) a0 a1 a2) := by
 intro a0 a1 a2 k
 obtain ⟨ih0, ih1⟩ := table_Validate.mono_l k
 unfold table_Validate.f
 repeat' first
   | (with_reducible exact ih0 _ _ _ _ _ _)
   | (with_reducible exact ih1 _ _ _ _ _ _ _ _ _ _ _)
   | (with_reducible exact table_holds.mono _ _ _ _ _ _ _ _ _)
   | (with_reducible exact LeO.refl _)
   | (with_reducible exact LeO.none _)
   | (with_reducible refine LeO.ite ?_ ?_)
   | (with_reducible refine LeO.bind ?_ (fun _ => ?_))
def table_Validate.T16 : Bool × List (List Nat × List Nat) := (true, [([], []), ([], []), ([1], [1]), ([], []), ([3], [3]), ([], []), ([4, 5], [4, 5]), ([6], [6]), ([0, 2, 7], [0, 2, 7]), ([8], [8])])
def table_Validate.B16 : List Nat := [0, 0, 2, 0, 8, 0, 56, 120, 255, 511]
theorem table_Validate.tab16 : rtab .any (opsOf Tryz.f34 16) = table_Validate.T16 := by kernel_rfl
theorem table_Validate.bits16 : waitsOk table_Validate.T16.2 table_Validate.B16 = true := by kernel_rfl
theorem table_Validate.calls (k : Nat) (a0_0 : Int) (A0_1 : Option Addr) (c0_1 : Nat) (l0_1 : List (S23)) (A0_2 : Option Addr) (c0_2 : Nat) (l0_2 : List (S46)) (r : Int) (w : World) (hr0_1 : Kd.C k23 w A0_1 l0_1.length l0_1) (hc0_1 : l0_1.length ≤ c0_1) (hr0_2 : Kd.C k46 w A0_2 l0_2.length l0_2) (hc0_2 : l0_2.length ≤ c0_2) (h : table_Validate.f k a0_0 l0_1 l0_2 = some r) :
  Calls Tryz.prog 34 #[.agg #[.int .i64 a0_0, .slice A0_1 l0_1.length c0_1, .slice A0_2 l0_2.length c0_2]] w fun e w' => e = .returned (.int .i64 r) ∧ Below w.heap.size w w' := by
 have hu35 := Tryz.underlying35
 have hu46 := Tryz.underlying46
 have hu23 := Tryz.underlying23
 have hu25 := Tryz.underlying25
 have HR0_1 := Z0 hr0_1
 have HC0_1 := Z0 hc0_1
 clear hr0_1 hc0_1
 have HR0_2 := Z0 hr0_2
 have HC0_2 := Z0 hc0_2
 clear hr0_2 hc0_2
 have HB := Z0 (Below.refl w.heap.size w)
 unfold table_Validate.f at h
 have H := h
 clear h
 replace H := Option.bind_eq_some_iff.mp H
 obtain ⟨t183, A20, H⟩ := H
 replace H : (if t183 = true then ((table_ValidateFields.f l0_1).bind fun t184 => (if t184 = 0 then (if (l0_2.length : Int) > 300 then (some 3) else (table_Validate.l0 k l0_2 (l0_2.length : Int) 0 a0_0 l0_1 l0_2)) else (some t184))) else (some 1)) = some r := H
 have A2 := Z0 A20
 clear A20
 by_cases c3 : t183 = true
 rotate_left
 ·replace c3 := Bool.eq_false_iff.mpr c3
  subst c3
  have H1 : (some 1) = some r := by rw [if_neg (show ¬ (false = true) by decide)] at H; exact H
  clear H
  have H := H1
  clear H1
  obtain rfl := Option.some.inj H
  go_enter Tryz.func34, Tryz.ntmps34
  go_wp2_with (first | ((with_reducible refine Z9 (N := 1) rfl ?_); refine bx (N := 1) (cs := #[.int .i64 a0_0, .slice A0_1 l0_1.length c0_1, .slice A0_2 l0_2.length c0_2]) (t := 35) ?_; intro gb182 hg w50 hbox hb; have BK182 := Z0 hbox; have GE182 := ge hg V0; replace HB := Z0 (Z1 V0 hb); clear hb hbox hg; obtain ⟨hcz51_0, hcz51_1, hcz51_2⟩ := bc3 BK182.out; obtain ⟨hfz51_0, hfz51_1, hfz51_2⟩ := bf3 BK182.out) | ((with_reducible refine Z5 (f := 48) rfl ?_); refine gl Tryz.func48 (table_isPage.calls a0_0 false _ A2.out) ?_; rintro e w' ⟨rfl, ⟨nd, rfl⟩⟩; refine ⟨_, rfl, ?_⟩))
  go_ret
  exact ⟨rfl, V0⟩
 subst c3
 have H1 : ((table_ValidateFields.f l0_1).bind fun t184 => (if t184 = 0 then (if (l0_2.length : Int) > 300 then (some 3) else (table_Validate.l0 k l0_2 (l0_2.length : Int) 0 a0_0 l0_1 l0_2)) else (some t184))) = some r := by rw [if_pos rfl] at H; exact H
 clear H
 have H := H1
 clear H1
 replace H := Option.bind_eq_some_iff.mp H
 obtain ⟨t184, A40, H⟩ := H
 replace H : (if t184 = 0 then (if (l0_2.length : Int) > 300 then (some 3) else (table_Validate.l0 k l0_2 (l0_2.length : Int) 0 a0_0 l0_1 l0_2)) else (some t184)) = some r := H
 have A4 := Z0 A40
 clear A40
 by_cases c5 : t184 = 0
 rotate_left
 ·rw [if_neg c5] at H
  have c5b0 : (t184 == 0) = false := beq_eq_false_iff_ne.mpr c5
  have c5b1 : (t184 != 0) = true := bne_iff_ne.mpr c5
  obtain rfl := Option.some.inj H
  go_enter Tryz.func34, Tryz.ntmps34
  go_wp2_with (first | ((with_reducible refine Z9 (N := 1) rfl ?_); refine bx (N := 1) (cs := #[.int .i64 a0_0, .slice A0_1 l0_1.length c0_1, .slice A0_2 l0_2.length c0_2]) (t := 35) ?_; intro gb182 hg w47 hbox hb; have BK182 := Z0 hbox; have GE182 := ge hg V0; replace HB := Z0 (Z1 V0 hb); clear hb hbox hg; obtain ⟨hcz48_0, hcz48_1, hcz48_2⟩ := bc3 BK182.out; obtain ⟨hfz48_0, hfz48_1, hfz48_2⟩ := bf3 BK182.out) | ((with_reducible refine Z5 (f := 48) rfl ?_); refine gl Tryz.func48 (table_isPage.calls a0_0 true _ A2.out) ?_; rintro e w' ⟨rfl, ⟨nd, rfl⟩⟩; refine ⟨_, rfl, ?_⟩) | ((with_reducible refine Z5 (f := 36) rfl ?_); refine gl Tryz.func36 (table_ValidateFields.calls _ _ l0_1 t184 _ (kc (Kd.C_below HR0_1.out V0)) HC0_1.out A4.out) ?_; rintro e w49 ⟨rfl, hb⟩; refine ⟨_, rfl, ?_⟩; replace BK182 := Z0 (Z2 (g := gb182) (o := .cells #[.int .i64 a0_0, .slice A0_1 l0_1.length c0_1, .slice A0_2 l0_2.length c0_2] 35 (0, 0)) (kb BK182.out) hb); replace HB := Z0 (Z1 V0 hb)))
  go_ret
  exact ⟨rfl, V0⟩
 rw [if_pos c5] at H
 have c5b0 : (t184 == 0) = true := beq_iff_eq.mpr c5
 have c5b1 : (t184 != 0) = false := bne_eq_false_iff_eq.mpr c5
 clear c5
 by_cases c6 : (l0_2.length : Int) > 300
 ·rw [if_pos c6] at H
  have c6b0 : decide (300 < (l0_2.length : Int)) = true := decide_eq_true c6
  have c6b1 : decide (300 < l0_2.length) = true := decide_eq_true (by omega)
  clear c6
  obtain rfl := Option.some.inj H
  go_enter Tryz.func34, Tryz.ntmps34
  go_wp2_with (first | ((with_reducible refine Z9 (N := 1) rfl ?_); refine bx (N := 1) (cs := #[.int .i64 a0_0, .slice A0_1 l0_1.length c0_1, .slice A0_2 l0_2.length c0_2]) (t := 35) ?_; intro gb182 hg w7 hbox hb; have BK182 := Z0 hbox; have GE182 := ge hg V0; replace HB := Z0 (Z1 V0 hb); clear hb hbox hg; obtain ⟨hcz8_0, hcz8_1, hcz8_2⟩ := bc3 BK182.out; obtain ⟨hfz8_0, hfz8_1, hfz8_2⟩ := bf3 BK182.out) | ((with_reducible refine Z5 (f := 48) rfl ?_); refine gl Tryz.func48 (table_isPage.calls a0_0 true _ A2.out) ?_; rintro e w' ⟨rfl, ⟨nd, rfl⟩⟩; refine ⟨_, rfl, ?_⟩) | ((with_reducible refine Z5 (f := 36) rfl ?_); refine gl Tryz.func36 (table_ValidateFields.calls _ _ l0_1 t184 _ (kc (Kd.C_below HR0_1.out V0)) HC0_1.out A4.out) ?_; rintro e w9 ⟨rfl, hb⟩; refine ⟨_, rfl, ?_⟩; replace BK182 := Z0 (Z2 (g := gb182) (o := .cells #[.int .i64 a0_0, .slice A0_1 l0_1.length c0_1, .slice A0_2 l0_2.length c0_2] 35 (0, 0)) (kb BK182.out) hb); replace HB := Z0 (Z1 V0 hb); obtain ⟨hcz10_0, hcz10_1, hcz10_2⟩ := bc3 BK182.out; obtain ⟨hfz10_0, hfz10_1, hfz10_2⟩ := bf3 BK182.out))
  go_ret
  exact ⟨rfl, V0⟩
 rw [if_neg c6] at H
 have c6b0 : decide (300 < (l0_2.length : Int)) = false := decide_eq_false c6
 have c6b1 : decide (300 < l0_2.length) = false := decide_eq_false (by omega)
 clear c6
 have H' := Z0 H
 clear H
 go_enter Tryz.func34, Tryz.ntmps34
 go_wp2_with (first | ((with_reducible refine Z9 (N := 1) rfl ?_); refine bx (N := 1) (cs := #[.int .i64 a0_0, .slice A0_1 l0_1.length c0_1, .slice A0_2 l0_2.length c0_2]) (t := 35) ?_; intro gb182 hg w11 hbox hb; have BK182 := Z0 hbox; have GE182 := ge hg V0; replace HB := Z0 (Z1 V0 hb); clear hb hbox hg; obtain ⟨hcz12_0, hcz12_1, hcz12_2⟩ := bc3 BK182.out; obtain ⟨hfz12_0, hfz12_1, hfz12_2⟩ := bf3 BK182.out) | ((with_reducible refine Z5 (f := 48) rfl ?_); refine gl Tryz.func48 (table_isPage.calls a0_0 true _ A2.out) ?_; rintro e w' ⟨rfl, ⟨nd, rfl⟩⟩; refine ⟨_, rfl, ?_⟩) | ((with_reducible refine Z5 (f := 36) rfl ?_); refine gl Tryz.func36 (table_ValidateFields.calls _ _ l0_1 t184 _ (kc (Kd.C_below HR0_1.out V0)) HC0_1.out A4.out) ?_; rintro e w13 ⟨rfl, hb⟩; refine ⟨_, rfl, ?_⟩; replace BK182 := Z0 (Z2 (g := gb182) (o := .cells #[.int .i64 a0_0, .slice A0_1 l0_1.length c0_1, .slice A0_2 l0_2.length c0_2] 35 (0, 0)) (kb BK182.out) hb); replace HB := Z0 (Z1 V0 hb); obtain ⟨hcz14_0, hcz14_1, hcz14_2⟩ := bc3 BK182.out; obtain ⟨hfz14_0, hfz14_1, hfz14_2⟩ := bf3 BK182.out))
 go_loopg [25] k (fun kq v25 w' => ∃ (x25_1 : Int), v25 = .int .i64 x25_1 ∧ Aside0 (table_Validate.l0 kq l0_2 (l0_2.length : Int) x25_1 a0_0 l0_1 l0_2 = some r) ∧ Aside0 (kq ≤ k) ∧ Aside0 (w'.heap[gb182]? = some (.cells #[.int .i64 a0_0, (.slice A0_1 l0_1.length c0_1), (.slice A0_2 l0_2.length c0_2)] 35 (0, 0))) ∧ Aside0 (Below w.heap.size w w'))
 case atStart => exact ⟨(0), V2, H', ⟨Nat.le_refl _⟩, ⟨kb BK182.out⟩, ⟨V0⟩⟩
 case round =>
  clear H'
  obtain ⟨x25_1, rfl, HA, HK1, BK182, HB⟩ := hrel
  cases gk with
  | zero => exact absurd HA.out (by simp [table_Validate.l0])
  | succ k1 =>
   have H := HA.out
   clear HA
   simp only [table_Validate.l0] at H
   by_cases c15 : x25_1 < (l0_2.length : Int)
   rotate_left
   ·rw [if_neg c15] at H
    have c15b0 : decide (x25_1 < (l0_2.length : Int)) = false := decide_eq_false c15
    clear c15
    obtain rfl := Option.some.inj H
    go_wp2
    go_ret
    exact ⟨rfl, V0⟩
   rw [if_pos c15] at H
   have c15b0 : decide (x25_1 < (l0_2.length : Int)) = true := decide_eq_true c15
   clear c15
   by_cases c16 : 0 ≤ x25_1
   rotate_left
   ·rw [if_neg c16] at H
    exact absurd H (by simp)
   rw [if_pos c16] at H
   have c16b0 : decide (0 ≤ x25_1) = true := decide_eq_true c16
   clear c16
   by_cases c17 : x25_1 < (l0_2.length : Int)
   rotate_left
   ·rw [if_neg c17] at H
    exact absurd H (by simp)
   rw [if_pos c17] at H
   have c17b0 : decide (x25_1 < (l0_2.length : Int)) = true := decide_eq_true c17
   clear c17
   by_cases c18 : (((rd_T46 l0_2 x25_1).f1).length : Int) = (l0_1.length : Int)
   rotate_left
   ·rw [if_neg c18] at H
    have c18b0 : ((((rd_T46 l0_2 x25_1).f1).length : Int) == (l0_1.length : Int)) = false := beq_eq_false_iff_ne.mpr c18
    have c18b1 : ((((rd_T46 l0_2 x25_1).f1).length : Int) != (l0_1.length : Int)) = true := bne_iff_ne.mpr c18
    have c18b2 : (((rd_T46 l0_2 x25_1).f1).length == l0_1.length) = false := by first | simpa using c18 | (simp at c18 ⊢; omega)
    obtain rfl := Option.some.inj H
    have p185 : 0 ≤ (x25_1 : Int) := of_decide_eq_true V3
    have q185 : x25_1 < (l0_2.length : Int) := of_decide_eq_true V3
    obtain ⟨ad185, A185_1, c185_1, e185, hx185_0, hx185_1, hl185_1, hi185_1⟩ := at_T46 HR0_2.out x25_1 p185 q185
    cases e185
    replace hx185_0 := hz HB.out hx185_0
    replace hx185_1 := hz HB.out hx185_1
    have HR185_1 := Z0 hi185_1
    have HC185_1 := Z0 hl185_1
    clear hi185_1 hl185_1
    replace p185 := eq_true p185
    replace q185 := eq_true q185
    go_wp2_with (first | ((with_reducible refine Z9 (N := 5) rfl ?_); refine bx (N := 5) (cs := #[.bool false, .slice none 0 0]) (t := 46) ?_; intro gb186 hg w43 hbox hb; have BK186 := Z0 hbox; have GE186 := ge hg V0; replace HB := Z0 (Z1 V0 hb); obtain ⟨NB182_186, NB186_182⟩ := nb (g := gb182) (o := .cells #[.int .i64 a0_0, .slice A0_1 l0_1.length c0_1, .slice (some ad185) l0_2.length c0_2] 35 (0, 0)) hg (kb BK182.out); replace BK182 := Z0 (Z2 (g := gb182) (o := .cells #[.int .i64 a0_0, .slice A0_1 l0_1.length c0_1, .slice (some ad185) l0_2.length c0_2] 35 (0, 0)) (kb BK182.out) hb); clear hb hbox hg; have hnb44 := NB186_182.out; have hnc44 := NB182_186.out; obtain ⟨hcz45_0, hcz45_1⟩ := bc2 BK186.out; obtain ⟨hfz45_0, hfz45_1⟩ := bf2 BK186.out; obtain ⟨hcz46_0, hcz46_1, hcz46_2⟩ := bc3 BK182.out; obtain ⟨hfz46_0, hfz46_1, hfz46_2⟩ := bf3 BK182.out))
    go_ret
    exact ⟨rfl, V0⟩
   rw [if_pos c18] at H
   have c18b0 : ((((rd_T46 l0_2 x25_1).f1).length : Int) == (l0_1.length : Int)) = true := beq_iff_eq.mpr c18
   have c18b1 : ((((rd_T46 l0_2 x25_1).f1).length : Int) != (l0_1.length : Int)) = false := bne_eq_false_iff_eq.mpr c18
   have c18b2 : (((rd_T46 l0_2 x25_1).f1).length == l0_1.length) = true := by first | simpa using c18 | (simp at c18 ⊢; omega)
   clear c18
   have H' := Z0 H
   clear H
   have p185 : 0 ≤ (x25_1 : Int) := of_decide_eq_true V3
   have q185 : x25_1 < (l0_2.length : Int) := of_decide_eq_true V3
   obtain ⟨ad185, A185_1, c185_1, e185, hx185_0, hx185_1, hl185_1, hi185_1⟩ := at_T46 HR0_2.out x25_1 p185 q185
   cases e185
   replace hx185_0 := hz HB.out hx185_0
   replace hx185_1 := hz HB.out hx185_1
   have HR185_1 := Z0 hi185_1
   have HC185_1 := Z0 hl185_1
   clear hi185_1 hl185_1
   replace p185 := eq_true p185
   replace q185 := eq_true q185
   go_wp2_with (first | ((with_reducible refine Z9 (N := 5) rfl ?_); refine bx (N := 5) (cs := #[.bool false, .slice none 0 0]) (t := 46) ?_; intro gb186 hg w19 hbox hb; have BK186 := Z0 hbox; have GE186 := ge hg V0; replace HB := Z0 (Z1 V0 hb); obtain ⟨NB182_186, NB186_182⟩ := nb (g := gb182) (o := .cells #[.int .i64 a0_0, .slice A0_1 l0_1.length c0_1, .slice (some ad185) l0_2.length c0_2] 35 (0, 0)) hg (kb BK182.out); replace BK182 := Z0 (Z2 (g := gb182) (o := .cells #[.int .i64 a0_0, .slice A0_1 l0_1.length c0_1, .slice (some ad185) l0_2.length c0_2] 35 (0, 0)) (kb BK182.out) hb); clear hb hbox hg; have hnb20 := NB186_182.out; have hnc20 := NB182_186.out; obtain ⟨hcz21_0, hcz21_1⟩ := bc2 BK186.out; obtain ⟨hfz21_0, hfz21_1⟩ := bf2 BK186.out; obtain ⟨hcz22_0, hcz22_1, hcz22_2⟩ := bc3 BK182.out; obtain ⟨hfz22_0, hfz22_1, hfz22_2⟩ := bf3 BK182.out))
   go_loopg [39] k1 (fun kq v39 w' => ∃ (x39_2 : Int), v39 = .int .i64 x39_2 ∧ Aside0 (table_Validate.l1 kq l0_2 (l0_2.length : Int) x25_1 l0_1 (l0_1.length : Int) x39_2 a0_0 l0_1 l0_2 ((rd_T46 l0_2 x25_1).f0) ((rd_T46 l0_2 x25_1).f1) = some r) ∧ Aside0 (kq ≤ k1) ∧ Aside0 (w'.heap[gb182]? = some (.cells #[.int .i64 a0_0, (.slice A0_1 l0_1.length c0_1), (.slice (some ad185) l0_2.length c0_2)] 35 (0, 0))) ∧ Aside0 (w'.heap[gb186]? = some (.cells #[.bool ((rd_T46 l0_2 x25_1).f0), (.slice A185_1 ((rd_T46 l0_2 x25_1).f1).length c185_1)] 46 (0, 0))) ∧ Aside0 (Below w.heap.size w w'))
   case atStart => exact ⟨(0), V2, H', ⟨Nat.le_refl _⟩, ⟨by (with_reducible repeat (first | refine Y6 ?_ _ | refine Y5 ?_ | refine Y7 ?_ _)); refine blk_far ?_ NB182_186.out _; (with_reducible repeat (first | refine Y6 ?_ _ | refine Y5 ?_ | refine Y7 ?_ _)); refine blk_far ?_ NB182_186.out _; (with_reducible repeat (first | refine Y6 ?_ _ | refine Y5 ?_ | refine Y7 ?_ _)); exact BK182.out⟩, ⟨by (with_reducible repeat (first | refine Y6 ?_ _ | refine Y5 ?_ | refine Y7 ?_ _)); refine blk_put (cs := #[.bool ((rd_T46 l0_2 x25_1).f0), .slice none 0 0]) ?_ 1 _ rfl; (with_reducible repeat (first | refine Y6 ?_ _ | refine Y5 ?_ | refine Y7 ?_ _)); refine blk_put (cs := #[.bool false, .slice none 0 0]) ?_ 0 _ rfl; (with_reducible repeat (first | refine Y6 ?_ _ | refine Y5 ?_ | refine Y7 ?_ _)); exact BK186.out⟩, ⟨V0⟩⟩
   case round =>
    clear H'
    obtain ⟨x39_2, rfl, HA, HK2, BK182, BK186, HB⟩ := hrel
    cases gk with
    | zero => exact absurd HA.out (by simp [table_Validate.l1])
    | succ k2 =>
     have H := HA.out
     clear HA
     simp only [table_Validate.l1] at H
     by_cases c23 : x39_2 < (l0_1.length : Int)
     rotate_left
     ·rw [if_neg c23] at H
      have c23b0 : decide (x39_2 < (l0_1.length : Int)) = false := decide_eq_false c23
      clear c23
      have H' := Z0 H
      clear H
      go_wp2
      go_roundg k2
      case measure => have := HK1.out; have := HK2.out; omega
      case rel => exact ⟨(wrap64 (x25_1 + 1)), V2, H', ⟨by have := HK1.out; have := HK2.out; omega⟩, ⟨kb BK182.out⟩, ⟨V0⟩⟩
     rw [if_pos c23] at H
     have c23b0 : decide (x39_2 < (l0_1.length : Int)) = true := decide_eq_true c23
     clear c23
     by_cases c24 : 0 ≤ x39_2
     rotate_left
     ·rw [if_neg c24] at H
      exact absurd H (by simp)
     rw [if_pos c24] at H
     have c24b0 : decide (0 ≤ x39_2) = true := decide_eq_true c24
     clear c24
     by_cases c25 : x39_2 < (l0_1.length : Int)
     rotate_left
     ·rw [if_neg c25] at H
      exact absurd H (by simp)
     rw [if_pos c25] at H
     have c25b0 : decide (x39_2 < (l0_1.length : Int)) = true := decide_eq_true c25
     clear c25
     by_cases c26 : x39_2 < (((rd_T46 l0_2 x25_1).f1).length : Int)
     rotate_left
     ·rw [if_neg c26] at H
      exact absurd H (by simp)
     rw [if_pos c26] at H
     have c26b0 : decide (x39_2 < (((rd_T46 l0_2 x25_1).f1).length : Int)) = true := decide_eq_true c26
     clear c26
     replace H := Option.bind_eq_some_iff.mp H
     obtain ⟨t190, A270, H⟩ := H
     replace H : (if t190 = true then (table_Validate.l1 k2 l0_2 (l0_2.length : Int) x25_1 l0_1 (l0_1.length : Int) (wrap64 (x39_2 + 1)) a0_0 l0_1 l0_2 ((rd_T46 l0_2 x25_1).f0) ((rd_T46 l0_2 x25_1).f1)) else (some 1)) = some r := H
     have A27 := Z0 A270
     clear A270
     by_cases c28 : t190 = true
     rotate_left
     ·replace c28 := Bool.eq_false_iff.mpr c28
      subst c28
      have H1 : (some 1) = some r := by rw [if_neg (show ¬ (false = true) by decide)] at H; exact H
      clear H
      have H := H1
      clear H1
      obtain rfl := Option.some.inj H
      have p187 : 0 ≤ (x39_2 : Int) := of_decide_eq_true V3
      have q187 : x39_2 < (l0_1.length : Int) := of_decide_eq_true V3
      obtain ⟨ad187, e187, hx187_0, hx187_1, hx187_2, hx187_3⟩ := at_T23 HR0_1.out x39_2 p187 q187
      cases e187
      replace hx187_0 := hz HB.out hx187_0
      replace hx187_1 := hz HB.out hx187_1
      replace hx187_2 := hz HB.out hx187_2
      replace hx187_3 := hz HB.out hx187_3
      replace p187 := eq_true p187
      replace q187 := eq_true q187
      try go_wp2_with (first | ((with_reducible refine Z9 (N := 7) rfl ?_); refine bx (N := 7) (cs := #[.string (⟨#[]⟩ : ByteArray), .int .i64 0, .int .i64 0, .bool false]) (t := 23) ?_; intro gb188 hg w36 hbox hb; have BK188 := Z0 hbox; have GE188 := ge hg V0; replace HB := Z0 (Z1 V0 hb); obtain ⟨NB182_188, NB188_182⟩ := nb (g := gb182) (o := .cells #[.int .i64 a0_0, .slice (some ad187) l0_1.length c0_1, .slice (some ad185) l0_2.length c0_2] 35 (0, 0)) hg (kb BK182.out); replace BK182 := Z0 (Z2 (g := gb182) (o := .cells #[.int .i64 a0_0, .slice (some ad187) l0_1.length c0_1, .slice (some ad185) l0_2.length c0_2] 35 (0, 0)) (kb BK182.out) hb); obtain ⟨NB186_188, NB188_186⟩ := nb (g := gb186) (o := .cells #[.bool ((rd_T46 l0_2 x25_1).f0), .slice A185_1 ((rd_T46 l0_2 x25_1).f1).length c185_1] 46 (0, 0)) hg (kb BK186.out); replace BK186 := Z0 (Z2 (g := gb186) (o := .cells #[.bool ((rd_T46 l0_2 x25_1).f0), .slice A185_1 ((rd_T46 l0_2 x25_1).f1).length c185_1] 46 (0, 0)) (kb BK186.out) hb); clear hb hbox hg; have hnb37 := NB188_182.out; have hnc37 := NB182_188.out; have hnb38 := NB188_186.out; have hnc38 := NB186_188.out; obtain ⟨hcz39_0, hcz39_1, hcz39_2, hcz39_3⟩ := bc4 BK188.out; obtain ⟨hfz39_0, hfz39_1, hfz39_2, hfz39_3⟩ := bf4 BK188.out))
      have n0_ : Aside0 (((((w36.setCell ⟨gb188, 0, none⟩ (.string ((rd_T23 l0_1 x39_2).f0))).setCell ⟨gb188, 1, none⟩ (.int .i64 ((rd_T23 l0_1 x39_2).f1))).setCell ⟨gb188, 2, none⟩ (.int .i64 ((rd_T23 l0_1 x39_2).f2))).setCell ⟨gb188, 3, none⟩ (.bool ((rd_T23 l0_1 x39_2).f3))).heap[gb182]? = some (.cells #[.int .i64 a0_0, .slice (some ad187) l0_1.length c0_1, .slice (some ad185) l0_2.length c0_2] 35 (0, 0))) := ⟨by (with_reducible repeat (first | refine Y6 ?_ _ | refine Y5 ?_ | refine Y7 ?_ _)); refine blk_far ?_ NB182_188.out _; (with_reducible repeat (first | refine Y6 ?_ _ | refine Y5 ?_ | refine Y7 ?_ _)); refine blk_far ?_ NB182_188.out _; (with_reducible repeat (first | refine Y6 ?_ _ | refine Y5 ?_ | refine Y7 ?_ _)); refine blk_far ?_ NB182_188.out _; (with_reducible repeat (first | refine Y6 ?_ _ | refine Y5 ?_ | refine Y7 ?_ _)); refine blk_far ?_ NB182_188.out _; (with_reducible repeat (first | refine Y6 ?_ _ | refine Y5 ?_ | refine Y7 ?_ _)); exact BK182.out⟩
      have n1_ : Aside0 (((((w36.setCell ⟨gb188, 0, none⟩ (.string ((rd_T23 l0_1 x39_2).f0))).setCell ⟨gb188, 1, none⟩ (.int .i64 ((rd_T23 l0_1 x39_2).f1))).setCell ⟨gb188, 2, none⟩ (.int .i64 ((rd_T23 l0_1 x39_2).f2))).setCell ⟨gb188, 3, none⟩ (.bool ((rd_T23 l0_1 x39_2).f3))).heap[gb186]? = some (.cells #[.bool ((rd_T46 l0_2 x25_1).f0), .slice A185_1 ((rd_T46 l0_2 x25_1).f1).length c185_1] 46 (0, 0))) := ⟨by (with_reducible repeat (first | refine Y6 ?_ _ | refine Y5 ?_ | refine Y7 ?_ _)); refine blk_far ?_ NB186_188.out _; (with_reducible repeat (first | refine Y6 ?_ _ | refine Y5 ?_ | refine Y7 ?_ _)); refine blk_far ?_ NB186_188.out _; (with_reducible repeat (first | refine Y6 ?_ _ | refine Y5 ?_ | refine Y7 ?_ _)); refine blk_far ?_ NB186_188.out _; (with_reducible repeat (first | refine Y6 ?_ _ | refine Y5 ?_ | refine Y7 ?_ _)); refine blk_far ?_ NB186_188.out _; (with_reducible repeat (first | refine Y6 ?_ _ | refine Y5 ?_ | refine Y7 ?_ _)); exact BK186.out⟩
      have n2_ : Aside0 (((((w36.setCell ⟨gb188, 0, none⟩ (.string ((rd_T23 l0_1 x39_2).f0))).setCell ⟨gb188, 1, none⟩ (.int .i64 ((rd_T23 l0_1 x39_2).f1))).setCell ⟨gb188, 2, none⟩ (.int .i64 ((rd_T23 l0_1 x39_2).f2))).setCell ⟨gb188, 3, none⟩ (.bool ((rd_T23 l0_1 x39_2).f3))).heap[gb188]? = some (.cells #[.string ((rd_T23 l0_1 x39_2).f0), .int .i64 ((rd_T23 l0_1 x39_2).f1), .int .i64 ((rd_T23 l0_1 x39_2).f2), .bool ((rd_T23 l0_1 x39_2).f3)] 23 (0, 0))) := ⟨by (with_reducible repeat (first | refine Y6 ?_ _ | refine Y5 ?_ | refine Y7 ?_ _)); refine blk_put (cs := #[.string ((rd_T23 l0_1 x39_2).f0), .int .i64 ((rd_T23 l0_1 x39_2).f1), .int .i64 ((rd_T23 l0_1 x39_2).f2), .bool false]) ?_ 3 _ rfl; (with_reducible repeat (first | refine Y6 ?_ _ | refine Y5 ?_ | refine Y7 ?_ _)); refine blk_put (cs := #[.string ((rd_T23 l0_1 x39_2).f0), .int .i64 ((rd_T23 l0_1 x39_2).f1), .int .i64 0, .bool false]) ?_ 2 _ rfl; (with_reducible repeat (first | refine Y6 ?_ _ | refine Y5 ?_ | refine Y7 ?_ _)); refine blk_put (cs := #[.string ((rd_T23 l0_1 x39_2).f0), .int .i64 0, .int .i64 0, .bool false]) ?_ 1 _ rfl; (with_reducible repeat (first | refine Y6 ?_ _ | refine Y5 ?_ | refine Y7 ?_ _)); refine blk_put (cs := #[.string (⟨#[]⟩ : ByteArray), .int .i64 0, .int .i64 0, .bool false]) ?_ 0 _ rfl; (with_reducible repeat (first | refine Y6 ?_ _ | refine Y5 ?_ | refine Y7 ?_ _)); exact BK188.out⟩
      have n3_ : Aside0 (Below w.heap.size w ((((w36.setCell ⟨gb188, 0, none⟩ (.string ((rd_T23 l0_1 x39_2).f0))).setCell ⟨gb188, 1, none⟩ (.int .i64 ((rd_T23 l0_1 x39_2).f1))).setCell ⟨gb188, 2, none⟩ (.int .i64 ((rd_T23 l0_1 x39_2).f2))).setCell ⟨gb188, 3, none⟩ (.bool ((rd_T23 l0_1 x39_2).f3)))) := ⟨V0⟩
      generalize ((((w36.setCell ⟨gb188, 0, none⟩ (.string ((rd_T23 l0_1 x39_2).f0))).setCell ⟨gb188, 1, none⟩ (.int .i64 ((rd_T23 l0_1 x39_2).f1))).setCell ⟨gb188, 2, none⟩ (.int .i64 ((rd_T23 l0_1 x39_2).f2))).setCell ⟨gb188, 3, none⟩ (.bool ((rd_T23 l0_1 x39_2).f3))) = w40 at n0_ n1_ n2_ n3_ ⊢
      have BK182 := n0_
      have BK186 := n1_
      have BK188 := n2_
      have HB := n3_
      clear n0_ n1_ n2_ n3_
      have n0_ := Z0 (Y5 BK182.out)
      have n1_ := Z0 (Y5 BK186.out)
      have n2_ := Z0 (Y5 BK188.out)
      have n3_ := Z0 (below_drew1 HB.out)
      clear BK182
      clear BK186
      clear BK188
      clear HB
      have BK182 := n0_
      have BK186 := n1_
      have BK188 := n2_
      have HB := n3_
      clear n0_ n1_ n2_ n3_
      have p189 : 0 ≤ (x39_2 : Int) := of_decide_eq_true V3
      have q189 : x39_2 < (((rd_T46 l0_2 x25_1).f1).length : Int) := of_decide_eq_true V3
      obtain ⟨ad189, e189, hx189_0, hx189_1, hx189_2⟩ := at_T25 HR185_1.out x39_2 p189 q189
      have hw189_2 := hx189_2
      have hw189_1 := hx189_1
      have hw189_0 := hx189_0
      cases e189
      replace hx189_0 := hz HB.out hx189_0
      replace hx189_1 := hz HB.out hx189_1
      replace hx189_2 := hz HB.out hx189_2
      replace p189 := eq_true p189
      replace q189 := eq_true q189
      refine start_ (n := 10) (S := fun w' => w'.cell? ⟨gb188, 0, none⟩ = some (.string ((rd_T23 l0_1 x39_2).f0)) ∧ w'.cell? ⟨gb188, 1, none⟩ = some (.int .i64 ((rd_T23 l0_1 x39_2).f1)) ∧ w'.cell? ⟨gb188, 2, none⟩ = some (.int .i64 ((rd_T23 l0_1 x39_2).f2)) ∧ w'.cell? ⟨gb188, 3, none⟩ = some (.bool ((rd_T23 l0_1 x39_2).f3)) ∧ w'.cell? ⟨gb182, 0, none⟩ = some (.int .i64 a0_0) ∧ w'.cell? ⟨gb182, 1, none⟩ = some (.slice (some ad187) l0_1.length c0_1) ∧ w'.cell? ⟨gb182, 2, none⟩ = some (.slice (some ad185) l0_2.length c0_2) ∧ w'.cell? ⟨gb186, 0, none⟩ = some (.bool ((rd_T46 l0_2 x25_1).f0)) ∧ w'.cell? ⟨gb186, 1, none⟩ = some (.slice (some ad189) ((rd_T46 l0_2 x25_1).f1).length c185_1) ∧ w'.cell? (ad189.add ((x39_2).toNat * 3)) = some (.int .i64 ((rd_T25 ((rd_T46 l0_2 x25_1).f1) x39_2).f0)) ∧ w'.cell? ⟨(ad189.add ((x39_2).toNat * 3)).block, (ad189.add ((x39_2).toNat * 3)).off + 1, none⟩ = some (.int .i64 ((rd_T25 ((rd_T46 l0_2 x25_1).f1) x39_2).f1)) ∧ w'.cell? ⟨(ad189.add ((x39_2).toNat * 3)).block, (ad189.add ((x39_2).toNat * 3)).off + 2, none⟩ = some (.string ((rd_T25 ((rd_T46 l0_2 x25_1).f1) x39_2).f2))) (ds := []) (bs 10 0) (by kernel_rfl) rfl rfl ⟨(Z4 BK188.out 0).trans rfl, (Z4 BK188.out 1).trans rfl, (Z4 BK188.out 2).trans rfl, (Z4 BK188.out 3).trans rfl, (Z4 BK182.out 0).trans rfl, (Z4 BK182.out 1).trans rfl, (Z4 BK182.out 2).trans rfl, (Z4 BK186.out 0).trans rfl, (Z4 BK186.out 1).trans rfl, (hz HB.out hw189_0), (hz HB.out hw189_1), (hz HB.out hw189_2)⟩ (fun hHeld => ?_); refine with_tabW table_Validate.tab16 table_Validate.bits16 (fun HT_ HW_ => ?_)
      generalize w40.drew = w41 at BK182 BK186 BK188 HB hx189_0 hx189_1 hx189_2 hHeld ⊢
      refine pz 1 45 (bs 10 2) HT_ ?_
      refine pz 3 47 (bs 10 10) HT_ ?_
      refine pz 5 49 (bs 10 42) HT_ ?_
      refine tz 0 44 (bs 10 43) HT_ HW_ hHeld ?_
      refine tz 2 46 (bs 10 47) HT_ HW_ hHeld ?_
      refine tz 4 48 (bs 10 63) HT_ HW_ hHeld ?_
      refine pz 6 50 (bs 10 127) HT_ ?_
      refine tz 7 51 (bs 10 255) HT_ HW_ hHeld ?_
      refine one_ (i := 8) (N := some 52) (bs 10 511) rfl rfl (one_of HT_.out (by kernel_rfl)) (by decide) (fun K hK => ?_)
      refine goes_ Tryz.func73 (by kernel_rfl) rfl #[.agg #[.string ((rd_T23 l0_1 x39_2).f0), .int .i64 ((rd_T23 l0_1 x39_2).f1), .int .i64 ((rd_T23 l0_1 x39_2).f2), .bool ((rd_T23 l0_1 x39_2).f3)], .int .i64 a0_0, .agg #[.int .i64 ((rd_T25 ((rd_T46 l0_2 x25_1).f1) x39_2).f0), .int .i64 ((rd_T25 ((rd_T46 l0_2 x25_1).f1) x39_2).f1), .string ((rd_T25 ((rd_T46 l0_2 x25_1).f1) x39_2).f2)]] (by rfl) rfl rfl V1 ?_
      with_reducible refine (table_holds.calls k2 ((rd_T23 l0_1 x39_2).f0) ((rd_T23 l0_1 x39_2).f1) ((rd_T23 l0_1 x39_2).f2) ((rd_T23 l0_1 x39_2).f3) a0_0 ((rd_T25 ((rd_T46 l0_2 x25_1).f1) x39_2).f0) ((rd_T25 ((rd_T46 l0_2 x25_1).f1) x39_2).f1) ((rd_T25 ((rd_T46 l0_2 x25_1).f1) x39_2).f2) false _ A27.out).mono ?_
      rintro e w42 ⟨rfl, hb⟩
      refine ⟨_, rfl, ?_⟩
      have n0_ := Z0 (Z2 (g := gb182) (o := .cells #[.int .i64 a0_0, .slice (some ad187) l0_1.length c0_1, .slice (some ad185) l0_2.length c0_2] 35 (0, 0)) (kb BK182.out) hb)
      have n1_ := Z0 (Z2 (g := gb186) (o := .cells #[.bool ((rd_T46 l0_2 x25_1).f0), .slice (some ad189) ((rd_T46 l0_2 x25_1).f1).length c185_1] 46 (0, 0)) (kb BK186.out) hb)
      have n2_ := Z0 (Z2 (g := gb188) (o := .cells #[.string ((rd_T23 l0_1 x39_2).f0), .int .i64 ((rd_T23 l0_1 x39_2).f1), .int .i64 ((rd_T23 l0_1 x39_2).f2), .bool ((rd_T23 l0_1 x39_2).f3)] 23 (0, 0)) (kb BK188.out) hb)
      have n3_ := Z0 (Z1 V0 hb)
      clear BK182
      clear BK186
      clear BK188
      clear HB
      have BK182 := n0_
      have BK186 := n1_
      have BK188 := n2_
      have HB := n3_
      clear n0_ n1_ n2_ n3_
      refine hK.out _ _ ⟨(Z4 BK188.out 0).trans rfl, (Z4 BK188.out 1).trans rfl, (Z4 BK188.out 2).trans rfl, (Z4 BK188.out 3).trans rfl, (Z4 BK182.out 0).trans rfl, (Z4 BK182.out 1).trans rfl, (Z4 BK182.out 2).trans rfl, (Z4 BK186.out 0).trans rfl, (Z4 BK186.out 1).trans rfl, (hz HB.out hw189_0), (hz HB.out hw189_1), (hz HB.out hw189_2)⟩ (fun hHeld => ?_)
      clear hK K
      refine norm_ (a' := ?_) ?_ ?_
      rotate_left
      ·show Act.put _ (some 52) _ = _
       simp only [Act.put, Z3, Z6, Z7, i64_w, i32_w]
       rfl
      refine pz 9 53 (bs 10 1023) HT_ ?_
      refine done_ (done_of HT_.out (by kernel_rfl)) ?_
      try go_wp2
      go_ret
      exact ⟨rfl, V0⟩
     subst c28
     have H1 : (table_Validate.l1 k2 l0_2 (l0_2.length : Int) x25_1 l0_1 (l0_1.length : Int) (wrap64 (x39_2 + 1)) a0_0 l0_1 l0_2 ((rd_T46 l0_2 x25_1).f0) ((rd_T46 l0_2 x25_1).f1)) = some r := by rw [if_pos rfl] at H; exact H
     clear H
     have H := H1
     clear H1
     have H' := Z0 H
     clear H
     have p187 : 0 ≤ (x39_2 : Int) := of_decide_eq_true V3
     have q187 : x39_2 < (l0_1.length : Int) := of_decide_eq_true V3
     obtain ⟨ad187, e187, hx187_0, hx187_1, hx187_2, hx187_3⟩ := at_T23 HR0_1.out x39_2 p187 q187
     cases e187
     replace hx187_0 := hz HB.out hx187_0
     replace hx187_1 := hz HB.out hx187_1
     replace hx187_2 := hz HB.out hx187_2
     replace hx187_3 := hz HB.out hx187_3
     replace p187 := eq_true p187
     replace q187 := eq_true q187
     try go_wp2_with (first | ((with_reducible refine Z9 (N := 7) rfl ?_); refine bx (N := 7) (cs := #[.string (⟨#[]⟩ : ByteArray), .int .i64 0, .int .i64 0, .bool false]) (t := 23) ?_; intro gb188 hg w29 hbox hb; have BK188 := Z0 hbox; have GE188 := ge hg V0; replace HB := Z0 (Z1 V0 hb); obtain ⟨NB182_188, NB188_182⟩ := nb (g := gb182) (o := .cells #[.int .i64 a0_0, .slice (some ad187) l0_1.length c0_1, .slice (some ad185) l0_2.length c0_2] 35 (0, 0)) hg (kb BK182.out); replace BK182 := Z0 (Z2 (g := gb182) (o := .cells #[.int .i64 a0_0, .slice (some ad187) l0_1.length c0_1, .slice (some ad185) l0_2.length c0_2] 35 (0, 0)) (kb BK182.out) hb); obtain ⟨NB186_188, NB188_186⟩ := nb (g := gb186) (o := .cells #[.bool ((rd_T46 l0_2 x25_1).f0), .slice A185_1 ((rd_T46 l0_2 x25_1).f1).length c185_1] 46 (0, 0)) hg (kb BK186.out); replace BK186 := Z0 (Z2 (g := gb186) (o := .cells #[.bool ((rd_T46 l0_2 x25_1).f0), .slice A185_1 ((rd_T46 l0_2 x25_1).f1).length c185_1] 46 (0, 0)) (kb BK186.out) hb); clear hb hbox hg; have hnb30 := NB188_182.out; have hnc30 := NB182_188.out; have hnb31 := NB188_186.out; have hnc31 := NB186_188.out; obtain ⟨hcz32_0, hcz32_1, hcz32_2, hcz32_3⟩ := bc4 BK188.out; obtain ⟨hfz32_0, hfz32_1, hfz32_2, hfz32_3⟩ := bf4 BK188.out))
     have n0_ : Aside0 (((((w29.setCell ⟨gb188, 0, none⟩ (.string ((rd_T23 l0_1 x39_2).f0))).setCell ⟨gb188, 1, none⟩ (.int .i64 ((rd_T23 l0_1 x39_2).f1))).setCell ⟨gb188, 2, none⟩ (.int .i64 ((rd_T23 l0_1 x39_2).f2))).setCell ⟨gb188, 3, none⟩ (.bool ((rd_T23 l0_1 x39_2).f3))).heap[gb182]? = some (.cells #[.int .i64 a0_0, .slice (some ad187) l0_1.length c0_1, .slice (some ad185) l0_2.length c0_2] 35 (0, 0))) := ⟨by (with_reducible repeat (first | refine Y6 ?_ _ | refine Y5 ?_ | refine Y7 ?_ _)); refine blk_far ?_ NB182_188.out _; (with_reducible repeat (first | refine Y6 ?_ _ | refine Y5 ?_ | refine Y7 ?_ _)); refine blk_far ?_ NB182_188.out _; (with_reducible repeat (first | refine Y6 ?_ _ | refine Y5 ?_ | refine Y7 ?_ _)); refine blk_far ?_ NB182_188.out _; (with_reducible repeat (first | refine Y6 ?_ _ | refine Y5 ?_ | refine Y7 ?_ _)); refine blk_far ?_ NB182_188.out _; (with_reducible repeat (first | refine Y6 ?_ _ | refine Y5 ?_ | refine Y7 ?_ _)); exact BK182.out⟩
     have n1_ : Aside0 (((((w29.setCell ⟨gb188, 0, none⟩ (.string ((rd_T23 l0_1 x39_2).f0))).setCell ⟨gb188, 1, none⟩ (.int .i64 ((rd_T23 l0_1 x39_2).f1))).setCell ⟨gb188, 2, none⟩ (.int .i64 ((rd_T23 l0_1 x39_2).f2))).setCell ⟨gb188, 3, none⟩ (.bool ((rd_T23 l0_1 x39_2).f3))).heap[gb186]? = some (.cells #[.bool ((rd_T46 l0_2 x25_1).f0), .slice A185_1 ((rd_T46 l0_2 x25_1).f1).length c185_1] 46 (0, 0))) := ⟨by (with_reducible repeat (first | refine Y6 ?_ _ | refine Y5 ?_ | refine Y7 ?_ _)); refine blk_far ?_ NB186_188.out _; (with_reducible repeat (first | refine Y6 ?_ _ | refine Y5 ?_ | refine Y7 ?_ _)); refine blk_far ?_ NB186_188.out _; (with_reducible repeat (first | refine Y6 ?_ _ | refine Y5 ?_ | refine Y7 ?_ _)); refine blk_far ?_ NB186_188.out _; (with_reducible repeat (first | refine Y6 ?_ _ | refine Y5 ?_ | refine Y7 ?_ _)); refine blk_far ?_ NB186_188.out _; (with_reducible repeat (first | refine Y6 ?_ _ | refine Y5 ?_ | refine Y7 ?_ _)); exact BK186.out⟩
     have n2_ : Aside0 (((((w29.setCell ⟨gb188, 0, none⟩ (.string ((rd_T23 l0_1 x39_2).f0))).setCell ⟨gb188, 1, none⟩ (.int .i64 ((rd_T23 l0_1 x39_2).f1))).setCell ⟨gb188, 2, none⟩ (.int .i64 ((rd_T23 l0_1 x39_2).f2))).setCell ⟨gb188, 3, none⟩ (.bool ((rd_T23 l0_1 x39_2).f3))).heap[gb188]? = some (.cells #[.string ((rd_T23 l0_1 x39_2).f0), .int .i64 ((rd_T23 l0_1 x39_2).f1), .int .i64 ((rd_T23 l0_1 x39_2).f2), .bool ((rd_T23 l0_1 x39_2).f3)] 23 (0, 0))) := ⟨by (with_reducible repeat (first | refine Y6 ?_ _ | refine Y5 ?_ | refine Y7 ?_ _)); refine blk_put (cs := #[.string ((rd_T23 l0_1 x39_2).f0), .int .i64 ((rd_T23 l0_1 x39_2).f1), .int .i64 ((rd_T23 l0_1 x39_2).f2), .bool false]) ?_ 3 _ rfl; (with_reducible repeat (first | refine Y6 ?_ _ | refine Y5 ?_ | refine Y7 ?_ _)); refine blk_put (cs := #[.string ((rd_T23 l0_1 x39_2).f0), .int .i64 ((rd_T23 l0_1 x39_2).f1), .int .i64 0, .bool false]) ?_ 2 _ rfl; (with_reducible repeat (first | refine Y6 ?_ _ | refine Y5 ?_ | refine Y7 ?_ _)); refine blk_put (cs := #[.string ((rd_T23 l0_1 x39_2).f0), .int .i64 0, .int .i64 0, .bool false]) ?_ 1 _ rfl; (with_reducible repeat (first | refine Y6 ?_ _ | refine Y5 ?_ | refine Y7 ?_ _)); refine blk_put (cs := #[.string (⟨#[]⟩ : ByteArray), .int .i64 0, .int .i64 0, .bool false]) ?_ 0 _ rfl; (with_reducible repeat (first | refine Y6 ?_ _ | refine Y5 ?_ | refine Y7 ?_ _)); exact BK188.out⟩
     have n3_ : Aside0 (Below w.heap.size w ((((w29.setCell ⟨gb188, 0, none⟩ (.string ((rd_T23 l0_1 x39_2).f0))).setCell ⟨gb188, 1, none⟩ (.int .i64 ((rd_T23 l0_1 x39_2).f1))).setCell ⟨gb188, 2, none⟩ (.int .i64 ((rd_T23 l0_1 x39_2).f2))).setCell ⟨gb188, 3, none⟩ (.bool ((rd_T23 l0_1 x39_2).f3)))) := ⟨V0⟩
     generalize ((((w29.setCell ⟨gb188, 0, none⟩ (.string ((rd_T23 l0_1 x39_2).f0))).setCell ⟨gb188, 1, none⟩ (.int .i64 ((rd_T23 l0_1 x39_2).f1))).setCell ⟨gb188, 2, none⟩ (.int .i64 ((rd_T23 l0_1 x39_2).f2))).setCell ⟨gb188, 3, none⟩ (.bool ((rd_T23 l0_1 x39_2).f3))) = w33 at n0_ n1_ n2_ n3_ ⊢
     have BK182 := n0_
     have BK186 := n1_
     have BK188 := n2_
     have HB := n3_
     clear n0_ n1_ n2_ n3_
     have n0_ := Z0 (Y5 BK182.out)
     have n1_ := Z0 (Y5 BK186.out)
     have n2_ := Z0 (Y5 BK188.out)
     have n3_ := Z0 (below_drew1 HB.out)
     clear BK182
     clear BK186
     clear BK188
     clear HB
     have BK182 := n0_
     have BK186 := n1_
     have BK188 := n2_
     have HB := n3_
     clear n0_ n1_ n2_ n3_
     have p189 : 0 ≤ (x39_2 : Int) := of_decide_eq_true V3
     have q189 : x39_2 < (((rd_T46 l0_2 x25_1).f1).length : Int) := of_decide_eq_true V3
     obtain ⟨ad189, e189, hx189_0, hx189_1, hx189_2⟩ := at_T25 HR185_1.out x39_2 p189 q189
     have hw189_2 := hx189_2
     have hw189_1 := hx189_1
     have hw189_0 := hx189_0
     cases e189
     replace hx189_0 := hz HB.out hx189_0
     replace hx189_1 := hz HB.out hx189_1
     replace hx189_2 := hz HB.out hx189_2
     replace p189 := eq_true p189
     replace q189 := eq_true q189
     refine start_ (n := 10) (S := fun w' => w'.cell? ⟨gb188, 0, none⟩ = some (.string ((rd_T23 l0_1 x39_2).f0)) ∧ w'.cell? ⟨gb188, 1, none⟩ = some (.int .i64 ((rd_T23 l0_1 x39_2).f1)) ∧ w'.cell? ⟨gb188, 2, none⟩ = some (.int .i64 ((rd_T23 l0_1 x39_2).f2)) ∧ w'.cell? ⟨gb188, 3, none⟩ = some (.bool ((rd_T23 l0_1 x39_2).f3)) ∧ w'.cell? ⟨gb182, 0, none⟩ = some (.int .i64 a0_0) ∧ w'.cell? ⟨gb182, 1, none⟩ = some (.slice (some ad187) l0_1.length c0_1) ∧ w'.cell? ⟨gb182, 2, none⟩ = some (.slice (some ad185) l0_2.length c0_2) ∧ w'.cell? ⟨gb186, 0, none⟩ = some (.bool ((rd_T46 l0_2 x25_1).f0)) ∧ w'.cell? ⟨gb186, 1, none⟩ = some (.slice (some ad189) ((rd_T46 l0_2 x25_1).f1).length c185_1) ∧ w'.cell? (ad189.add ((x39_2).toNat * 3)) = some (.int .i64 ((rd_T25 ((rd_T46 l0_2 x25_1).f1) x39_2).f0)) ∧ w'.cell? ⟨(ad189.add ((x39_2).toNat * 3)).block, (ad189.add ((x39_2).toNat * 3)).off + 1, none⟩ = some (.int .i64 ((rd_T25 ((rd_T46 l0_2 x25_1).f1) x39_2).f1)) ∧ w'.cell? ⟨(ad189.add ((x39_2).toNat * 3)).block, (ad189.add ((x39_2).toNat * 3)).off + 2, none⟩ = some (.string ((rd_T25 ((rd_T46 l0_2 x25_1).f1) x39_2).f2))) (ds := []) (bs 10 0) (by kernel_rfl) rfl rfl ⟨(Z4 BK188.out 0).trans rfl, (Z4 BK188.out 1).trans rfl, (Z4 BK188.out 2).trans rfl, (Z4 BK188.out 3).trans rfl, (Z4 BK182.out 0).trans rfl, (Z4 BK182.out 1).trans rfl, (Z4 BK182.out 2).trans rfl, (Z4 BK186.out 0).trans rfl, (Z4 BK186.out 1).trans rfl, (hz HB.out hw189_0), (hz HB.out hw189_1), (hz HB.out hw189_2)⟩ (fun hHeld => ?_); refine with_tabW table_Validate.tab16 table_Validate.bits16 (fun HT_ HW_ => ?_)
     generalize w33.drew = w34 at BK182 BK186 BK188 HB hx189_0 hx189_1 hx189_2 hHeld ⊢
     refine pz 1 45 (bs 10 2) HT_ ?_
     refine pz 3 47 (bs 10 10) HT_ ?_
     refine pz 5 49 (bs 10 42) HT_ ?_
     refine tz 0 44 (bs 10 43) HT_ HW_ hHeld ?_
     refine tz 2 46 (bs 10 47) HT_ HW_ hHeld ?_
     refine tz 4 48 (bs 10 63) HT_ HW_ hHeld ?_
     refine pz 6 50 (bs 10 127) HT_ ?_
     refine tz 7 51 (bs 10 255) HT_ HW_ hHeld ?_
     refine one_ (i := 8) (N := some 52) (bs 10 511) rfl rfl (one_of HT_.out (by kernel_rfl)) (by decide) (fun K hK => ?_)
     refine goes_ Tryz.func73 (by kernel_rfl) rfl #[.agg #[.string ((rd_T23 l0_1 x39_2).f0), .int .i64 ((rd_T23 l0_1 x39_2).f1), .int .i64 ((rd_T23 l0_1 x39_2).f2), .bool ((rd_T23 l0_1 x39_2).f3)], .int .i64 a0_0, .agg #[.int .i64 ((rd_T25 ((rd_T46 l0_2 x25_1).f1) x39_2).f0), .int .i64 ((rd_T25 ((rd_T46 l0_2 x25_1).f1) x39_2).f1), .string ((rd_T25 ((rd_T46 l0_2 x25_1).f1) x39_2).f2)]] (by rfl) rfl rfl V1 ?_
     with_reducible refine (table_holds.calls k2 ((rd_T23 l0_1 x39_2).f0) ((rd_T23 l0_1 x39_2).f1) ((rd_T23 l0_1 x39_2).f2) ((rd_T23 l0_1 x39_2).f3) a0_0 ((rd_T25 ((rd_T46 l0_2 x25_1).f1) x39_2).f0) ((rd_T25 ((rd_T46 l0_2 x25_1).f1) x39_2).f1) ((rd_T25 ((rd_T46 l0_2 x25_1).f1) x39_2).f2) true _ A27.out).mono ?_
     rintro e w35 ⟨rfl, hb⟩
     refine ⟨_, rfl, ?_⟩
     have n0_ := Z0 (Z2 (g := gb182) (o := .cells #[.int .i64 a0_0, .slice (some ad187) l0_1.length c0_1, .slice (some ad185) l0_2.length c0_2] 35 (0, 0)) (kb BK182.out) hb)
     have n1_ := Z0 (Z2 (g := gb186) (o := .cells #[.bool ((rd_T46 l0_2 x25_1).f0), .slice (some ad189) ((rd_T46 l0_2 x25_1).f1).length c185_1] 46 (0, 0)) (kb BK186.out) hb)
     have n2_ := Z0 (Z2 (g := gb188) (o := .cells #[.string ((rd_T23 l0_1 x39_2).f0), .int .i64 ((rd_T23 l0_1 x39_2).f1), .int .i64 ((rd_T23 l0_1 x39_2).f2), .bool ((rd_T23 l0_1 x39_2).f3)] 23 (0, 0)) (kb BK188.out) hb)
     have n3_ := Z0 (Z1 V0 hb)
     clear BK182
     clear BK186
     clear BK188
     clear HB
     have BK182 := n0_
     have BK186 := n1_
     have BK188 := n2_
     have HB := n3_
     clear n0_ n1_ n2_ n3_
     refine hK.out _ _ ⟨(Z4 BK188.out 0).trans rfl, (Z4 BK188.out 1).trans rfl, (Z4 BK188.out 2).trans rfl, (Z4 BK188.out 3).trans rfl, (Z4 BK182.out 0).trans rfl, (Z4 BK182.out 1).trans rfl, (Z4 BK182.out 2).trans rfl, (Z4 BK186.out 0).trans rfl, (Z4 BK186.out 1).trans rfl, (hz HB.out hw189_0), (hz HB.out hw189_1), (hz HB.out hw189_2)⟩ (fun hHeld => ?_)
     clear hK K
     refine norm_ (a' := ?_) ?_ ?_
     rotate_left
     ·show Act.put _ (some 52) _ = _
      simp only [Act.put, Z3, Z6, Z7, i64_w, i32_w]
      rfl
     refine pz 9 53 (bs 10 1023) HT_ ?_
     refine done_ (done_of HT_.out (by kernel_rfl)) ?_
     try go_wp2
     go_roundg k2
     case measure => have := HK1.out; have := HK2.out; omega
     case rel => exact ⟨(wrap64 (x39_2 + 1)), V2, H', ⟨by have := HK1.out; have := HK2.out; omega⟩, ⟨kb BK182.out⟩, ⟨kb BK186.out⟩, ⟨V0⟩⟩
def cabinetryref03_ValidateRecord.l0 : Nat → List (S23) → Int → Int → Bool → List (S25) → Option (Int)
 | 0, _, _, _, _, _ => none
 | k + 1, x0, x1, x7, x220000, x220001 => if x7 < (x0.length : Int) then (if 0 ≤ x7 then (if x7 < (x220001.length : Int) then ((cabinetryref03_fits.f k ((rd_T23 x0 x7).f0) ((rd_T23 x0 x7).f1) ((rd_T23 x0 x7).f2) ((rd_T23 x0 x7).f3) x1 ((rd_T25 x220001 x7).f0) ((rd_T25 x220001 x7).f1) ((rd_T25 x220001 x7).f2)).bind fun t222 => (if t222 = true then (cabinetryref03_ValidateRecord.l0 k x0 x1 (wrap64 (x7 + 1)) x220000 x220001) else (some 1))) else (none)) else (none)) else (some 0)
def cabinetryref03_ValidateRecord.f (k : Nat) (l0 : List (S23)) (a1 : Int) (a2_0 : Bool) (l2_1 : List (S25)) : Option (Int) := if (l2_1.length : Int) = (l0.length : Int) then (cabinetryref03_ValidateRecord.l0 k l0 a1 0 a2_0 l2_1) else (some 10)
theorem cabinetryref03_ValidateRecord.mono_l : ∀ k, (∀ y0 y1 y2 y3 y4, LeO (cabinetryref03_ValidateRecord.l0 k y0 y1 y2 y3 y4) (cabinetryref03_ValidateRecord.l0 (k + 1) y0 y1 y2 y3 y4))
 | 0 => fun _ _ _ _ _ r h => by simp [cabinetryref03_ValidateRecord.l0] at h
 | k + 1 => by
  have ih0 := cabinetryref03_ValidateRecord.mono_l k
  ·intro y0 y1 y2 y3 y4
   unfold cabinetryref03_ValidateRecord.l0
   repeat' first
   | (with_reducible exact ih0 _ _ _ _ _)
   | (with_reducible exact cabinetryref03_fits.mono _ _ _ _ _ _ _ _ _)
   | (with_reducible exact LeO.refl _)
   | (with_reducible exact LeO.none _)
   | (with_reducible refine LeO.ite ?_ ?_)
   | (with_reducible refine LeO.bind ?_ (fun _ => ?_))
theorem cabinetryref03_ValidateRecord.mono : ∀ a0 a1 a2 a3 k, LeO (cabinetryref03_ValidateRecord.f k a0 a1 a2 a3) (cabinetryref03_ValidateRecord.f (k + 1) a0 a1 a2 a3) := by
 intro a0 a1 a2 a3 k
 have ih0 := cabinetryref03_ValidateRecord.mono_l k
 unfold cabinetryref03_ValidateRecord.f
 repeat' first
   | (with_reducible exact ih0 _ _ _ _ _)
   | (with_reducible exact cabinetryref03_fits.mono _ _ _ _ _ _ _ _ _)
   | (with_reducible exact LeO.refl _)
   | (with_reducible exact LeO.none _)
   | (with_reducible refine LeO.ite ?_ ?_)
   | (with_reducible refine LeO.bind ?_ (fun _ => ?_))
def cabinetryref03_ValidateRecord.T6 : Bool × List (List Nat × List Nat) := (true, [([], []), ([], []), ([0, 1], [0, 1]), ([2], [2]), ([], []), ([], []), ([5], [5]), ([], []), ([6, 7], [6, 7]), ([8], [8]), ([3, 4, 9], [3, 4, 9]), ([10], [10])])
def cabinetryref03_ValidateRecord.B6 : List Nat := [0, 0, 3, 7, 0, 0, 32, 0, 224, 480, 1023, 2047]
theorem cabinetryref03_ValidateRecord.tab6 : rtab .any (opsOf Tryz.f74 6) = cabinetryref03_ValidateRecord.T6 := by kernel_rfl
theorem cabinetryref03_ValidateRecord.bits6 : waitsOk cabinetryref03_ValidateRecord.T6.2 cabinetryref03_ValidateRecord.B6 = true := by kernel_rfl
theorem cabinetryref03_ValidateRecord.calls (k : Nat) (A0 : Option Addr) (c0 : Nat) (l0 : List (S23)) (a1 : Int) (a2_0 : Bool) (A2_1 : Option Addr) (c2_1 : Nat) (l2_1 : List (S25)) (r : Int) (w : World) (hr0 : Kd.C k23 w A0 l0.length l0) (hc0 : l0.length ≤ c0) (hr2_1 : Kd.C k25 w A2_1 l2_1.length l2_1) (hc2_1 : l2_1.length ≤ c2_1) (h : cabinetryref03_ValidateRecord.f k l0 a1 a2_0 l2_1 = some r) :
  Calls Tryz.prog 74 #[.slice A0 l0.length c0, .int .i64 a1, .agg #[.bool a2_0, .slice A2_1 l2_1.length c2_1]] w fun e w' => e = .returned (.int .i64 r) ∧ Below w.heap.size w w' := by
 have hu46 := Tryz.underlying46
 have hu23 := Tryz.underlying23
 have hu25 := Tryz.underlying25
 have HR0 := Z0 hr0
 have HC0 := Z0 hc0
 clear hr0 hc0
 have HR2_1 := Z0 hr2_1
 have HC2_1 := Z0 hc2_1
 clear hr2_1 hc2_1
 have HB := Z0 (Below.refl w.heap.size w)
 unfold cabinetryref03_ValidateRecord.f at h
 have H := h
 clear h
 by_cases c4 : (l2_1.length : Int) = (l0.length : Int)
 rotate_left
 ·rw [if_neg c4] at H
  have c4b0 : ((l2_1.length : Int) == (l0.length : Int)) = false := beq_eq_false_iff_ne.mpr c4
  have c4b1 : ((l2_1.length : Int) != (l0.length : Int)) = true := bne_iff_ne.mpr c4
  have c4b2 : (l2_1.length == l0.length) = false := by first | simpa using c4 | (simp at c4 ⊢; omega)
  obtain rfl := Option.some.inj H
  go_enter Tryz.func74, Tryz.ntmps74
  go_wp2_with (first | ((with_reducible refine Z9 (N := 5) rfl ?_); refine bx (N := 5) (cs := #[.bool a2_0, .slice A2_1 l2_1.length c2_1]) (t := 46) ?_; intro gb219 hg w16 hbox hb; have BK219 := Z0 hbox; have GE219 := ge hg HB.out; replace HB := Z0 (Z1 HB.out hb); clear hb hbox hg; obtain ⟨hcz17_0, hcz17_1⟩ := bc2 BK219.out; obtain ⟨hfz17_0, hfz17_1⟩ := bf2 BK219.out))
  go_ret
  exact ⟨rfl, V0⟩
 rw [if_pos c4] at H
 have c4b0 : ((l2_1.length : Int) == (l0.length : Int)) = true := beq_iff_eq.mpr c4
 have c4b1 : ((l2_1.length : Int) != (l0.length : Int)) = false := bne_eq_false_iff_eq.mpr c4
 have c4b2 : (l2_1.length == l0.length) = true := by first | simpa using c4 | (simp at c4 ⊢; omega)
 clear c4
 have H' := Z0 H
 clear H
 go_enter Tryz.func74, Tryz.ntmps74
 go_wp2_with (first | ((with_reducible refine Z9 (N := 5) rfl ?_); refine bx (N := 5) (cs := #[.bool a2_0, .slice A2_1 l2_1.length c2_1]) (t := 46) ?_; intro gb219 hg w5 hbox hb; have BK219 := Z0 hbox; have GE219 := ge hg HB.out; replace HB := Z0 (Z1 HB.out hb); clear hb hbox hg; obtain ⟨hcz6_0, hcz6_1⟩ := bc2 BK219.out; obtain ⟨hfz6_0, hfz6_1⟩ := bf2 BK219.out))
 go_loopg [7] k (fun kq v7 w' => ∃ (x7_1 : Int), v7 = .int .i64 x7_1 ∧ Aside0 (cabinetryref03_ValidateRecord.l0 kq l0 a1 x7_1 a2_0 l2_1 = some r) ∧ Aside0 (kq ≤ k) ∧ Aside0 (w'.heap[gb219]? = some (.cells #[.bool a2_0, (.slice A2_1 l2_1.length c2_1)] 46 (0, 0))) ∧ Aside0 (Below w.heap.size w w'))
 case atStart => exact ⟨(0), V2, H', ⟨Nat.le_refl _⟩, ⟨bk⟩, ⟨V0⟩⟩
 case round =>
  clear H'
  obtain ⟨x7_1, rfl, HA, HK1, BK219, HB⟩ := hrel
  cases gk with
  | zero => exact absurd HA.out (by simp [cabinetryref03_ValidateRecord.l0])
  | succ k1 =>
   have H := HA.out
   clear HA
   simp only [cabinetryref03_ValidateRecord.l0] at H
   by_cases c7 : x7_1 < (l0.length : Int)
   rotate_left
   ·rw [if_neg c7] at H
    have c7b0 : decide (x7_1 < (l0.length : Int)) = false := decide_eq_false c7
    clear c7
    obtain rfl := Option.some.inj H
    go_wp2
    go_ret
    exact ⟨rfl, V0⟩
   rw [if_pos c7] at H
   have c7b0 : decide (x7_1 < (l0.length : Int)) = true := decide_eq_true c7
   clear c7
   by_cases c8 : 0 ≤ x7_1
   rotate_left
   ·rw [if_neg c8] at H
    exact absurd H (by simp)
   rw [if_pos c8] at H
   have c8b0 : decide (0 ≤ x7_1) = true := decide_eq_true c8
   clear c8
   by_cases c9 : x7_1 < (l2_1.length : Int)
   rotate_left
   ·rw [if_neg c9] at H
    exact absurd H (by simp)
   rw [if_pos c9] at H
   have c9b0 : decide (x7_1 < (l2_1.length : Int)) = true := decide_eq_true c9
   clear c9
   replace H := Option.bind_eq_some_iff.mp H
   obtain ⟨t222, A100, H⟩ := H
   replace H : (if t222 = true then (cabinetryref03_ValidateRecord.l0 k1 l0 a1 (wrap64 (x7_1 + 1)) a2_0 l2_1) else (some 1)) = some r := H
   have A10 := Z0 A100
   clear A100
   by_cases c11 : t222 = true
   rotate_left
   ·replace c11 := Bool.eq_false_iff.mpr c11
    subst c11
    have H1 : (some 1) = some r := by rw [if_neg (show ¬ (false = true) by decide)] at H; exact H
    clear H
    have H := H1
    clear H1
    obtain rfl := Option.some.inj H
    try go_wp2
    have n0_ := Z0 (Y5 BK219.out)
    have n1_ := Z0 (below_drew1 HB.out)
    clear BK219
    clear HB
    have BK219 := n0_
    have HB := n1_
    clear n0_ n1_
    have p220 : 0 ≤ (x7_1 : Int) := of_decide_eq_true V3
    have q220 : x7_1 < (l0.length : Int) := of_decide_eq_true V3
    obtain ⟨ad220, e220, hx220_0, hx220_1, hx220_2, hx220_3⟩ := at_T23 HR0.out x7_1 p220 q220
    have hw220_3 := hx220_3
    have hw220_2 := hx220_2
    have hw220_1 := hx220_1
    have hw220_0 := hx220_0
    cases e220
    replace hx220_0 := hz HB.out hx220_0
    replace hx220_1 := hz HB.out hx220_1
    replace hx220_2 := hz HB.out hx220_2
    replace hx220_3 := hz HB.out hx220_3
    replace p220 := eq_true p220
    replace q220 := eq_true q220
    have p221 : 0 ≤ (x7_1 : Int) := of_decide_eq_true V3
    have q221 : x7_1 < (l2_1.length : Int) := of_decide_eq_true V3
    obtain ⟨ad221, e221, hx221_0, hx221_1, hx221_2⟩ := at_T25 HR2_1.out x7_1 p221 q221
    have hw221_2 := hx221_2
    have hw221_1 := hx221_1
    have hw221_0 := hx221_0
    cases e221
    replace hx221_0 := hz HB.out hx221_0
    replace hx221_1 := hz HB.out hx221_1
    replace hx221_2 := hz HB.out hx221_2
    replace p221 := eq_true p221
    replace q221 := eq_true q221
    refine start_ (n := 12) (S := fun w' => w'.cell? ⟨gb219, 0, none⟩ = some (.bool a2_0) ∧ w'.cell? ⟨gb219, 1, none⟩ = some (.slice (some ad221) l2_1.length c2_1) ∧ w'.cell? (ad220.add ((x7_1).toNat * 4)) = some (.string ((rd_T23 l0 x7_1).f0)) ∧ w'.cell? ⟨(ad220.add ((x7_1).toNat * 4)).block, (ad220.add ((x7_1).toNat * 4)).off + 1, none⟩ = some (.int .i64 ((rd_T23 l0 x7_1).f1)) ∧ w'.cell? ⟨(ad220.add ((x7_1).toNat * 4)).block, (ad220.add ((x7_1).toNat * 4)).off + 2, none⟩ = some (.int .i64 ((rd_T23 l0 x7_1).f2)) ∧ w'.cell? ⟨(ad220.add ((x7_1).toNat * 4)).block, (ad220.add ((x7_1).toNat * 4)).off + 3, none⟩ = some (.bool ((rd_T23 l0 x7_1).f3)) ∧ w'.cell? (ad221.add ((x7_1).toNat * 3)) = some (.int .i64 ((rd_T25 l2_1 x7_1).f0)) ∧ w'.cell? ⟨(ad221.add ((x7_1).toNat * 3)).block, (ad221.add ((x7_1).toNat * 3)).off + 1, none⟩ = some (.int .i64 ((rd_T25 l2_1 x7_1).f1)) ∧ w'.cell? ⟨(ad221.add ((x7_1).toNat * 3)).block, (ad221.add ((x7_1).toNat * 3)).off + 2, none⟩ = some (.string ((rd_T25 l2_1 x7_1).f2))) (ds := []) (bs 12 0) (by kernel_rfl) rfl rfl ⟨(Z4 BK219.out 0).trans rfl, (Z4 BK219.out 1).trans rfl, (hz HB.out hw220_0), (hz HB.out hw220_1), (hz HB.out hw220_2), (hz HB.out hw220_3), (hz HB.out hw221_0), (hz HB.out hw221_1), (hz HB.out hw221_2)⟩ (fun hHeld => ?_); refine with_tabW cabinetryref03_ValidateRecord.tab6 cabinetryref03_ValidateRecord.bits6 (fun HT_ HW_ => ?_)
    generalize wr.drew = w14 at BK219 HB hx220_0 hx220_1 hx220_2 hx220_3 hx221_0 hx221_1 hx221_2 hHeld ⊢
    refine pz 0 20 (bs 12 1) HT_ ?_
    refine pz 1 21 (bs 12 3) HT_ ?_
    refine pz 2 22 (bs 12 7) HT_ ?_
    refine pz 4 24 (bs 12 23) HT_ ?_
    refine pz 5 25 (bs 12 55) HT_ ?_
    refine pz 7 27 (bs 12 183) HT_ ?_
    refine tz 3 23 (bs 12 191) HT_ HW_ hHeld ?_
    refine tz 6 26 (bs 12 255) HT_ HW_ hHeld ?_
    refine pz 8 28 (bs 12 511) HT_ ?_
    refine tz 9 29 (bs 12 1023) HT_ HW_ hHeld ?_
    refine one_ (i := 10) (N := some 30) (bs 12 2047) rfl rfl (one_of HT_.out (by kernel_rfl)) (by decide) (fun K hK => ?_)
    refine goes_ Tryz.func105 (by kernel_rfl) rfl #[.agg #[.string ((rd_T23 l0 x7_1).f0), .int .i64 ((rd_T23 l0 x7_1).f1), .int .i64 ((rd_T23 l0 x7_1).f2), .bool ((rd_T23 l0 x7_1).f3)], .int .i64 a1, .agg #[.int .i64 ((rd_T25 l2_1 x7_1).f0), .int .i64 ((rd_T25 l2_1 x7_1).f1), .string ((rd_T25 l2_1 x7_1).f2)]] (by rfl) rfl rfl V1 ?_
    with_reducible refine (cabinetryref03_fits.calls k1 ((rd_T23 l0 x7_1).f0) ((rd_T23 l0 x7_1).f1) ((rd_T23 l0 x7_1).f2) ((rd_T23 l0 x7_1).f3) a1 ((rd_T25 l2_1 x7_1).f0) ((rd_T25 l2_1 x7_1).f1) ((rd_T25 l2_1 x7_1).f2) false _ A10.out).mono ?_
    rintro e w15 ⟨rfl, hb⟩
    refine ⟨_, rfl, ?_⟩
    have n0_ := Z0 (Z2 BK219.out hb)
    have n1_ := Z0 (Z1 HB.out hb)
    clear BK219
    clear HB
    have BK219 := n0_
    have HB := n1_
    clear n0_ n1_
    refine hK.out _ _ ⟨(Z4 BK219.out 0).trans rfl, (Z4 BK219.out 1).trans rfl, (hz HB.out hw220_0), (hz HB.out hw220_1), (hz HB.out hw220_2), (hz HB.out hw220_3), (hz HB.out hw221_0), (hz HB.out hw221_1), (hz HB.out hw221_2)⟩ (fun hHeld => ?_)
    clear hK K
    refine norm_ (a' := ?_) ?_ ?_
    rotate_left
    ·show Act.put _ (some 30) _ = _
     simp only [Act.put, Z3, Z6, Z7, i64_w, i32_w]
     rfl
    refine pz 11 31 (bs 12 4095) HT_ ?_
    refine done_ (done_of HT_.out (by kernel_rfl)) ?_
    try go_wp2
    go_ret
    exact ⟨rfl, V0⟩
   subst c11
   have H1 : (cabinetryref03_ValidateRecord.l0 k1 l0 a1 (wrap64 (x7_1 + 1)) a2_0 l2_1) = some r := by rw [if_pos rfl] at H; exact H
   clear H
   have H := H1
   clear H1
   have H' := Z0 H
   clear H
   try go_wp2
   have n0_ := Z0 (Y5 BK219.out)
   have n1_ := Z0 (below_drew1 HB.out)
   clear BK219
   clear HB
   have BK219 := n0_
   have HB := n1_
   clear n0_ n1_
   have p220 : 0 ≤ (x7_1 : Int) := of_decide_eq_true V3
   have q220 : x7_1 < (l0.length : Int) := of_decide_eq_true V3
   obtain ⟨ad220, e220, hx220_0, hx220_1, hx220_2, hx220_3⟩ := at_T23 HR0.out x7_1 p220 q220
   have hw220_3 := hx220_3
   have hw220_2 := hx220_2
   have hw220_1 := hx220_1
   have hw220_0 := hx220_0
   cases e220
   replace hx220_0 := hz HB.out hx220_0
   replace hx220_1 := hz HB.out hx220_1
   replace hx220_2 := hz HB.out hx220_2
   replace hx220_3 := hz HB.out hx220_3
   replace p220 := eq_true p220
   replace q220 := eq_true q220
   have p221 : 0 ≤ (x7_1 : Int) := of_decide_eq_true V3
   have q221 : x7_1 < (l2_1.length : Int) := of_decide_eq_true V3
   obtain ⟨ad221, e221, hx221_0, hx221_1, hx221_2⟩ := at_T25 HR2_1.out x7_1 p221 q221
   have hw221_2 := hx221_2
   have hw221_1 := hx221_1
   have hw221_0 := hx221_0
   cases e221
   replace hx221_0 := hz HB.out hx221_0
   replace hx221_1 := hz HB.out hx221_1
   replace hx221_2 := hz HB.out hx221_2
   replace p221 := eq_true p221
   replace q221 := eq_true q221
   refine start_ (n := 12) (S := fun w' => w'.cell? ⟨gb219, 0, none⟩ = some (.bool a2_0) ∧ w'.cell? ⟨gb219, 1, none⟩ = some (.slice (some ad221) l2_1.length c2_1) ∧ w'.cell? (ad220.add ((x7_1).toNat * 4)) = some (.string ((rd_T23 l0 x7_1).f0)) ∧ w'.cell? ⟨(ad220.add ((x7_1).toNat * 4)).block, (ad220.add ((x7_1).toNat * 4)).off + 1, none⟩ = some (.int .i64 ((rd_T23 l0 x7_1).f1)) ∧ w'.cell? ⟨(ad220.add ((x7_1).toNat * 4)).block, (ad220.add ((x7_1).toNat * 4)).off + 2, none⟩ = some (.int .i64 ((rd_T23 l0 x7_1).f2)) ∧ w'.cell? ⟨(ad220.add ((x7_1).toNat * 4)).block, (ad220.add ((x7_1).toNat * 4)).off + 3, none⟩ = some (.bool ((rd_T23 l0 x7_1).f3)) ∧ w'.cell? (ad221.add ((x7_1).toNat * 3)) = some (.int .i64 ((rd_T25 l2_1 x7_1).f0)) ∧ w'.cell? ⟨(ad221.add ((x7_1).toNat * 3)).block, (ad221.add ((x7_1).toNat * 3)).off + 1, none⟩ = some (.int .i64 ((rd_T25 l2_1 x7_1).f1)) ∧ w'.cell? ⟨(ad221.add ((x7_1).toNat * 3)).block, (ad221.add ((x7_1).toNat * 3)).off + 2, none⟩ = some (.string ((rd_T25 l2_1 x7_1).f2))) (ds := []) (bs 12 0) (by kernel_rfl) rfl rfl ⟨(Z4 BK219.out 0).trans rfl, (Z4 BK219.out 1).trans rfl, (hz HB.out hw220_0), (hz HB.out hw220_1), (hz HB.out hw220_2), (hz HB.out hw220_3), (hz HB.out hw221_0), (hz HB.out hw221_1), (hz HB.out hw221_2)⟩ (fun hHeld => ?_); refine with_tabW cabinetryref03_ValidateRecord.tab6 cabinetryref03_ValidateRecord.bits6 (fun HT_ HW_ => ?_)
   generalize wr.drew = w12 at BK219 HB hx220_0 hx220_1 hx220_2 hx220_3 hx221_0 hx221_1 hx221_2 hHeld ⊢
   refine pz 0 20 (bs 12 1) HT_ ?_
   refine pz 1 21 (bs 12 3) HT_ ?_
   refine pz 2 22 (bs 12 7) HT_ ?_
   refine pz 4 24 (bs 12 23) HT_ ?_
   refine pz 5 25 (bs 12 55) HT_ ?_
   refine pz 7 27 (bs 12 183) HT_ ?_
   refine tz 3 23 (bs 12 191) HT_ HW_ hHeld ?_
   refine tz 6 26 (bs 12 255) HT_ HW_ hHeld ?_
   refine pz 8 28 (bs 12 511) HT_ ?_
   refine tz 9 29 (bs 12 1023) HT_ HW_ hHeld ?_
   refine one_ (i := 10) (N := some 30) (bs 12 2047) rfl rfl (one_of HT_.out (by kernel_rfl)) (by decide) (fun K hK => ?_)
   refine goes_ Tryz.func105 (by kernel_rfl) rfl #[.agg #[.string ((rd_T23 l0 x7_1).f0), .int .i64 ((rd_T23 l0 x7_1).f1), .int .i64 ((rd_T23 l0 x7_1).f2), .bool ((rd_T23 l0 x7_1).f3)], .int .i64 a1, .agg #[.int .i64 ((rd_T25 l2_1 x7_1).f0), .int .i64 ((rd_T25 l2_1 x7_1).f1), .string ((rd_T25 l2_1 x7_1).f2)]] (by rfl) rfl rfl V1 ?_
   with_reducible refine (cabinetryref03_fits.calls k1 ((rd_T23 l0 x7_1).f0) ((rd_T23 l0 x7_1).f1) ((rd_T23 l0 x7_1).f2) ((rd_T23 l0 x7_1).f3) a1 ((rd_T25 l2_1 x7_1).f0) ((rd_T25 l2_1 x7_1).f1) ((rd_T25 l2_1 x7_1).f2) true _ A10.out).mono ?_
   rintro e w13 ⟨rfl, hb⟩
   refine ⟨_, rfl, ?_⟩
   have n0_ := Z0 (Z2 BK219.out hb)
   have n1_ := Z0 (Z1 HB.out hb)
   clear BK219
   clear HB
   have BK219 := n0_
   have HB := n1_
   clear n0_ n1_
   refine hK.out _ _ ⟨(Z4 BK219.out 0).trans rfl, (Z4 BK219.out 1).trans rfl, (hz HB.out hw220_0), (hz HB.out hw220_1), (hz HB.out hw220_2), (hz HB.out hw220_3), (hz HB.out hw221_0), (hz HB.out hw221_1), (hz HB.out hw221_2)⟩ (fun hHeld => ?_)
   clear hK K
   refine norm_ (a' := ?_) ?_ ?_
   rotate_left
   ·show Act.put _ (some 30) _ = _
    simp only [Act.put, Z3, Z6, Z7, i64_w, i32_w]
    rfl
   refine pz 11 31 (bs 12 4095) HT_ ?_
   refine done_ (done_of HT_.out (by kernel_rfl)) ?_
   try go_wp2
   go_roundg k1
   case measure => have := HK1.out; omega
   case rel => exact ⟨(wrap64 (x7_1 + 1)), V2, H', ⟨by have := HK1.out; omega⟩, ⟨bk⟩, ⟨V0⟩⟩
def cabinetryref03_Validate.l0 : Nat → Int → Int → List (S23) → List (S46) → Option (Int)
 | 0, _, _, _, _ => none
 | k + 1, x4, x224000, x224001, x224002 => if x4 < (x224002.length : Int) then (if 0 ≤ x4 then ((cabinetryref03_ValidateRecord.f k x224001 x224000 ((rd_T46 x224002 x4).f0) ((rd_T46 x224002 x4).f1)).bind fun t227 => (if t227 = 0 then (cabinetryref03_Validate.l0 k (wrap64 (x4 + 1)) x224000 x224001 x224002) else (some t227))) else (none)) else (some 0)
def cabinetryref03_Validate.f (k : Nat) (a0_0 : Int) (l0_1 : List (S23)) (l0_2 : List (S46)) : Option (Int) := (cabinetryref03_isPage.f a0_0).bind fun t224 => (if t224 = true then ((cabinetryref03_ValidateFields.f k l0_1).bind fun t225 => (if t225 = 0 then (if (l0_2.length : Int) > 300 then (some 3) else (cabinetryref03_Validate.l0 k 0 a0_0 l0_1 l0_2)) else (some t225))) else (some 1))
theorem cabinetryref03_Validate.mono_l : ∀ k, (∀ y0 y1 y2 y3, LeO (cabinetryref03_Validate.l0 k y0 y1 y2 y3) (cabinetryref03_Validate.l0 (k + 1) y0 y1 y2 y3))
 | 0 => fun _ _ _ _ r h => by simp [cabinetryref03_Validate.l0] at h
 | k + 1 => by
  have ih0 := cabinetryref03_Validate.mono_l k
  ·intro y0 y1 y2 y3
   unfold cabinetryref03_Validate.l0
   repeat' first
   | (with_reducible exact ih0 _ _ _ _)
   | (with_reducible exact cabinetryref03_ValidateFields.mono _ _)
   | (with_reducible exact cabinetryref03_ValidateRecord.mono _ _ _ _ _)
   | (with_reducible exact LeO.refl _)
   | (with_reducible exact LeO.none _)
   | (with_reducible refine LeO.ite ?_ ?_)
   | (with_reducible refine LeO.bind ?_ (fun _ => ?_))
theorem cabinetryref03_Validate.mono : ∀ a0 a1 a2 k, LeO (cabinetryref03_Validate.f k a0 a1 a2) (cabinetryref03_Validate.f (k + 1) a0 a1 a2) := by
 intro a0 a1 a2 k
 have ih0 := cabinetryref03_Validate.mono_l k
 unfold cabinetryref03_Validate.f
 repeat' first
   | (with_reducible exact ih0 _ _ _ _)
   | (with_reducible exact cabinetryref03_ValidateFields.mono _ _)
   | (with_reducible exact cabinetryref03_ValidateRecord.mono _ _ _ _ _)
   | (with_reducible exact LeO.refl _)
   | (with_reducible exact LeO.none _)
   | (with_reducible refine LeO.ite ?_ ?_)
   | (with_reducible refine LeO.bind ?_ (fun _ => ?_))
def cabinetryref03_Validate.T11 : Bool × List (List Nat × List Nat) := (true, [([], []), ([0], [0]), ([], []), ([2], [2]), ([], []), ([4], [4]), ([], []), ([5, 6], [5, 6]), ([7], [7]), ([1, 3, 8], [1, 3, 8]), ([9, 9, 0, 1, 2, 3, 4, 5, 6, 7, 8, 9], [9])])
def cabinetryref03_Validate.B11 : List Nat := [0, 1, 0, 4, 0, 16, 0, 112, 240, 511, 1023]
theorem cabinetryref03_Validate.tab11 : rtab .any (opsOf Tryz.f35 11) = cabinetryref03_Validate.T11 := by kernel_rfl
theorem cabinetryref03_Validate.bits11 : waitsOk cabinetryref03_Validate.T11.2 cabinetryref03_Validate.B11 = true := by kernel_rfl
theorem cabinetryref03_Validate.calls (k : Nat) (a0_0 : Int) (A0_1 : Option Addr) (c0_1 : Nat) (l0_1 : List (S23)) (A0_2 : Option Addr) (c0_2 : Nat) (l0_2 : List (S46)) (r : Int) (w : World) (hr0_1 : Kd.C k23 w A0_1 l0_1.length l0_1) (hc0_1 : l0_1.length ≤ c0_1) (hr0_2 : Kd.C k46 w A0_2 l0_2.length l0_2) (hc0_2 : l0_2.length ≤ c0_2) (h : cabinetryref03_Validate.f k a0_0 l0_1 l0_2 = some r) :
  Calls Tryz.prog 35 #[.agg #[.int .i64 a0_0, .slice A0_1 l0_1.length c0_1, .slice A0_2 l0_2.length c0_2]] w fun e w' => e = .returned (.int .i64 r) ∧ Below w.heap.size w w' := by
 have hu35 := Tryz.underlying35
 have hu46 := Tryz.underlying46
 have HR0_1 := Z0 hr0_1
 have HC0_1 := Z0 hc0_1
 clear hr0_1 hc0_1
 have HR0_2 := Z0 hr0_2
 have HC0_2 := Z0 hc0_2
 clear hr0_2 hc0_2
 have HB := Z0 (Below.refl w.heap.size w)
 unfold cabinetryref03_Validate.f at h
 have H := h
 clear h
 replace H := Option.bind_eq_some_iff.mp H
 obtain ⟨t224, A20, H⟩ := H
 replace H : (if t224 = true then ((cabinetryref03_ValidateFields.f k l0_1).bind fun t225 => (if t225 = 0 then (if (l0_2.length : Int) > 300 then (some 3) else (cabinetryref03_Validate.l0 k 0 a0_0 l0_1 l0_2)) else (some t225))) else (some 1)) = some r := H
 have A2 := Z0 A20
 clear A20
 by_cases c3 : t224 = true
 rotate_left
 ·replace c3 := Bool.eq_false_iff.mpr c3
  subst c3
  have H1 : (some 1) = some r := by rw [if_neg (show ¬ (false = true) by decide)] at H; exact H
  clear H
  have H := H1
  clear H1
  obtain rfl := Option.some.inj H
  go_enter Tryz.func35, Tryz.ntmps35
  go_wp2_with (first | ((with_reducible refine Z9 (N := 1) rfl ?_); refine bx (N := 1) (cs := #[.int .i64 a0_0, .slice A0_1 l0_1.length c0_1, .slice A0_2 l0_2.length c0_2]) (t := 35) ?_; intro gb223 hg w29 hbox hb; have BK223 := Z0 hbox; have GE223 := ge hg V0; replace HB := Z0 (Z1 V0 hb); clear hb hbox hg; obtain ⟨hcz30_0, hcz30_1, hcz30_2⟩ := bc3 BK223.out; obtain ⟨hfz30_0, hfz30_1, hfz30_2⟩ := bf3 BK223.out) | ((with_reducible refine Z5 (f := 56) rfl ?_); refine gl Tryz.func56 (cabinetryref03_isPage.calls a0_0 false _ A2.out) ?_; rintro e w' ⟨rfl, ⟨nd, rfl⟩⟩; refine ⟨_, rfl, ?_⟩))
  go_ret
  exact ⟨rfl, V0⟩
 subst c3
 have H1 : ((cabinetryref03_ValidateFields.f k l0_1).bind fun t225 => (if t225 = 0 then (if (l0_2.length : Int) > 300 then (some 3) else (cabinetryref03_Validate.l0 k 0 a0_0 l0_1 l0_2)) else (some t225))) = some r := by rw [if_pos rfl] at H; exact H
 clear H
 have H := H1
 clear H1
 replace H := Option.bind_eq_some_iff.mp H
 obtain ⟨t225, A40, H⟩ := H
 replace H : (if t225 = 0 then (if (l0_2.length : Int) > 300 then (some 3) else (cabinetryref03_Validate.l0 k 0 a0_0 l0_1 l0_2)) else (some t225)) = some r := H
 have A4 := Z0 A40
 clear A40
 by_cases c5 : t225 = 0
 rotate_left
 ·rw [if_neg c5] at H
  have c5b0 : (t225 == 0) = false := beq_eq_false_iff_ne.mpr c5
  have c5b1 : (t225 != 0) = true := bne_iff_ne.mpr c5
  obtain rfl := Option.some.inj H
  go_enter Tryz.func35, Tryz.ntmps35
  go_wp2_with (first | ((with_reducible refine Z9 (N := 1) rfl ?_); refine bx (N := 1) (cs := #[.int .i64 a0_0, .slice A0_1 l0_1.length c0_1, .slice A0_2 l0_2.length c0_2]) (t := 35) ?_; intro gb223 hg w26 hbox hb; have BK223 := Z0 hbox; have GE223 := ge hg V0; replace HB := Z0 (Z1 V0 hb); clear hb hbox hg; obtain ⟨hcz27_0, hcz27_1, hcz27_2⟩ := bc3 BK223.out; obtain ⟨hfz27_0, hfz27_1, hfz27_2⟩ := bf3 BK223.out) | ((with_reducible refine Z5 (f := 56) rfl ?_); refine gl Tryz.func56 (cabinetryref03_isPage.calls a0_0 true _ A2.out) ?_; rintro e w' ⟨rfl, ⟨nd, rfl⟩⟩; refine ⟨_, rfl, ?_⟩) | ((with_reducible refine Z5 (f := 37) rfl ?_); refine gl Tryz.func37 (cabinetryref03_ValidateFields.calls k _ _ l0_1 t225 _ (kc (Kd.C_below HR0_1.out V0)) HC0_1.out A4.out) ?_; rintro e w28 ⟨rfl, hb⟩; refine ⟨_, rfl, ?_⟩; replace BK223 := Z0 (Z2 (g := gb223) (o := .cells #[.int .i64 a0_0, .slice A0_1 l0_1.length c0_1, .slice A0_2 l0_2.length c0_2] 35 (0, 0)) bk hb); replace HB := Z0 (Z1 V0 hb)))
  go_ret
  exact ⟨rfl, V0⟩
 rw [if_pos c5] at H
 have c5b0 : (t225 == 0) = true := beq_iff_eq.mpr c5
 have c5b1 : (t225 != 0) = false := bne_eq_false_iff_eq.mpr c5
 clear c5
 by_cases c6 : (l0_2.length : Int) > 300
 ·rw [if_pos c6] at H
  have c6b0 : decide (300 < (l0_2.length : Int)) = true := decide_eq_true c6
  have c6b1 : decide (300 < l0_2.length) = true := decide_eq_true (by omega)
  clear c6
  obtain rfl := Option.some.inj H
  go_enter Tryz.func35, Tryz.ntmps35
  go_wp2_with (first | ((with_reducible refine Z9 (N := 1) rfl ?_); refine bx (N := 1) (cs := #[.int .i64 a0_0, .slice A0_1 l0_1.length c0_1, .slice A0_2 l0_2.length c0_2]) (t := 35) ?_; intro gb223 hg w7 hbox hb; have BK223 := Z0 hbox; have GE223 := ge hg V0; replace HB := Z0 (Z1 V0 hb); clear hb hbox hg; obtain ⟨hcz8_0, hcz8_1, hcz8_2⟩ := bc3 BK223.out; obtain ⟨hfz8_0, hfz8_1, hfz8_2⟩ := bf3 BK223.out) | ((with_reducible refine Z5 (f := 56) rfl ?_); refine gl Tryz.func56 (cabinetryref03_isPage.calls a0_0 true _ A2.out) ?_; rintro e w' ⟨rfl, ⟨nd, rfl⟩⟩; refine ⟨_, rfl, ?_⟩) | ((with_reducible refine Z5 (f := 37) rfl ?_); refine gl Tryz.func37 (cabinetryref03_ValidateFields.calls k _ _ l0_1 t225 _ (kc (Kd.C_below HR0_1.out V0)) HC0_1.out A4.out) ?_; rintro e w9 ⟨rfl, hb⟩; refine ⟨_, rfl, ?_⟩; replace BK223 := Z0 (Z2 (g := gb223) (o := .cells #[.int .i64 a0_0, .slice A0_1 l0_1.length c0_1, .slice A0_2 l0_2.length c0_2] 35 (0, 0)) bk hb); replace HB := Z0 (Z1 V0 hb); obtain ⟨hcz10_0, hcz10_1, hcz10_2⟩ := bc3 BK223.out; obtain ⟨hfz10_0, hfz10_1, hfz10_2⟩ := bf3 BK223.out))
  go_ret
  exact ⟨rfl, V0⟩
 rw [if_neg c6] at H
 have c6b0 : decide (300 < (l0_2.length : Int)) = false := decide_eq_false c6
 have c6b1 : decide (300 < l0_2.length) = false := decide_eq_false (by omega)
 clear c6
 have H' := Z0 H
 clear H
 go_enter Tryz.func35, Tryz.ntmps35
 go_wp2_with (first | ((with_reducible refine Z9 (N := 1) rfl ?_); refine bx (N := 1) (cs := #[.int .i64 a0_0, .slice A0_1 l0_1.length c0_1, .slice A0_2 l0_2.length c0_2]) (t := 35) ?_; intro gb223 hg w11 hbox hb; have BK223 := Z0 hbox; have GE223 := ge hg V0; replace HB := Z0 (Z1 V0 hb); clear hb hbox hg; obtain ⟨hcz12_0, hcz12_1, hcz12_2⟩ := bc3 BK223.out; obtain ⟨hfz12_0, hfz12_1, hfz12_2⟩ := bf3 BK223.out) | ((with_reducible refine Z5 (f := 56) rfl ?_); refine gl Tryz.func56 (cabinetryref03_isPage.calls a0_0 true _ A2.out) ?_; rintro e w' ⟨rfl, ⟨nd, rfl⟩⟩; refine ⟨_, rfl, ?_⟩) | ((with_reducible refine Z5 (f := 37) rfl ?_); refine gl Tryz.func37 (cabinetryref03_ValidateFields.calls k _ _ l0_1 t225 _ (kc (Kd.C_below HR0_1.out V0)) HC0_1.out A4.out) ?_; rintro e w13 ⟨rfl, hb⟩; refine ⟨_, rfl, ?_⟩; replace BK223 := Z0 (Z2 (g := gb223) (o := .cells #[.int .i64 a0_0, .slice A0_1 l0_1.length c0_1, .slice A0_2 l0_2.length c0_2] 35 (0, 0)) bk hb); replace HB := Z0 (Z1 V0 hb); obtain ⟨hcz14_0, hcz14_1, hcz14_2⟩ := bc3 BK223.out; obtain ⟨hfz14_0, hfz14_1, hfz14_2⟩ := bf3 BK223.out))
 go_loopg [4] k (fun kq v4 w' => ∃ (x4_1 : Int), v4 = .int .i64 x4_1 ∧ Aside0 (cabinetryref03_Validate.l0 kq x4_1 a0_0 l0_1 l0_2 = some r) ∧ Aside0 (kq ≤ k) ∧ Aside0 (w'.heap[gb223]? = some (.cells #[.int .i64 a0_0, (.slice A0_1 l0_1.length c0_1), (.slice A0_2 l0_2.length c0_2)] 35 (0, 0))) ∧ Aside0 (Below w.heap.size w w'))
 case atStart => exact ⟨(0), V2, H', ⟨Nat.le_refl _⟩, ⟨bk⟩, ⟨V0⟩⟩
 case round =>
  clear H'
  obtain ⟨x4_1, rfl, HA, HK1, BK223, HB⟩ := hrel
  cases gk with
  | zero => exact absurd HA.out (by simp [cabinetryref03_Validate.l0])
  | succ k1 =>
   have H := HA.out
   clear HA
   simp only [cabinetryref03_Validate.l0] at H
   by_cases c15 : x4_1 < (l0_2.length : Int)
   rotate_left
   ·rw [if_neg c15] at H
    have c15b0 : decide (x4_1 < (l0_2.length : Int)) = false := decide_eq_false c15
    clear c15
    obtain rfl := Option.some.inj H
    obtain ⟨hcz25_0, hcz25_1, hcz25_2⟩ := bc3 BK223.out
    obtain ⟨hfz25_0, hfz25_1, hfz25_2⟩ := bf3 BK223.out
    go_wp2
    go_ret
    exact ⟨rfl, V0⟩
   rw [if_pos c15] at H
   have c15b0 : decide (x4_1 < (l0_2.length : Int)) = true := decide_eq_true c15
   clear c15
   by_cases c16 : 0 ≤ x4_1
   rotate_left
   ·rw [if_neg c16] at H
    exact absurd H (by simp)
   rw [if_pos c16] at H
   have c16b0 : decide (0 ≤ x4_1) = true := decide_eq_true c16
   clear c16
   replace H := Option.bind_eq_some_iff.mp H
   obtain ⟨t227, A170, H⟩ := H
   replace H : (if t227 = 0 then (cabinetryref03_Validate.l0 k1 (wrap64 (x4_1 + 1)) a0_0 l0_1 l0_2) else (some t227)) = some r := H
   have A17 := Z0 A170
   clear A170
   by_cases c18 : t227 = 0
   rotate_left
   ·rw [if_neg c18] at H
    have c18b0 : (t227 == 0) = false := beq_eq_false_iff_ne.mpr c18
    have c18b1 : (t227 != 0) = true := bne_iff_ne.mpr c18
    obtain rfl := Option.some.inj H
    obtain ⟨hcz22_0, hcz22_1, hcz22_2⟩ := bc3 BK223.out
    obtain ⟨hfz22_0, hfz22_1, hfz22_2⟩ := bf3 BK223.out
    try go_wp2
    have n0_ := Z0 (Y5 BK223.out)
    have n1_ := Z0 (below_drew1 HB.out)
    clear BK223
    clear HB
    have BK223 := n0_
    have HB := n1_
    clear n0_ n1_
    have p226 : 0 ≤ (x4_1 : Int) := of_decide_eq_true V3
    have q226 : x4_1 < (l0_2.length : Int) := of_decide_eq_true V3
    obtain ⟨ad226, A226_1, c226_1, e226, hx226_0, hx226_1, hl226_1, hi226_1⟩ := at_T46 HR0_2.out x4_1 p226 q226
    have hw226_1 := hx226_1
    have hw226_0 := hx226_0
    cases e226
    replace hx226_0 := hz HB.out hx226_0
    replace hx226_1 := hz HB.out hx226_1
    have HR226_1 := Z0 hi226_1
    have HC226_1 := Z0 hl226_1
    clear hi226_1 hl226_1
    replace p226 := eq_true p226
    replace q226 := eq_true q226
    refine start_ (n := 11) (S := fun w' => w'.cell? ⟨gb223, 0, none⟩ = some (.int .i64 a0_0) ∧ w'.cell? ⟨gb223, 1, none⟩ = some (.slice A0_1 l0_1.length c0_1) ∧ w'.cell? ⟨gb223, 2, none⟩ = some (.slice (some ad226) l0_2.length c0_2) ∧ w'.cell? (ad226.add ((x4_1).toNat * 2)) = some (.bool ((rd_T46 l0_2 x4_1).f0)) ∧ w'.cell? ⟨(ad226.add ((x4_1).toNat * 2)).block, (ad226.add ((x4_1).toNat * 2)).off + 1, none⟩ = some (.slice A226_1 ((rd_T46 l0_2 x4_1).f1).length c226_1)) (ds := []) (bs 11 0) (by kernel_rfl) rfl rfl ⟨(Z4 BK223.out 0).trans rfl, (Z4 BK223.out 1).trans rfl, (Z4 BK223.out 2).trans rfl, (hz HB.out hw226_0), (hz HB.out hw226_1)⟩ (fun hHeld => ?_); refine with_tabW cabinetryref03_Validate.tab11 cabinetryref03_Validate.bits11 (fun HT_ HW_ => ?_)
    generalize wr.drew = w23 at BK223 HB HR226_1 hx226_0 hx226_1 hHeld ⊢
    refine pz 0 27 (bs 11 1) HT_ ?_
    refine pz 2 29 (bs 11 5) HT_ ?_
    refine pz 4 31 (bs 11 21) HT_ ?_
    refine pz 6 33 (bs 11 85) HT_ ?_
    refine tz 1 28 (bs 11 87) HT_ HW_ hHeld ?_
    refine tz 3 30 (bs 11 95) HT_ HW_ hHeld ?_
    refine tz 5 32 (bs 11 127) HT_ HW_ hHeld ?_
    refine pz 7 34 (bs 11 255) HT_ ?_
    refine tz 8 35 (bs 11 511) HT_ HW_ hHeld ?_
    refine one_ (i := 9) (N := some 36) (bs 11 1023) rfl rfl (one_of HT_.out (by kernel_rfl)) (by decide) (fun K hK => ?_)
    refine goes_ Tryz.func74 (by kernel_rfl) rfl #[.slice A0_1 l0_1.length c0_1, .int .i64 a0_0, .agg #[.bool ((rd_T46 l0_2 x4_1).f0), .slice A226_1 ((rd_T46 l0_2 x4_1).f1).length c226_1]] (by rfl) rfl rfl V1 ?_
    with_reducible refine (cabinetryref03_ValidateRecord.calls k1 _ _ l0_1 a0_0 ((rd_T46 l0_2 x4_1).f0) _ _ ((rd_T46 l0_2 x4_1).f1) t227 _ ?side1 ?side2 ?side3 ?side4 A17.out).mono ?_
    (case side1 => repeat (first | exact (Kd.C_below HR0_1.out HB.out) | (with_reducible refine Kd.C_alloc ?_ _) | (with_reducible refine Kd.C_drewN ?_ _) | (with_reducible refine Kd.C_drew ?_)))
    (case side2 => exact HC0_1.out)
    (case side3 => repeat (first | exact (Kd.C_below HR226_1.out HB.out) | (with_reducible refine Kd.C_alloc ?_ _) | (with_reducible refine Kd.C_drewN ?_ _) | (with_reducible refine Kd.C_drew ?_)))
    (case side4 => exact HC226_1.out)
    rintro e w24 ⟨rfl, hb⟩
    refine ⟨_, rfl, ?_⟩
    have n0_ := Z0 (Z2 (g := gb223) (o := .cells #[.int .i64 a0_0, .slice A0_1 l0_1.length c0_1, .slice (some ad226) l0_2.length c0_2] 35 (0, 0)) bk hb)
    have n1_ := Z0 (Z1 V0 hb)
    clear BK223
    clear HB
    have BK223 := n0_
    have HB := n1_
    clear n0_ n1_
    refine hK.out _ _ ⟨(Z4 BK223.out 0).trans rfl, (Z4 BK223.out 1).trans rfl, (Z4 BK223.out 2).trans rfl, (hz HB.out hw226_0), (hz HB.out hw226_1)⟩ (fun hHeld => ?_)
    clear hK K
    refine norm_ (a' := ?_) ?_ ?_
    rotate_left
    ·show Act.put _ (some 36) _ = _
     simp only [Act.put, Z3, Z6, Z7, i64_w, i32_w]
     rfl
    refine pz 10 5 (bs 11 2047) HT_ ?_
    refine done_ (done_of HT_.out (by kernel_rfl)) ?_
    try go_wp2
    go_ret
    exact ⟨rfl, V0⟩
   rw [if_pos c18] at H
   have c18b0 : (t227 == 0) = true := beq_iff_eq.mpr c18
   have c18b1 : (t227 != 0) = false := bne_eq_false_iff_eq.mpr c18
   clear c18
   have H' := Z0 H
   clear H
   obtain ⟨hcz19_0, hcz19_1, hcz19_2⟩ := bc3 BK223.out
   obtain ⟨hfz19_0, hfz19_1, hfz19_2⟩ := bf3 BK223.out
   try go_wp2
   have n0_ := Z0 (Y5 BK223.out)
   have n1_ := Z0 (below_drew1 HB.out)
   clear BK223
   clear HB
   have BK223 := n0_
   have HB := n1_
   clear n0_ n1_
   have p226 : 0 ≤ (x4_1 : Int) := of_decide_eq_true V3
   have q226 : x4_1 < (l0_2.length : Int) := of_decide_eq_true V3
   obtain ⟨ad226, A226_1, c226_1, e226, hx226_0, hx226_1, hl226_1, hi226_1⟩ := at_T46 HR0_2.out x4_1 p226 q226
   have hw226_1 := hx226_1
   have hw226_0 := hx226_0
   cases e226
   replace hx226_0 := hz HB.out hx226_0
   replace hx226_1 := hz HB.out hx226_1
   have HR226_1 := Z0 hi226_1
   have HC226_1 := Z0 hl226_1
   clear hi226_1 hl226_1
   replace p226 := eq_true p226
   replace q226 := eq_true q226
   refine start_ (n := 11) (S := fun w' => w'.cell? ⟨gb223, 0, none⟩ = some (.int .i64 a0_0) ∧ w'.cell? ⟨gb223, 1, none⟩ = some (.slice A0_1 l0_1.length c0_1) ∧ w'.cell? ⟨gb223, 2, none⟩ = some (.slice (some ad226) l0_2.length c0_2) ∧ w'.cell? (ad226.add ((x4_1).toNat * 2)) = some (.bool ((rd_T46 l0_2 x4_1).f0)) ∧ w'.cell? ⟨(ad226.add ((x4_1).toNat * 2)).block, (ad226.add ((x4_1).toNat * 2)).off + 1, none⟩ = some (.slice A226_1 ((rd_T46 l0_2 x4_1).f1).length c226_1)) (ds := []) (bs 11 0) (by kernel_rfl) rfl rfl ⟨(Z4 BK223.out 0).trans rfl, (Z4 BK223.out 1).trans rfl, (Z4 BK223.out 2).trans rfl, (hz HB.out hw226_0), (hz HB.out hw226_1)⟩ (fun hHeld => ?_); refine with_tabW cabinetryref03_Validate.tab11 cabinetryref03_Validate.bits11 (fun HT_ HW_ => ?_)
   generalize wr.drew = w20 at BK223 HB HR226_1 hx226_0 hx226_1 hHeld ⊢
   refine pz 0 27 (bs 11 1) HT_ ?_
   refine pz 2 29 (bs 11 5) HT_ ?_
   refine pz 4 31 (bs 11 21) HT_ ?_
   refine pz 6 33 (bs 11 85) HT_ ?_
   refine tz 1 28 (bs 11 87) HT_ HW_ hHeld ?_
   refine tz 3 30 (bs 11 95) HT_ HW_ hHeld ?_
   refine tz 5 32 (bs 11 127) HT_ HW_ hHeld ?_
   refine pz 7 34 (bs 11 255) HT_ ?_
   refine tz 8 35 (bs 11 511) HT_ HW_ hHeld ?_
   refine one_ (i := 9) (N := some 36) (bs 11 1023) rfl rfl (one_of HT_.out (by kernel_rfl)) (by decide) (fun K hK => ?_)
   refine goes_ Tryz.func74 (by kernel_rfl) rfl #[.slice A0_1 l0_1.length c0_1, .int .i64 a0_0, .agg #[.bool ((rd_T46 l0_2 x4_1).f0), .slice A226_1 ((rd_T46 l0_2 x4_1).f1).length c226_1]] (by rfl) rfl rfl V1 ?_
   with_reducible refine (cabinetryref03_ValidateRecord.calls k1 _ _ l0_1 a0_0 ((rd_T46 l0_2 x4_1).f0) _ _ ((rd_T46 l0_2 x4_1).f1) t227 _ ?side1 ?side2 ?side3 ?side4 A17.out).mono ?_
   (case side1 => repeat (first | exact (Kd.C_below HR0_1.out HB.out) | (with_reducible refine Kd.C_alloc ?_ _) | (with_reducible refine Kd.C_drewN ?_ _) | (with_reducible refine Kd.C_drew ?_)))
   (case side2 => exact HC0_1.out)
   (case side3 => repeat (first | exact (Kd.C_below HR226_1.out HB.out) | (with_reducible refine Kd.C_alloc ?_ _) | (with_reducible refine Kd.C_drewN ?_ _) | (with_reducible refine Kd.C_drew ?_)))
   (case side4 => exact HC226_1.out)
   rintro e w21 ⟨rfl, hb⟩
   refine ⟨_, rfl, ?_⟩
   have n0_ := Z0 (Z2 (g := gb223) (o := .cells #[.int .i64 a0_0, .slice A0_1 l0_1.length c0_1, .slice (some ad226) l0_2.length c0_2] 35 (0, 0)) bk hb)
   have n1_ := Z0 (Z1 V0 hb)
   clear BK223
   clear HB
   have BK223 := n0_
   have HB := n1_
   clear n0_ n1_
   refine hK.out _ _ ⟨(Z4 BK223.out 0).trans rfl, (Z4 BK223.out 1).trans rfl, (Z4 BK223.out 2).trans rfl, (hz HB.out hw226_0), (hz HB.out hw226_1)⟩ (fun hHeld => ?_)
   clear hK K
   refine norm_ (a' := ?_) ?_ ?_
   rotate_left
   ·show Act.put _ (some 36) _ = _
    simp only [Act.put, Z3, Z6, Z7, i64_w, i32_w]
    rfl
   refine pz 10 5 (bs 11 2047) HT_ ?_
   refine done_ (done_of HT_.out (by kernel_rfl)) ?_
   try go_wp2
   go_roundg k1
   case measure => have := HK1.out; omega
   case rel => exact ⟨(wrap64 (x4_1 + 1)), V2, H', ⟨by have := HK1.out; omega⟩, ⟨bk⟩, ⟨V0⟩⟩
end
def holdsS (f : S23) (pg : Int) (v : S25) : Bool :=
 if v.f0 = 0 then f.f3 && (decide (v.f1 = 0) && decide (v.f2.size = 0))
 else decide (valS v.f0 v.f1 v.f2 = 0) && (decide (v.f0 = emptyK f.f1) &&
  (if f.f1 = 4 then decide ((v.f2.size : Int) ≤ f.f2) && (decide (blanksOff v.f2 = v.f2) && onS pg v.f2)
   else if f.f1 = 2 then decide (((decL v.f1).length : Int) ≤ f.f2)
   else if f.f1 = 5 then decide (0 ≤ v.f1 ∧ v.f1 ≤ 99999999) else true))
theorem text_wd {s : ByteArray} {wd : Int} (hf : fieldS s 4 wd = true) : 1 ≤ wd ∧ wd ≤ 254 := by
 unfold fieldS at hf
 simp [kindLo, kindHi, kindFound] at hf
 exact ⟨hf.2.1, hf.2.2⟩
theorem fit_holds (f : S23) (pg : Int) (v : S25) (hf : fS f = true) (hp : pageS pg = true) (h0 : v.f0 ≠ 0) (hv : valS v.f0 v.f1 v.f2 = 0) :
  (decide ((fitS f.f0 f.f1 f.f2 f.f3 pg v.f0 v.f1 v.f2).2.2.2 = 0) && ((fitS f.f0 f.f1 f.f2 f.f3 pg v.f0 v.f1 v.f2).1 == v.f0 && ((fitS f.f0 f.f1 f.f2 f.f3 pg v.f0 v.f1 v.f2).2.1 == v.f1 && ((fitS f.f0 f.f1 f.f2 f.f3 pg v.f0 v.f1 v.f2).2.2.1.toList == v.f2.toList)))) = holdsS f pg v := by
 rw [fitS_T f.f0 f.f1 f.f2 f.f3 pg v.f0 v.f1 v.f2 hf hp hv]
 unfold fitT holdsS
 rw [if_neg h0, if_neg h0, hv]
 by_cases he : v.f0 = emptyK f.f1
 rotate_left
 ·rw [if_pos (by simpa using he)]
  simp [he]
 rw [if_neg (by simpa using he)]
 by_cases h4 : f.f1 = 4
 rotate_left
 ·rw [if_neg h4, if_neg h4]
  by_cases h2 : f.f1 = 2
  ·rw [if_pos h2, if_pos h2]
   by_cases a : ((decL v.f1).length : Int) ≤ f.f2
   ·rw [if_pos a]; simp [a, he]
   rw [if_neg a]; simp [a]
  rw [if_neg h2, if_neg h2]
  by_cases h5 : f.f1 = 5
  rotate_left
  ·rw [if_neg h5, if_neg h5]; simp [he]
  rw [if_pos h5, if_pos h5]
  by_cases a : 0 ≤ v.f1 ∧ v.f1 ≤ 99999999
  ·rw [if_pos a]; simp [a, he]
  rw [if_neg a]; simp only [decide_eq_false a]; simp
 rw [if_pos h4, if_pos h4]
 have hw := text_wd (s := f.f0) (wd := f.f2) (by have := hf; unfold fS at this; rw [h4] at this; exact this)
 have hv4 : v.f0 = 4 := by rw [he, h4]; rfl
 obtain ⟨u, hu⟩ : ∃ u, blanksOff (v.f2.extract 0 (min v.f2.size f.f2.toNat)) = u := ⟨_, rfl⟩
 rw [hu]
 have key : (u.toList = v.f2.toList) ↔ ((v.f2.size : Int) ≤ f.f2 ∧ blanksOff v.f2 = v.f2) := by
  constructor
  rotate_left
  ·rintro ⟨h1, h2⟩
   rw [extract_all v.f2 f.f2.toNat (by omega), h2] at hu
   rw [← hu]
  intro h
  have e : u = v.f2 := by
   apply ByteArray.ext
   apply Array.ext'
   rw [ba_toList, ba_toList] at h
   exact h
  have h1 : u.size ≤ f.f2.toNat := by
   rw [← hu]
   refine Nat.le_trans (blanks_size _) ?_
   rw [ByteArray.size_extract]
   omega
  rw [e] at h1
  refine ⟨by omega, ?_⟩
  rw [extract_all v.f2 f.f2.toNat h1] at hu
  rw [hu, e]
 by_cases hk : u.toList = v.f2.toList
 ·have h12 := key.1 hk
  have e : u = v.f2 := by
   apply ByteArray.ext
   apply Array.ext'
   rw [ba_toList, ba_toList] at hk
   exact hk
  rw [e]
  by_cases ho : onS pg v.f2 = true
  ·rw [if_pos ho]; simp [ho, h12.1, h12.2, he]
  rw [if_neg ho]; simp [ho]
 have hn : ¬ ((v.f2.size : Int) ≤ f.f2 ∧ blanksOff v.f2 = v.f2) := fun h => hk (key.2 h)
 have hr : (decide ((v.f2.size : Int) ≤ f.f2) && (decide (blanksOff v.f2 = v.f2) && onS pg v.f2)) = false := by
  by_cases a : (v.f2.size : Int) ≤ f.f2
  rotate_left
  ·simp [a]
  have b : ¬ blanksOff v.f2 = v.f2 := fun b => hn ⟨a, b⟩
  simp [b]
 rw [hr]
 by_cases ho : onS pg u = true
 ·rw [if_pos ho]; simp [hk]
 rw [if_neg ho]; simp
theorem holds_is (f : S23) (pg : Int) (v : S25) (k : Nat) (hf : fS f = true) (hp : pageS pg = true) (hk : 0 < k) : table_holds.f k f.f0 f.f1 f.f2 f.f3 pg v.f0 v.f1 v.f2 = some (holdsS f pg v) := by
 obtain ⟨m, rfl⟩ : ∃ m, k = m + 1 := ⟨k - 1, by omega⟩
 unfold table_holds.f
 by_cases h0 : v.f0 = 0
 rotate_left
 ·rw [if_neg h0, valS_is]
  simp only [Option.bind_some]
  by_cases hv : valS v.f0 v.f1 v.f2 = 0
  rotate_left
  ·rw [if_neg hv]
   unfold holdsS
   rw [if_neg h0]
   simp [hv]
  rw [if_pos hv, ← fit_holds f pg v hf hp h0 hv]
  simp only [table_Fit.f, Option.bind_some]
  by_cases he : (fitS f.f0 f.f1 f.f2 f.f3 pg v.f0 v.f1 v.f2).2.2.2 = 0
  ·rw [if_pos he]; simp [he]
  rw [if_neg he]; simp [he]
 rw [if_pos h0]
 unfold holdsS
 rw [if_pos h0]
 by_cases hn : f.f3 = true
 rotate_left
 ·rw [if_neg hn]; simp [hn]
 rw [if_pos hn, hn]
 congr 1
 have e : (v.f2.toList == ([] : List UInt8)) = decide (v.f2.size = 0) := by
  rw [Bool.eq_iff_iff, beq_iff_eq, ba_nil, decide_eq_true_eq]
 have e1 : (v.f1 == 0) = decide (v.f1 = 0) := by by_cases h : v.f1 = 0 <;> simp [h]
 have e0 : (v.f0 == 0) = true := by simp [h0]
 rw [e, e1, e0]
theorem fits_holds (f : S23) (pg : Int) (v : S25) (hf : fS f = true) (hp : pageS pg = true) : Ev (fun k => cabinetryref03_fits.f k f.f0 f.f1 f.f2 f.f3 pg v.f0 v.f1 v.f2) (holdsS f pg v) := by
 have hkf : kindFound f.f1 = true := by unfold fS fieldS at hf; simp at hf; exact hf.2.1
 by_cases hv : valS v.f0 v.f1 v.f2 = 0
 rotate_left
 ·refine (Ev.now _).congr (fun k => ?_)
  unfold cabinetryref03_fits.f holdsS
  rw [refValidate_is]
  simp only [Option.bind_some]
  rw [if_neg hv]
  by_cases h0 : v.f0 = 0
  rotate_left
  ·rw [if_neg h0]; simp [hv]
  rw [if_pos h0]
  by_cases hz : v.f1 = 0 ∧ v.f2.size = 0
  ·exfalso
   apply hv
   unfold valS valOK
   rw [h0, hz.1, hz.2]
   rfl
  congr 1
  symm
  by_cases a : v.f1 = 0
  rotate_left
  ·simp [a]
  have b : ¬ v.f2.size = 0 := fun b => hz ⟨a, b⟩
  simp [b]
 by_cases h0 : v.f0 = 0
 ·refine (Ev.now _).congr (fun k => ?_)
  unfold cabinetryref03_fits.f holdsS
  rw [refValidate_is, hv]
  simp only [Option.bind_some, if_true]
  rw [if_pos h0, if_pos h0]
  have hz : v.f1 = 0 ∧ v.f2.size = 0 := by
   unfold valS at hv
   split at hv
   ·omega
   split at hv
   rotate_left
   ·omega
   rename_i hok
   rw [h0] at hok
   unfold valOK at hok
   rw [if_neg (by decide), if_pos rfl, Bool.and_eq_true, decide_eq_true_eq, decide_eq_true_eq] at hok
   exact ⟨hok.2, hok.1⟩
  simp [hz.1, hz.2]
 by_cases he : v.f0 = emptyK f.f1
 rotate_left
 ·refine (Ev.now _).congr (fun k => ?_)
  unfold cabinetryref03_fits.f holdsS
  rw [refValidate_is, hv]
  simp only [Option.bind_some, if_true]
  rw [if_neg h0, if_neg h0]
  by_cases h5 : f.f1 = 5
  ·rw [if_pos h5, if_neg (by unfold emptyK at he; rw [if_pos h5] at he; exact he)]
   simp [he]
  rw [if_neg h5, if_neg (by unfold emptyK at he; rw [if_neg h5] at he; exact he)]
  simp [he]
 by_cases h4 : f.f1 = 4
 rotate_left
 ·refine (fits_is f.f0 f.f1 f.f2 f.f3 pg v.f0 v.f1 v.f2 hv h0 h4 he hkf).congr (fun k => rfl) |> fun h => ?_
  have e : holdsS f pg v = (if f.f1 = 2 then decide (((decL v.f1).length : Int) ≤ f.f2) else if f.f1 = 5 then decide (0 ≤ v.f1 ∧ v.f1 ≤ 99999999) else true) := by
   unfold holdsS
   rw [if_neg h0, hv, if_neg h4]
   simp [he]
  rw [e]
  exact h
 have hv4 : v.f0 = 4 := by rw [he, h4]; rfl
 have hw := text_wd (s := f.f0) (wd := f.f2) (by have := hf; unfold fS at this; rw [h4] at this; exact this)
 have hsz : v.f2.size ≤ 2048 := by
  unfold valS at hv
  split at hv
  ·omega
  omega
 refine Ev.from 3000 (fun k hk => ?_)
 obtain ⟨m, rfl⟩ : ∃ m, k = m + 1 := ⟨k - 1, by omega⟩
 unfold cabinetryref03_fits.f holdsS
 rw [refValidate_is, hv]
 simp only [Option.bind_some, if_true]
 rw [if_neg h0, if_neg h0, if_neg (by omega : ¬ f.f1 = 5), if_pos (by rw [hv4, h4]), if_neg (by omega : ¬ f.f1 = 2), if_pos h4, if_pos h4]
 by_cases a : (v.f2.size : Int) ≤ f.f2
 rotate_left
 ·rw [if_neg a]
  simp only [cabinetryref03_fits.j0]
  simp [a]
 rw [if_pos a, bare_is v.f2 _ (by omega) (by omega)]
 simp only [Option.bind_some]
 by_cases b : blanksOff v.f2 = v.f2
 ·rw [if_pos (by rw [b]), written_is v.f2 pg _ (by omega) hp (by omega)]
  simp only [Option.bind_some, cabinetryref03_fits.j0]
  simp [a, b, he]
 rw [if_neg (fun h => b (by
  apply ByteArray.ext
  apply Array.ext'
  rw [ba_toList, ba_toList] at h
  exact h))]
 simp only [cabinetryref03_fits.j0]
 simp [b]
def recHolds (pg : Int) : List S23 → List S25 → Bool
 | [], _ => true
 | _ :: _, [] => true
 | f :: fs, v :: vs => holdsS f pg v && recHolds pg fs vs
def recsV (fs : List S23) (pg : Int) : List S46 → Int
 | [] => 0
 | r :: rs => if r.f1.length = fs.length then (if recHolds pg fs r.f1 = true then recsV fs pg rs else 1) else 10
def tableV (pg : Int) (fs : List S23) (rs : List S46) : Int := if pageS pg = true then (if vfS fs = 0 then (if rs.length > 300 then 3 else recsV fs pg rs) else vfS fs) else 1
theorem vfS_all {l : List S23} (h : vfS l = 0) : l.all fS = true ∧ l.length ≤ 16 ∧ lenS l ≤ 2000 := by
 unfold vfS at h
 split at h
 ·omega
 split at h
 ·omega
 rename_i hf
 split at h
 ·omega
 split at h
 ·omega
 split at h
 ·omega
 exact ⟨by simpa using hf, by omega, by omega⟩
theorem rd46_drop {l : List S46} {i : Nat} {x : S46} {r : List S46} (h : l.drop i = x :: r) : i < l.length ∧ rd_T46 l (i : Int) = x ∧ l.drop (i + 1) = r := by
 have hl : i < l.length := by
  rcases Nat.lt_or_ge i l.length with h1 | h1
  ·exact h1
  rw [List.drop_eq_nil_of_le h1] at h; cases h
 have e := List.drop_eq_getElem_cons hl
 rw [h] at e
 injection e with e1 e2
 refine ⟨hl, ?_, e2.symm⟩
 unfold rd_T46
 rw [Int.toNat_natCast, List.getD_eq_getElem?_getD, List.getElem?_eq_getElem hl, Option.getD_some, e1]
theorem rd25_drop {l : List S25} {i : Nat} {x : S25} {r : List S25} (h : l.drop i = x :: r) : i < l.length ∧ rd_T25 l (i : Int) = x ∧ l.drop (i + 1) = r := by
 have hl : i < l.length := by
  rcases Nat.lt_or_ge i l.length with h1 | h1
  ·exact h1
  rw [List.drop_eq_nil_of_le h1] at h; cases h
 have e := List.drop_eq_getElem_cons hl
 rw [h] at e
 injection e with e1 e2
 refine ⟨hl, ?_, e2.symm⟩
 unfold rd_T25
 rw [Int.toNat_natCast, List.getD_eq_getElem?_getD, List.getElem?_eq_getElem hl, Option.getD_some, e1]
theorem validate_go (pg : Int) (fs : List S23) (rs : List S46) (hf : fs.all fS = true) (hl : fs.length ≤ 16) (hp : pageS pg = true) (hr : rs.length ≤ 300) : ∀ (r : List S46) (i k : Nat), rs.drop i = r → 20 * r.length + 2 < k → table_Validate.l0 k rs (rs.length : Int) (i : Int) pg fs rs = some (recsV fs pg r)
 | [], i, k, hd, hk => by
  obtain ⟨m, rfl⟩ : ∃ m, k = m + 1 := ⟨k - 1, by omega⟩
  simp only [table_Validate.l0]
  rw [if_neg (rd_end hd)]
  rfl
 | x :: r, i, k, hd, hk => by
  obtain ⟨m, rfl⟩ : ∃ m, k = m + 1 := ⟨k - 1, by omega⟩
  obtain ⟨hlt, hx, hr'⟩ := rd46_drop hd
  rw [List.length_cons, Nat.mul_succ] at hk
  simp only [table_Validate.l0]
  rw [if_pos (by omega), if_pos (by omega), if_pos (by omega), hx]
  unfold recsV
  by_cases hlen : x.f1.length = fs.length
  ·rw [if_pos (by omega), if_pos hlen]
   have inner : ∀ (n : Nat) (q : List S23) (u : List S25) (j k2 : Nat), q.length = n → fs.drop j = q → x.f1.drop j = u → 20 * r.length + 3 + n < k2 → table_Validate.l1 k2 rs (rs.length : Int) (i : Int) fs (fs.length : Int) (j : Int) pg fs rs x.f0 x.f1 = some (if recHolds pg q u = true then recsV fs pg r else 1) := by
    intro n
    induction n with
    | zero =>
     intro q u j k2 hq hdq hdu hk2
     obtain rfl : q = [] := List.eq_nil_of_length_eq_zero hq
     obtain ⟨m2, rfl⟩ : ∃ m2, k2 = m2 + 1 := ⟨k2 - 1, by omega⟩
     simp only [table_Validate.l1]
     rw [if_neg (rd_end hdq), wrapL hlt (by omega)]
     rw [show recHolds pg [] u = true from rfl, if_pos rfl]
     exact validate_go pg fs rs hf hl hp hr r (i + 1) m2 hr' (by omega)
    | succ n ih =>
     intro q u j k2 hq hdq hdu hk2
     obtain ⟨f, q', rfl⟩ : ∃ f q', q = f :: q' := by
      cases q with
      | nil => simp at hq
      | cons f q' => exact ⟨f, q', rfl⟩
     obtain ⟨m2, rfl⟩ : ∃ m2, k2 = m2 + 1 := ⟨k2 - 1, by omega⟩
     obtain ⟨hj, hfj, hdq', _⟩ := rd_drop hdq
     obtain ⟨v, u', rfl⟩ : ∃ v u', u = v :: u' := by
      cases u with
      | nil => exfalso; have := List.drop_eq_nil_iff.1 hdu; omega
      | cons v u' => exact ⟨v, u', rfl⟩
     obtain ⟨hj2, hvj, hdu'⟩ := rd25_drop hdu
     have hm : f ∈ fs := by rw [← List.take_append_drop j fs, hdq]; simp
     have hff := List.all_eq_true.1 hf _ hm
     simp only [table_Validate.l1]
     rw [if_pos (by omega), if_pos (by omega), if_pos (by omega), if_pos (by omega), hfj, hvj, holds_is f pg v m2 hff hp (by omega), wrapL hj (by omega)]
     simp only [Option.bind_some]
     show _ = some (if (holdsS f pg v && recHolds pg q' u') = true then recsV fs pg r else 1)
     by_cases hh : holdsS f pg v = true
     ·rw [if_pos hh, hh, Bool.true_and]
      exact ih q' u' (j + 1) m2 (by simpa using hq) hdq' hdu' (by omega)
     ·rw [if_neg hh]; simp [hh]
   exact inner fs.length fs x.f1 0 m rfl List.drop_zero List.drop_zero (by omega)
  ·rw [if_neg (by omega), if_neg hlen]
theorem validate_is (pg : Int) (fs : List S23) (rs : List S46) (hL : fs.length ≤ 1048576) (k : Nat) (hk : 7000 < k) : table_Validate.f k pg fs rs = some (tableV pg fs rs) := by
 unfold table_Validate.f tableV
 rw [isPage_is]
 simp only [Option.bind_some]
 by_cases hp : pageS pg = true
 rotate_left
 ·rw [if_neg hp, if_neg hp]
 rw [if_pos hp, if_pos hp]
 have hv : table_ValidateFields.f fs = some (vfS fs) := by unfold table_ValidateFields.f; rw [if_pos (by omega)]
 rw [hv]
 simp only [Option.bind_some]
 by_cases h0 : vfS fs = 0
 rotate_left
 ·rw [if_neg h0, if_neg h0]
 rw [if_pos h0, if_pos h0]
 by_cases hr : rs.length > 300
 ·rw [if_pos (by omega), if_pos hr]
 rw [if_neg (by omega), if_neg hr]
 obtain ⟨ha, hl, _⟩ := vfS_all h0
 exact validate_go pg fs rs ha hl hp (by omega) rs 0 k List.drop_zero (by omega)
theorem refRec_go (pg : Int) (fs : List S23) (x : S46) (hf : fs.all fS = true) (hl : fs.length ≤ 16) (hp : pageS pg = true) (hlen : x.f1.length = fs.length) : ∀ (q : List S23) (u : List S25) (j : Nat), fs.drop j = q → x.f1.drop j = u → Ev (fun k => cabinetryref03_ValidateRecord.l0 k fs pg (j : Int) x.f0 x.f1) (if recHolds pg q u = true then 0 else 1)
 | [], u, j, hdq, hdu => by
  refine Ev.step (f := fun _ => some 0) (fun k => ?_) (Ev.now _)
  simp only [cabinetryref03_ValidateRecord.l0]
  rw [if_neg (rd_end hdq)]
 | f :: q, [], j, hdq, hdu => by
  exfalso
  obtain ⟨hj, _⟩ := rd_drop hdq
  have := List.drop_eq_nil_iff.1 hdu
  omega
 | f :: q, v :: u, j, hdq, hdu => by
  obtain ⟨hj, hfj, hdq', _⟩ := rd_drop hdq
  obtain ⟨hj2, hvj, hdu'⟩ := rd25_drop hdu
  have hm : f ∈ fs := by rw [← List.take_append_drop j fs, hdq]; simp
  have hff := List.all_eq_true.1 hf _ hm
  have ih := refRec_go pg fs x hf hl hp hlen q u (j + 1) hdq' hdu'
  refine Ev.step (f := fun k => (cabinetryref03_fits.f k f.f0 f.f1 f.f2 f.f3 pg v.f0 v.f1 v.f2).bind fun t => if t = true then cabinetryref03_ValidateRecord.l0 k fs pg ((j + 1 : Nat) : Int) x.f0 x.f1 else some 1) (fun k => ?_) ?_
  ·simp only [cabinetryref03_ValidateRecord.l0]
   rw [if_pos (by omega), if_pos (by omega), if_pos (by omega), hfj, hvj, wrapL hj (by omega)]
  ·refine Ev.bind (fits_holds f pg v hff hp) ?_
   show Ev _ (if (holdsS f pg v && recHolds pg q u) = true then 0 else 1)
   by_cases hh : holdsS f pg v = true
   ·rw [hh, Bool.true_and]
    exact Ev.if_pos rfl ih
   ·have hh' : holdsS f pg v = false := by simpa using hh
    rw [hh', Bool.false_and]
    exact Ev.if_neg (by decide) (Ev.now _)
theorem refVal_go (pg : Int) (fs : List S23) (rs : List S46) (hf : fs.all fS = true) (hl : fs.length ≤ 16) (hp : pageS pg = true) (hr : rs.length ≤ 300) : ∀ (r : List S46) (i : Nat), rs.drop i = r → Ev (fun k => cabinetryref03_Validate.l0 k (i : Int) pg fs rs) (recsV fs pg r)
 | [], i, hd => by
  refine Ev.step (f := fun _ => some 0) (fun k => ?_) (Ev.now _)
  simp only [cabinetryref03_Validate.l0]
  rw [if_neg (rd_end hd)]
 | x :: r, i, hd => by
  obtain ⟨hlt, hx, hr'⟩ := rd46_drop hd
  have ih := refVal_go pg fs rs hf hl hp hr r (i + 1) hr'
  refine Ev.step (f := fun k => (cabinetryref03_ValidateRecord.f k fs pg x.f0 x.f1).bind fun t => if t = 0 then cabinetryref03_Validate.l0 k ((i + 1 : Nat) : Int) pg fs rs else some t) (fun k => ?_) ?_
  ·simp only [cabinetryref03_Validate.l0]
   rw [if_pos (by omega), if_pos (by omega), hx, wrapL hlt (by omega)]
  ·unfold cabinetryref03_ValidateRecord.f recsV
   by_cases hlen : x.f1.length = fs.length
   ·rw [_root_.if_pos hlen]
    refine Ev.bind (Ev.if_pos (by omega) (refRec_go pg fs x hf hl hp hlen fs x.f1 0 List.drop_zero List.drop_zero)) ?_
    by_cases hh : recHolds pg fs x.f1 = true
    ·rw [_root_.if_pos hh, _root_.if_pos hh]
     exact Ev.if_pos rfl ih
    ·rw [_root_.if_neg hh, _root_.if_neg hh]
     exact Ev.if_neg (by decide) (Ev.now _)
   ·rw [_root_.if_neg hlen]
    refine Ev.bind (Ev.if_neg (by omega) (Ev.now 10)) ?_
    exact Ev.if_neg (by decide) (Ev.now _)
theorem refValidateT_is (pg : Int) (fs : List S23) (rs : List S46) (h : smallF fs) : Ev (fun k => cabinetryref03_Validate.f k pg fs rs) (tableV pg fs rs) := by
 unfold cabinetryref03_Validate.f tableV
 refine Ev.bind ((Ev.now (pageS pg)).congr (fun k => refIsPage_is pg)) ?_
 by_cases hp : pageS pg = true
 rotate_left
 ·rw [_root_.if_neg hp]
  exact Ev.if_neg hp (Ev.now _)
 rw [_root_.if_pos hp]
 refine Ev.if_pos hp ?_
 have hv : Ev (fun k => cabinetryref03_ValidateFields.f k fs) (vfS fs) := refVF_is fs h
 refine Ev.bind hv ?_
 by_cases h0 : vfS fs = 0
 rotate_left
 ·rw [_root_.if_neg h0]
  exact Ev.if_neg h0 (Ev.now _)
 rw [_root_.if_pos h0]
 refine Ev.if_pos h0 ?_
 by_cases hr : rs.length > 300
 ·rw [_root_.if_pos hr]
  exact Ev.if_pos (by omega) (Ev.now _)
 rw [_root_.if_neg hr]
 obtain ⟨ha, hl, _⟩ := vfS_all h0
 exact Ev.if_neg (by omega) (refVal_go pg fs rs ha hl hp (by omega) rs 0 List.drop_zero)
def nameL (s : ByteArray) : List Int := s.data.toList.map (fun b => (b.toNat : Int)) ++ List.replicate (10 - s.size) 0
def kindLetter (n : Int) : Int := if n = 1 then 76 else if n = 2 then 78 else if n = 3 then 68 else if n = 4 then 67 else if n = 5 then 77 else 0
def descL (x : S23) : List Int := nameL x.f0 ++ [kindLetter x.f1, x.f2 % 256, if x.f3 = true then 1 else 0, 0, 0, 0]
def descO (x : S23) : Option (List Int) := if x.f0.size ≤ 10 then some (descL x) else none
theorem nameL_len {s : ByteArray} (h : s.size ≤ 10) : (nameL s).length = 10 := by
 unfold nameL
 rw [List.length_append, List.length_map, List.length_replicate]
 have e : s.data.toList.length = s.size := rfl
 omega
theorem descO_some {x : S23} {l : List Int} (h : descO x = some l) : x.f0.size ≤ 10 ∧ l.length = 16 ∧ l = descL x := by
 unfold descO at h
 split at h
 rotate_left
 ·cases h
 rename_i hs
 cases h
 refine ⟨hs, ?_, rfl⟩
 unfold descL
 rw [List.length_append, nameL_len hs]
 rfl
def u8s (l : List Int) : Array Value := (l.map (Value.int .u8)).toArray
theorem set16 : ∀ (L : List Int), L.length = 10 → ∀ a b c d e f x : Int, (u8s (L ++ [a, b, c, d, e, f])).setIfInBounds 10 (.int .u8 x) = u8s (L ++ [x, b, c, d, e, f]) ∧ (u8s (L ++ [a, b, c, d, e, f])).setIfInBounds 11 (.int .u8 x) = u8s (L ++ [a, x, c, d, e, f]) ∧ (u8s (L ++ [a, b, c, d, e, f])).setIfInBounds 12 (.int .u8 x) = u8s (L ++ [a, b, x, d, e, f])
 | [a0, a1, a2, a3, a4, a5, a6, a7, a8, a9], _, _, _, _, _, _, _, _ => ⟨rfl, rfl, rfl⟩
theorem u8s_some {l : List Int} {i : Nat} (h : i < l.length) : (u8s l)[i]? = some ((u8s l)[i]'(by unfold u8s; simpa using h)) := Array.getElem?_eq_getElem _
theorem copy_arr (W : World) (g : Nat) (s : ByteArray) (hg : W.heap[g]? = some (.cells #[.int .u8 0, .int .u8 0, .int .u8 0, .int .u8 0, .int .u8 0, .int .u8 0, .int .u8 0, .int .u8 0, .int .u8 0, .int .u8 0, .int .u8 0, .int .u8 0, .int .u8 0, .int .u8 0, .int .u8 0, .int .u8 0] 123 (0, 0))) (hs : s.size ≤ 10) :
  (Builtin.copy_ #[37, 9] 3 #[.slice (some ⟨g, 0, none⟩) 10 10, .string s]).run Tryz.prog W = .ok (goInt s.size) (W.setRow g (u8s (nameL s ++ [0, 0, 0, 0, 0, 0]))) := by
 have h := Lib.run_copy_row_string (P := Tryz.prog) W 37 9 3 5 g 0 10 10 s _ 123 Tryz.underlying37 (by kernel_rfl) hg hs (by simp; omega)
 have e2 : ((#[.int .u8 0, .int .u8 0, .int .u8 0, .int .u8 0, .int .u8 0, .int .u8 0, .int .u8 0, .int .u8 0, .int .u8 0, .int .u8 0, .int .u8 0, .int .u8 0, .int .u8 0, .int .u8 0, .int .u8 0, .int .u8 0] : Array Value).toList.take 0 ++ Lib.byteCells s.data.toList ++ (#[.int .u8 0, .int .u8 0, .int .u8 0, .int .u8 0, .int .u8 0, .int .u8 0, .int .u8 0, .int .u8 0, .int .u8 0, .int .u8 0, .int .u8 0, .int .u8 0, .int .u8 0, .int .u8 0, .int .u8 0, .int .u8 0] : Array Value).toList.drop (0 + s.size)).toArray = u8s (nameL s ++ [0, 0, 0, 0, 0, 0]) := by
  unfold u8s nameL
  refine congrArg List.toArray ?_
  rw [List.map_append, List.map_append, List.map_map, List.map_replicate, Nat.zero_add]
  rw [List.take_zero, List.nil_append, List.append_assoc]
  show Lib.byteCells s.data.toList ++ _ = Lib.byteCells s.data.toList ++ _
  refine congrArg (Lib.byteCells s.data.toList ++ ·) ?_
  obtain ⟨n, hn⟩ : ∃ n, s.size = n := ⟨_, rfl⟩
  rw [hn] at hs ⊢
  rcases n with _ | _ | _ | _ | _ | _ | _ | _ | _ | _ | _ | n
  all_goals first | rfl | (exfalso; omega)
 rw [e2] at h
 exact h
theorem rowset_far {W : World} {g k : Nat} {o : Obj} (h : W.heap[k]? = some o) (hk : k ≠ g) (cs : Array Value) : (W.setRow g cs).heap[k]? = some o := (setRow_other W g k cs hk).trans h
theorem rowset_R {W : World} {g base : Nat} {v : Value} {xs : List Int} {cs0 : Array Value} {t : TypeId} (h : Kd.R (Kd.int .u8) 5 W base (fun _ => True) v xs) (hg : W.heap[g]? = some (.cells cs0 t (0, 0))) (cs : Array Value) (hne : (5 : Nat) ≠ t) : Kd.R (Kd.int .u8) 5 (W.setRow g cs) base (fun _ => True) v xs := by
 exact Kd.R_mono (Kd.R_step (Kd.R_types h hg (by intro q hq; rcases List.mem_cons.1 hq with rfl | hq; exact hne; exact absurd hq (by simp [Kd.int, Kd.scalar]))) (fun k ho _ => setRow_other W g k cs ho.2)) (fun _ _ => trivial)
theorem cellset_R {W : World} {g base j : Nat} {v u : Value} {xs : List Int} {cs0 : Array Value} {t : TypeId} (h : Kd.R (Kd.int .u8) 5 W base (fun _ => True) v xs) (hg : W.heap[g]? = some (.cells cs0 t (0, 0))) (hne : (5 : Nat) ≠ t) : Kd.R (Kd.int .u8) 5 (W.setCell ⟨g, j, none⟩ u) base (fun _ => True) v xs :=
 Kd.R_mono (Kd.R_far (p := ⟨g, j, none⟩) (Kd.R_types h hg (by intro q hq; rcases List.mem_cons.1 hq with rfl | hq; exact hne; exact absurd hq (by simp [Kd.int, Kd.scalar]))) (fun _ hk => hk.2) u) (fun _ _ => trivial)
theorem kindVal_letter (n : Int) : ∃ f1 f2 : Value, kindVal n = .agg #[.int .u8 (kindLetter n), .int .i64 (kindLo n), .int .i64 (kindHi n), f1, f2] := by
 by_cases h1 : n = 1
 ·subst h1; exact ⟨_, _, rfl⟩
 by_cases h2 : n = 2
 ·subst h2; exact ⟨_, _, rfl⟩
 by_cases h3 : n = 3
 ·subst h3; exact ⟨_, _, rfl⟩
 by_cases h4 : n = 4
 ·subst h4; exact ⟨_, _, rfl⟩
 by_cases h5 : n = 5
 ·subst h5; exact ⟨_, _, rfl⟩
 have e1 : kindLo n = 0 := by unfold kindLo kindFound; rw [if_neg (by omega), if_neg (by simp; omega)]
 have e2 : kindHi n = 0 := by unfold kindHi; rw [if_neg (by omega), if_neg h1, if_neg h2, if_neg h4]
 have e3 : kindLetter n = 0 := by unfold kindLetter; rw [if_neg h1, if_neg h2, if_neg h3, if_neg h4, if_neg h5]
 rw [e1, e2, e3]
 unfold kindVal
 rw [if_neg h1, if_neg h2, if_neg h3, if_neg h4, if_neg h5]
 exact ⟨_, _, rfl⟩
theorem run_look' (W : World) (r : Nat) (hb : W.heap[r]? = some (.map kindsEs 5)) (n : Int) (v : Value) (hv : kindVal n = v) : (Instr.lookup 104 (.map (some r)) (.int .i64 n) false).run Tryz.prog W = .ok v W := by
 rw [run_look W r hb n false, ← hv]; rfl
theorem blk_C {W : World} {g : Nat} {t : TypeId} (xs : List Int) (h : W.heap[g]? = some (.cells (u8s xs) t (0, 0))) (hl : xs.length ≤ 9223372036854775807) : (Kd.int .u8).C W (some ⟨g, 0, none⟩) xs.length xs := by
 refine ⟨rfl, hl, fun _ => ⟨_, rfl, fun j p hj => ⟨[.int .u8 p], rfl, rfl, fun i u hu => ?_⟩⟩⟩
 have hi : i = 0 := by
  have := (List.getElem?_eq_some_iff.1 hu).1
  simpa using this
 subst hi
 have hc := Z4 h j
 have e : (u8s xs)[j]? = some (.int .u8 p) := by
  unfold u8s
  rw [List.getElem?_toArray, List.getElem?_map, hj]
  rfl
 have hu' : Value.int .u8 p = u := by simpa using hu
 rw [← hu', ← e, ← hc]
 simp [Addr.add, Kd.int, Kd.scalar]
 split
 rotate_left
 ·rfl
 rename_i h0; rw [h0]
theorem hd_C {W : World} {g : Nat} {t : TypeId} {l ys : List Int} (h : W.heap[g]? = some (.cells (u8s l) t (0, 0))) (hy : ys = l) (hl : ys.length = 16) : (Kd.int .u8).C W (some ⟨g, 0, none⟩) 16 ys := by
 subst hy
 have := blk_C ys h (by omega)
 rw [hl] at this
 exact this
def hd_T9 : Bool × List (List Nat × List Nat) := (true, [([], []), ([], []), ([1], [1]), ([0, 2], [0, 2])])
theorem hd_tab9 : rtab .any (opsOf Tryz.f62 9) = hd_T9 := by kernel_rfl
def hd_T10 : Bool × List (List Nat × List Nat) := (true, [([], []), ([], []), ([1], [1]), ([0, 2], [0, 2]), ([3], [3]), ([], []), ([5], [5]), ([6], [6]), ([0, 1, 2, 3, 4], []), ([8, 4, 0, 0, 1, 2, 3, 4], [4, 8]), ([0, 1, 2, 3, 4, 5, 6, 7, 8, 9], []), ([10, 7, 9, 0, 1, 2, 3, 4, 5, 6, 7, 8, 9], [7, 10])])
theorem hd_tab10 : rtab .any (opsOf Tryz.f62 10) = hd_T10 := by kernel_rfl
section
attribute [local go_sem] max2_int min2_int max_two min_two max_three min_three max_four min_four
def table_writeTruth.f (a0_0 : ByteArray) (a0_1 : Int) (a0_2 : Int) (a0_3 : Bool) (a1_0 : Int) (a1_1 : Int) (a1_2 : ByteArray) : Option (ByteArray) := if 0 ≤ a1_1 then (if a1_1 ≤ (wrap64 (a1_1 + 1)) then (if (wrap64 (a1_1 + 1)) ≤ 2 then (some ((⟨#[70, 84]⟩ : ByteArray).extract (a1_1 : Int).toNat ((wrap64 (a1_1 + 1)) : Int).toNat)) else (none)) else (none)) else (none)
theorem table_writeTruth.calls (a0_0 : ByteArray) (a0_1 : Int) (a0_2 : Int) (a0_3 : Bool) (a1_0 : Int) (a1_1 : Int) (a1_2 : ByteArray) (r : ByteArray) (w : World) (h : table_writeTruth.f a0_0 a0_1 a0_2 a0_3 a1_0 a1_1 a1_2 = some r) :
  Calls Tryz.prog 125 #[.agg #[.string a0_0, .int .i64 a0_1, .int .i64 a0_2, .bool a0_3], .agg #[.int .i64 a1_0, .int .i64 a1_1, .string a1_2]] w fun e w' => e = .returned (.string r) ∧ Below w.heap.size w w' := by
 have hu23 := Tryz.underlying23
 have hu25 := Tryz.underlying25
 have HB := Z0 (Below.refl w.heap.size w)
 unfold table_writeTruth.f at h
 have H := h
 clear h
 by_cases c3 : 0 ≤ a1_1
 rotate_left
 ·rw [if_neg c3] at H
  exact absurd H (by simp)
 rw [if_pos c3] at H
 have c3b0 := eq_true c3
 have c3b1 : decide (0 ≤ a1_1) = true := decide_eq_true c3
 clear c3
 by_cases c4 : a1_1 ≤ (wrap64 (a1_1 + 1))
 rotate_left
 ·rw [if_neg c4] at H
  exact absurd H (by simp)
 rw [if_pos c4] at H
 have c4b0 := eq_true c4
 have c4b1 : decide (a1_1 ≤ (wrap64 (a1_1 + 1))) = true := decide_eq_true c4
 by_cases c5 : (wrap64 (a1_1 + 1)) ≤ 2
 rotate_left
 ·rw [if_neg c5] at H
  exact absurd H (by simp)
 rw [if_pos c5] at H
 have c5b0 := eq_true c5
 have c5b1 : decide ((wrap64 (a1_1 + 1)) ≤ 2) = true := decide_eq_true c5
 obtain rfl := Option.some.inj H
 go_enter Tryz.func125, Tryz.ntmps125
 go_wp2_with (first | ((with_reducible refine Z9 (N := 2) rfl ?_); refine bx (N := 2) (cs := #[.string a0_0, .int .i64 a0_1, .int .i64 a0_2, .bool a0_3]) (t := 23) ?_; intro gb563 hg w6 hbox hb; have BK563 := Z0 hbox; have GE563 := ge hg HB.out; replace HB := Z0 (Z1 HB.out hb); clear hb hbox hg) | ((with_reducible refine Z9 (N := 3) rfl ?_); refine bx (N := 3) (cs := #[.int .i64 a1_0, .int .i64 a1_1, .string a1_2]) (t := 25) ?_; intro gb564 hg w7 hbox hb; have BK564 := Z0 hbox; have GE564 := ge hg HB.out; replace HB := Z0 (Z1 HB.out hb); obtain ⟨NB563_564, NB564_563⟩ := nb hg BK563.out; replace BK563 := Z0 (Z2 BK563.out hb); clear hb hbox hg; have hnb8 := NB564_563.out; have hnc8 := NB563_564.out; obtain ⟨hcz9_0, hcz9_1, hcz9_2⟩ := bc3 BK564.out; obtain ⟨hfz9_0, hfz9_1, hfz9_2⟩ := bf3 BK564.out))
 go_ret
 exact ⟨rfl, V0⟩
def table_writeNum.f (k : Nat) (a0_0 : ByteArray) (a0_1 : Int) (a0_2 : Int) (a0_3 : Bool) (a1_0 : Int) (a1_1 : Int) (a1_2 : ByteArray) : Option (ByteArray) := (val_Str.f k a1_1 a0_2).bind fun bt554 => (some bt554.1)
theorem table_writeNum.mono : ∀ a0 a1 a2 a3 a4 a5 a6 k, LeO (table_writeNum.f k a0 a1 a2 a3 a4 a5 a6) (table_writeNum.f (k + 1) a0 a1 a2 a3 a4 a5 a6) := by
 intro a0 a1 a2 a3 a4 a5 a6 k
 unfold table_writeNum.f
 repeat' first
   | (with_reducible exact val_Str.mono _ _ _)
   | (with_reducible exact LeO.refl _)
   | (with_reducible exact LeO.none _)
   | (with_reducible refine LeO.ite ?_ ?_)
   | (with_reducible refine LeO.bind ?_ (fun _ => ?_))
theorem table_writeNum.calls (k : Nat) (a0_0 : ByteArray) (a0_1 : Int) (a0_2 : Int) (a0_3 : Bool) (a1_0 : Int) (a1_1 : Int) (a1_2 : ByteArray) (r : ByteArray) (w : World) (h : table_writeNum.f k a0_0 a0_1 a0_2 a0_3 a1_0 a1_1 a1_2 = some r) :
  Calls Tryz.prog 127 #[.agg #[.string a0_0, .int .i64 a0_1, .int .i64 a0_2, .bool a0_3], .agg #[.int .i64 a1_0, .int .i64 a1_1, .string a1_2]] w fun e w' => e = .returned (.string r) ∧ Below w.heap.size w w' := by
 have hu23 := Tryz.underlying23
 have hu25 := Tryz.underlying25
 have HB := Z0 (Below.refl w.heap.size w)
 unfold table_writeNum.f at h
 have H := h
 clear h
 replace H := Option.bind_eq_some_iff.mp H
 obtain ⟨⟨t554, t555⟩, A30, H⟩ := H
 replace H : (some t554) = some r := H
 have A3 := Z0 A30
 clear A30
 obtain rfl := Option.some.inj H
 go_enter Tryz.func127, Tryz.ntmps127
 go_wp2_with (first | ((with_reducible refine Z9 (N := 2) rfl ?_); refine bx (N := 2) (cs := #[.string a0_0, .int .i64 a0_1, .int .i64 a0_2, .bool a0_3]) (t := 23) ?_; intro gb552 hg w4 hbox hb; have BK552 := Z0 hbox; have GE552 := ge hg HB.out; replace HB := Z0 (Z1 HB.out hb); clear hb hbox hg) | ((with_reducible refine Z9 (N := 3) rfl ?_); refine bx (N := 3) (cs := #[.int .i64 a1_0, .int .i64 a1_1, .string a1_2]) (t := 25) ?_; intro gb553 hg w5 hbox hb; have BK553 := Z0 hbox; have GE553 := ge hg HB.out; replace HB := Z0 (Z1 HB.out hb); obtain ⟨NB552_553, NB553_552⟩ := nb hg BK552.out; replace BK552 := Z0 (Z2 BK552.out hb); clear hb hbox hg; have hnb6 := NB553_552.out; have hnc6 := NB552_553.out; obtain ⟨hcz7_0, hcz7_1, hcz7_2⟩ := bc3 BK553.out; obtain ⟨hfz7_0, hfz7_1, hfz7_2⟩ := bf3 BK553.out; obtain ⟨hcz8_0, hcz8_1, hcz8_2, hcz8_3⟩ := bc4 BK552.out; obtain ⟨hfz8_0, hfz8_1, hfz8_2, hfz8_3⟩ := bf4 BK552.out) | ((with_reducible refine Z5 (f := 53) rfl ?_); refine gl Tryz.func53 (val_Str.calls k a1_1 a0_2 t554 t555 _ A3.out) ?_; rintro e w9 ⟨rfl, hb⟩; refine ⟨_, rfl, ?_⟩; replace BK552 := Z0 (Z2 BK552.out hb); replace BK553 := Z0 (Z2 BK553.out hb); replace HB := Z0 (Z1 HB.out hb)))
 go_ret
 exact ⟨rfl, V0⟩
def table_writeDate.f (k : Nat) (a0_0 : ByteArray) (a0_1 : Int) (a0_2 : Int) (a0_3 : Bool) (a1_0 : Int) (a1_1 : Int) (a1_2 : ByteArray) : Option (ByteArray) := (val_Stamp.f k a1_1).bind fun bt569 => (some bt569.1)
theorem table_writeDate.mono : ∀ a0 a1 a2 a3 a4 a5 a6 k, LeO (table_writeDate.f k a0 a1 a2 a3 a4 a5 a6) (table_writeDate.f (k + 1) a0 a1 a2 a3 a4 a5 a6) := by
 intro a0 a1 a2 a3 a4 a5 a6 k
 unfold table_writeDate.f
 repeat' first
   | (with_reducible exact val_Stamp.mono _ _)
   | (with_reducible exact LeO.refl _)
   | (with_reducible exact LeO.none _)
   | (with_reducible refine LeO.ite ?_ ?_)
   | (with_reducible refine LeO.bind ?_ (fun _ => ?_))
theorem table_writeDate.calls (k : Nat) (a0_0 : ByteArray) (a0_1 : Int) (a0_2 : Int) (a0_3 : Bool) (a1_0 : Int) (a1_1 : Int) (a1_2 : ByteArray) (r : ByteArray) (w : World) (h : table_writeDate.f k a0_0 a0_1 a0_2 a0_3 a1_0 a1_1 a1_2 = some r) :
  Calls Tryz.prog 129 #[.agg #[.string a0_0, .int .i64 a0_1, .int .i64 a0_2, .bool a0_3], .agg #[.int .i64 a1_0, .int .i64 a1_1, .string a1_2]] w fun e w' => e = .returned (.string r) ∧ Below w.heap.size w w' := by
 have hu23 := Tryz.underlying23
 have hu25 := Tryz.underlying25
 have HB := Z0 (Below.refl w.heap.size w)
 unfold table_writeDate.f at h
 have H := h
 clear h
 replace H := Option.bind_eq_some_iff.mp H
 obtain ⟨⟨t569, t570⟩, A30, H⟩ := H
 replace H : (some t569) = some r := H
 have A3 := Z0 A30
 clear A30
 obtain rfl := Option.some.inj H
 go_enter Tryz.func129, Tryz.ntmps129
 go_wp2_with (first | ((with_reducible refine Z9 (N := 2) rfl ?_); refine bx (N := 2) (cs := #[.string a0_0, .int .i64 a0_1, .int .i64 a0_2, .bool a0_3]) (t := 23) ?_; intro gb567 hg w4 hbox hb; have BK567 := Z0 hbox; have GE567 := ge hg HB.out; replace HB := Z0 (Z1 HB.out hb); clear hb hbox hg) | ((with_reducible refine Z9 (N := 3) rfl ?_); refine bx (N := 3) (cs := #[.int .i64 a1_0, .int .i64 a1_1, .string a1_2]) (t := 25) ?_; intro gb568 hg w5 hbox hb; have BK568 := Z0 hbox; have GE568 := ge hg HB.out; replace HB := Z0 (Z1 HB.out hb); obtain ⟨NB567_568, NB568_567⟩ := nb hg BK567.out; replace BK567 := Z0 (Z2 BK567.out hb); clear hb hbox hg; have hnb6 := NB568_567.out; have hnc6 := NB567_568.out; obtain ⟨hcz7_0, hcz7_1, hcz7_2⟩ := bc3 BK568.out; obtain ⟨hfz7_0, hfz7_1, hfz7_2⟩ := bf3 BK568.out) | ((with_reducible refine Z5 (f := 156) rfl ?_); refine gl Tryz.func156 (val_Stamp.calls k a1_1 t569 t570 _ A3.out) ?_; rintro e w8 ⟨rfl, hb⟩; refine ⟨_, rfl, ?_⟩; replace BK567 := Z0 (Z2 BK567.out hb); replace BK568 := Z0 (Z2 BK568.out hb); replace HB := Z0 (Z1 HB.out hb)))
 go_ret
 exact ⟨rfl, V0⟩
def table_writeText.f (a0_0 : ByteArray) (a0_1 : Int) (a0_2 : Int) (a0_3 : Bool) (a1_0 : Int) (a1_1 : Int) (a1_2 : ByteArray) : Option (ByteArray) := (strings_Repeat.f (⟨#[32]⟩ : ByteArray) (wrap64 (a0_2 - (a1_2.size : Int)))).bind fun t562 => (if a1_2.size + t562.size ≤ 9223372036854775807 then (some (a1_2 ++ t562)) else (none))
def table_writeText.T1 : Bool × List (List Nat × List Nat) := (true, [([], []), ([0], [0]), ([], []), ([2], [2]), ([], []), ([4], [4]), ([5], [5]), ([3, 6], [3, 6]), ([7], [7]), ([1, 8], [1, 8]), ([9, 8, 0, 1, 2, 3, 4, 5, 6, 7, 8, 9], [9])])
def table_writeText.B1 : List Nat := [0, 1, 0, 4, 0, 16, 48, 124, 252, 511, 1023]
theorem table_writeText.tab1 : rtab .any (opsOf Tryz.f131 1) = table_writeText.T1 := by kernel_rfl
theorem table_writeText.bits1 : waitsOk table_writeText.T1.2 table_writeText.B1 = true := by kernel_rfl
theorem table_writeText.calls (a0_0 : ByteArray) (a0_1 : Int) (a0_2 : Int) (a0_3 : Bool) (a1_0 : Int) (a1_1 : Int) (a1_2 : ByteArray) (r : ByteArray) (w : World) (h : table_writeText.f a0_0 a0_1 a0_2 a0_3 a1_0 a1_1 a1_2 = some r) :
  Calls Tryz.prog 131 #[.agg #[.string a0_0, .int .i64 a0_1, .int .i64 a0_2, .bool a0_3], .agg #[.int .i64 a1_0, .int .i64 a1_1, .string a1_2]] w fun e w' => e = .returned (.string r) ∧ Below w.heap.size w w' := by
 have hu23 := Tryz.underlying23
 have hu25 := Tryz.underlying25
 have HB := Z0 (Below.refl w.heap.size w)
 unfold table_writeText.f at h
 have H := h
 clear h
 replace H := Option.bind_eq_some_iff.mp H
 obtain ⟨t562, A30, H⟩ := H
 replace H : (if a1_2.size + t562.size ≤ 9223372036854775807 then (some (a1_2 ++ t562)) else (none)) = some r := H
 have A3 := Z0 A30
 clear A30
 by_cases c4 : a1_2.size + t562.size ≤ 9223372036854775807
 rotate_left
 ·rw [if_neg c4] at H
  exact absurd H (by simp)
 rw [if_pos c4] at H
 have c4b0 := eq_true c4
 have c4b1 : decide (a1_2.size + t562.size ≤ 9223372036854775807) = true := decide_eq_true c4
 try have c4b2 : (9223372036854775807 < a1_2.size + t562.size) = False := eq_false (Nat.not_lt.2 c4)
 obtain rfl := Option.some.inj H
 go_enter Tryz.func131, Tryz.ntmps131
 try go_wp2_with (first | ((with_reducible refine Z9 (N := 2) rfl ?_); refine bx (N := 2) (cs := #[.string a0_0, .int .i64 a0_1, .int .i64 a0_2, .bool a0_3]) (t := 23) ?_; intro gb560 hg w5 hbox hb; have BK560 := Z0 hbox; have GE560 := ge hg HB.out; replace HB := Z0 (Z1 HB.out hb); clear hb hbox hg) | ((with_reducible refine Z9 (N := 3) rfl ?_); refine bx (N := 3) (cs := #[.int .i64 a1_0, .int .i64 a1_1, .string a1_2]) (t := 25) ?_; intro gb561 hg w6 hbox hb; have BK561 := Z0 hbox; have GE561 := ge hg HB.out; replace HB := Z0 (Z1 HB.out hb); obtain ⟨NB560_561, NB561_560⟩ := nb hg BK560.out; replace BK560 := Z0 (Z2 BK560.out hb); clear hb hbox hg))
 have n0_ := Z0 (Y5 BK560.out)
 have n1_ := Z0 (Y5 BK561.out)
 have n2_ := Z0 (below_drew1 HB.out)
 clear BK560
 clear BK561
 clear HB
 have BK560 := n0_
 have BK561 := n1_
 have HB := n2_
 clear n0_ n1_ n2_
 refine start_ (n := 11) (S := fun w' => w'.cell? ⟨gb561, 0, none⟩ = some (.int .i64 a1_0) ∧ w'.cell? ⟨gb561, 1, none⟩ = some (.int .i64 a1_1) ∧ w'.cell? ⟨gb561, 2, none⟩ = some (.string a1_2) ∧ w'.cell? ⟨gb560, 0, none⟩ = some (.string a0_0) ∧ w'.cell? ⟨gb560, 1, none⟩ = some (.int .i64 a0_1) ∧ w'.cell? ⟨gb560, 2, none⟩ = some (.int .i64 a0_2) ∧ w'.cell? ⟨gb560, 3, none⟩ = some (.bool a0_3)) (ds := []) (bs 11 0) (by kernel_rfl) rfl rfl ⟨(Z4 BK561.out 0).trans rfl, (Z4 BK561.out 1).trans rfl, (Z4 BK561.out 2).trans rfl, (Z4 BK560.out 0).trans rfl, (Z4 BK560.out 1).trans rfl, (Z4 BK560.out 2).trans rfl, (Z4 BK560.out 3).trans rfl⟩ (fun hHeld => ?_); refine with_tabW table_writeText.tab1 table_writeText.bits1 (fun HT_ HW_ => ?_)
 generalize w6.drew = w7 at BK560 BK561 HB hHeld ⊢
 refine pz 0 5 (bs 11 1) HT_ ?_
 refine pz 2 7 (bs 11 5) HT_ ?_
 refine pz 4 9 (bs 11 21) HT_ ?_
 refine tz 1 6 (bs 11 23) HT_ HW_ hHeld ?_
 refine tz 3 8 (bs 11 31) HT_ HW_ hHeld ?_
 refine tz 5 10 (bs 11 63) HT_ HW_ hHeld ?_
 refine pz 6 11 (bs 11 127) HT_ ?_
 refine pz 7 12 (bs 11 255) HT_ ?_
 refine one_ (i := 8) (N := some 13) (bs 11 511) rfl rfl (one_of HT_.out (by kernel_rfl)) (by decide) (fun K hK => ?_)
 refine goes_ Tryz.func99 (by kernel_rfl) rfl #[.string (⟨#[32]⟩ : ByteArray), .int .i64 (wrap64 (a0_2 - (a1_2.size : Int)))] (by rfl) rfl rfl V1 ?_
 with_reducible refine (strings_Repeat.calls (⟨#[32]⟩ : ByteArray) (wrap64 (a0_2 - (a1_2.size : Int))) t562 _ A3.out).mono ?_
 rintro e w8 ⟨rfl, hb⟩
 refine ⟨_, rfl, ?_⟩
 have n0_ := Z0 (Z2 BK560.out hb)
 have n1_ := Z0 (Z2 BK561.out hb)
 have n2_ := Z0 (Z1 HB.out hb)
 clear BK560
 clear BK561
 clear HB
 have BK560 := n0_
 have BK561 := n1_
 have HB := n2_
 clear n0_ n1_ n2_
 refine hK.out _ _ ⟨(Z4 BK561.out 0).trans rfl, (Z4 BK561.out 1).trans rfl, (Z4 BK561.out 2).trans rfl, (Z4 BK560.out 0).trans rfl, (Z4 BK560.out 1).trans rfl, (Z4 BK560.out 2).trans rfl, (Z4 BK560.out 3).trans rfl⟩ (fun hHeld => ?_)
 clear hK K
 refine norm_ (a' := ?_) ?_ ?_
 rotate_left
 ·show Act.put _ (some 13) _ = _
  simp only [Act.put, Z3, Z6, Z7, i64_w, i32_w]
  rfl
 refine pz 9 14 (bs 11 1023) HT_ ?_
 refine pz 10 4 (bs 11 2047) HT_ ?_
 refine done_ (done_of HT_.out (by kernel_rfl)) ?_
 try go_wp2
 go_ret
 exact ⟨rfl, V0⟩
def table_writeMemo.f (k : Nat) (a0_0 : ByteArray) (a0_1 : Int) (a0_2 : Int) (a0_3 : Bool) (a1_0 : Int) (a1_1 : Int) (a1_2 : ByteArray) : Option (ByteArray) := if a1_1 = 0 then ((strings_Repeat.f (⟨#[32]⟩ : ByteArray) a0_2).bind fun t558 => (some t558)) else ((table_writeNum.f k a0_0 a0_1 a0_2 a0_3 a1_0 a1_1 a1_2).bind fun t559 => (some t559))
theorem table_writeMemo.mono : ∀ a0 a1 a2 a3 a4 a5 a6 k, LeO (table_writeMemo.f k a0 a1 a2 a3 a4 a5 a6) (table_writeMemo.f (k + 1) a0 a1 a2 a3 a4 a5 a6) := by
 intro a0 a1 a2 a3 a4 a5 a6 k
 unfold table_writeMemo.f
 repeat' first
   | (with_reducible exact table_writeNum.mono _ _ _ _ _ _ _ _)
   | (with_reducible exact LeO.refl _)
   | (with_reducible exact LeO.none _)
   | (with_reducible refine LeO.ite ?_ ?_)
   | (with_reducible refine LeO.bind ?_ (fun _ => ?_))
theorem table_writeMemo.calls (k : Nat) (a0_0 : ByteArray) (a0_1 : Int) (a0_2 : Int) (a0_3 : Bool) (a1_0 : Int) (a1_1 : Int) (a1_2 : ByteArray) (r : ByteArray) (w : World) (h : table_writeMemo.f k a0_0 a0_1 a0_2 a0_3 a1_0 a1_1 a1_2 = some r) :
  Calls Tryz.prog 133 #[.agg #[.string a0_0, .int .i64 a0_1, .int .i64 a0_2, .bool a0_3], .agg #[.int .i64 a1_0, .int .i64 a1_1, .string a1_2]] w fun e w' => e = .returned (.string r) ∧ Below w.heap.size w w' := by
 have hu23 := Tryz.underlying23
 have hu25 := Tryz.underlying25
 have HB := Z0 (Below.refl w.heap.size w)
 unfold table_writeMemo.f at h
 have H := h
 clear h
 by_cases c3 : a1_1 = 0
 ·rw [if_pos c3] at H
  have c3b0 : (a1_1 == 0) = true := beq_iff_eq.mpr c3
  have c3b1 : (a1_1 != 0) = false := bne_eq_false_iff_eq.mpr c3
  clear c3
  replace H := Option.bind_eq_some_iff.mp H
  obtain ⟨t558, A40, H⟩ := H
  replace H : (some t558) = some r := H
  have A4 := Z0 A40
  clear A40
  obtain rfl := Option.some.inj H
  go_enter Tryz.func133, Tryz.ntmps133
  go_wp2_with (first | ((with_reducible refine Z9 (N := 2) rfl ?_); refine bx (N := 2) (cs := #[.string a0_0, .int .i64 a0_1, .int .i64 a0_2, .bool a0_3]) (t := 23) ?_; intro gb556 hg w5 hbox hb; have BK556 := Z0 hbox; have GE556 := ge hg HB.out; replace HB := Z0 (Z1 HB.out hb); clear hb hbox hg) | ((with_reducible refine Z9 (N := 3) rfl ?_); refine bx (N := 3) (cs := #[.int .i64 a1_0, .int .i64 a1_1, .string a1_2]) (t := 25) ?_; intro gb557 hg w6 hbox hb; have BK557 := Z0 hbox; have GE557 := ge hg HB.out; replace HB := Z0 (Z1 HB.out hb); obtain ⟨NB556_557, NB557_556⟩ := nb hg BK556.out; replace BK556 := Z0 (Z2 BK556.out hb); clear hb hbox hg; have hnb7 := NB557_556.out; have hnc7 := NB556_557.out; obtain ⟨hcz8_0, hcz8_1, hcz8_2⟩ := bc3 BK557.out; obtain ⟨hfz8_0, hfz8_1, hfz8_2⟩ := bf3 BK557.out; obtain ⟨hcz9_0, hcz9_1, hcz9_2, hcz9_3⟩ := bc4 BK556.out; obtain ⟨hfz9_0, hfz9_1, hfz9_2, hfz9_3⟩ := bf4 BK556.out) | ((with_reducible refine Z5 (f := 99) rfl ?_); refine gl Tryz.func99 (strings_Repeat.calls (⟨#[32]⟩ : ByteArray) a0_2 t558 _ A4.out) ?_; rintro e w10 ⟨rfl, hb⟩; refine ⟨_, rfl, ?_⟩; replace BK556 := Z0 (Z2 BK556.out hb); replace BK557 := Z0 (Z2 BK557.out hb); replace HB := Z0 (Z1 HB.out hb)))
  go_ret
  exact ⟨rfl, V0⟩
 rw [if_neg c3] at H
 have c3b0 : (a1_1 == 0) = false := beq_eq_false_iff_ne.mpr c3
 have c3b1 : (a1_1 != 0) = true := bne_iff_ne.mpr c3
 replace H := Option.bind_eq_some_iff.mp H
 obtain ⟨t559, A110, H⟩ := H
 replace H : (some t559) = some r := H
 have A11 := Z0 A110
 clear A110
 obtain rfl := Option.some.inj H
 go_enter Tryz.func133, Tryz.ntmps133
 go_wp2_with (first | ((with_reducible refine Z9 (N := 2) rfl ?_); refine bx (N := 2) (cs := #[.string a0_0, .int .i64 a0_1, .int .i64 a0_2, .bool a0_3]) (t := 23) ?_; intro gb556 hg w12 hbox hb; have BK556 := Z0 hbox; have GE556 := ge hg HB.out; replace HB := Z0 (Z1 HB.out hb); clear hb hbox hg) | ((with_reducible refine Z9 (N := 3) rfl ?_); refine bx (N := 3) (cs := #[.int .i64 a1_0, .int .i64 a1_1, .string a1_2]) (t := 25) ?_; intro gb557 hg w13 hbox hb; have BK557 := Z0 hbox; have GE557 := ge hg HB.out; replace HB := Z0 (Z1 HB.out hb); obtain ⟨NB556_557, NB557_556⟩ := nb hg BK556.out; replace BK556 := Z0 (Z2 BK556.out hb); clear hb hbox hg; have hnb14 := NB557_556.out; have hnc14 := NB556_557.out; obtain ⟨hcz15_0, hcz15_1, hcz15_2⟩ := bc3 BK557.out; obtain ⟨hfz15_0, hfz15_1, hfz15_2⟩ := bf3 BK557.out; obtain ⟨hcz16_0, hcz16_1, hcz16_2, hcz16_3⟩ := bc4 BK556.out; obtain ⟨hfz16_0, hfz16_1, hfz16_2, hfz16_3⟩ := bf4 BK556.out) | ((with_reducible refine Z5 (f := 127) rfl ?_); refine gl Tryz.func127 (table_writeNum.calls k a0_0 a0_1 a0_2 a0_3 a1_0 a1_1 a1_2 t559 _ A11.out) ?_; rintro e w17 ⟨rfl, hb⟩; refine ⟨_, rfl, ?_⟩; replace BK556 := Z0 (Z2 BK556.out hb); replace BK557 := Z0 (Z2 BK557.out hb); replace HB := Z0 (Z1 HB.out hb)))
 go_ret
 exact ⟨rfl, V0⟩
end
theorem store_box {P : Program} {ops : Array Oper} {rest : List Oper} {o : Oper} {a : Act} {Q : Exit → Act → World → Prop} {W : World} (hgd : o.guard = none) {ty : TypeId} {p : Tmp} {y : Operand} (ho : o.op = .store ty (.tmp p) y) (hd : o.dst = none)
  (g : Nat) {cells old : Array Value} {t : TypeId} (hx : a.eval (.tmp p) = .pointer (some ⟨g, 0, none⟩)) (hy : a.eval y = .agg cells) (hg : W.heap[g]? = some (.cells old t (0, 0))) (hi : (P.info? ty).map (·.size) = some cells.size) (hold : old.size = cells.size) (h1 : cells.all (·.oneCell') = true)
  (h : ∀ w1, w1.heap[g]? = some (.cells cells t (0, 0)) → (∀ B w0, Below B w0 W → B ≤ g → Below B w0 w1) → (∀ k, k ≠ g → w1.heap[k]? = W.heap[k]?) → wpList P ops Q rest a w1) : wpList P ops Q (o :: rest) a W := by
 refine wpList_store_row hgd ty (.tmp p) y ho g cells hx hy t old hg hi hold h1 ?_
 rw [hd]
 exact h _ (setRow_heap W g old cells t (0, 0) hg) (fun B w0 hb hB => below_setRow hb hB cells) (fun k hk => setRow_other W g k cells hk)
theorem R_append_str {ops : Array Oper} {rest : List Oper} {o : Oper} {a : Act} {Q : Exit → Act → World → Prop} {w0 W : World} (base : Nat) (hgd : o.guard = none) (s x : Operand)
  (ho : o.op = .call { callee := .builtin .append, args := #[s, x], argTypes := #[37, 9] }) (v : Value) (xs : List Int) (str : ByteArray) (ok : Nat → Prop) (hs : a.eval s = v) (hx : a.eval x = .string str)
  (HO : (Kd.int .u8).R 5 W base ok v xs) (HB : Below base w0 W) (hbase : base ≤ W.heap.size) (hl : xs.length + str.size ≤ 140737488355328)
  (h : ∀ v1 w1, (Kd.int .u8).R 5 w1 base (fun _ => True) v1 (xs ++ str.data.toList.map (fun b => (b.toNat : Int))) → Below base w0 w1 → wpList Tryz.prog ops Q rest (a.put o.dst v1) w1) : wpList Tryz.prog ops Q (o :: rest) a W := by
 obtain ⟨i0, hi, hz0, hz1, hz2⟩ := info_parts info5
 refine Lib.wpList_append_own_string W hgd s x 37 9 ho base 5 i0 Tryz.underlying37 Tryz.underlying9 hi hz0 hz1 hz2 v xs.length _ hs (Kd.own_of_R HO) str hx (by unfold maxLen; omega) hl hbase ?_
 intro v1 w1 hown hg _
 refine h v1 w1 (Kd.R_of_own ?_ (fun _ _ => trivial)) ?_
 rotate_left
 ·exact HB.grown hg hbase (fun k hk => Kd.R_base HO k hk)
 have e1 : (xs ++ str.data.toList.map (fun b => (b.toNat : Int))).length = xs.length + str.size := by
  rw [List.length_append, List.length_map]; rfl
 have e2 : encs (Value.int .u8) (xs ++ str.data.toList.map (fun b => (b.toNat : Int))) = encs (Value.int .u8) xs ++ Lib.strCells str := by
  unfold encs Lib.strCells
  rw [List.map_append, List.map_map]
  rfl
 rw [e1, e2]
 exact hown
def writeO (f : S23) (v : S25) : Option ByteArray :=
 if f.f1 = 1 then table_writeTruth.f f.f0 f.f1 f.f2 f.f3 v.f0 v.f1 v.f2
 else if f.f1 = 2 then table_writeNum.f 100 f.f0 f.f1 f.f2 f.f3 v.f0 v.f1 v.f2
 else if f.f1 = 3 then table_writeDate.f 100 f.f0 f.f1 f.f2 f.f3 v.f0 v.f1 v.f2
 else if f.f1 = 4 then table_writeText.f f.f0 f.f1 f.f2 f.f3 v.f0 v.f1 v.f2
 else if f.f1 = 5 then table_writeMemo.f 100 f.f0 f.f1 f.f2 f.f3 v.f0 v.f1 v.f2
 else none
theorem write_any (f : S23) (v : S25) (p : ByteArray) (h : writeO f v = some p) : ∃ (c lo hi rf : Value) (K : Nat), kindVal f.f1 = .agg #[c, lo, hi, .func (.func K) #[] #[], rf] ∧ (∀ args W, (callFunc K args).run Tryz.prog W = .ok (.enter K args) W) ∧
  ∀ W, Calls Tryz.prog K #[.agg #[.string f.f0, .int .i64 f.f1, .int .i64 f.f2, .bool f.f3], .agg #[.int .i64 v.f0, .int .i64 v.f1, .string v.f2]] W fun e w' => e = .returned (.string p) ∧ Below W.heap.size W w' := by
 unfold writeO at h
 by_cases h1 : f.f1 = 1
 ·rw [if_pos h1] at h
  exact ⟨_, _, _, _, 125, by unfold kindVal; rw [if_pos h1]; rfl, fun args W => enters_ Tryz.func125 (by kernel_rfl) rfl args W, fun W => table_writeTruth.calls _ _ _ _ _ _ _ p W h⟩
 rw [if_neg h1] at h
 by_cases h2 : f.f1 = 2
 ·rw [if_pos h2] at h
  exact ⟨_, _, _, _, 127, by unfold kindVal; rw [if_neg h1, if_pos h2]; rfl, fun args W => enters_ Tryz.func127 (by kernel_rfl) rfl args W, fun W => table_writeNum.calls _ _ _ _ _ _ _ _ p W h⟩
 rw [if_neg h2] at h
 by_cases h3 : f.f1 = 3
 ·rw [if_pos h3] at h
  exact ⟨_, _, _, _, 129, by unfold kindVal; rw [if_neg h1, if_neg h2, if_pos h3]; rfl, fun args W => enters_ Tryz.func129 (by kernel_rfl) rfl args W, fun W => table_writeDate.calls _ _ _ _ _ _ _ _ p W h⟩
 rw [if_neg h3] at h
 by_cases h4 : f.f1 = 4
 ·rw [if_pos h4] at h
  exact ⟨_, _, _, _, 131, by unfold kindVal; rw [if_neg h1, if_neg h2, if_neg h3, if_pos h4]; rfl, fun args W => enters_ Tryz.func131 (by kernel_rfl) rfl args W, fun W => table_writeText.calls _ _ _ _ _ _ _ p W h⟩
 rw [if_neg h4] at h
 by_cases h5 : f.f1 = 5
 ·rw [if_pos h5] at h
  exact ⟨_, _, _, _, 133, by unfold kindVal; rw [if_neg h1, if_neg h2, if_neg h3, if_neg h4, if_pos h5]; rfl, fun args W => enters_ Tryz.func133 (by kernel_rfl) rfl args W, fun W => table_writeMemo.calls _ _ _ _ _ _ _ _ p W h⟩
 rw [if_neg h5] at h
 cases h
theorem goesV_ {P : Program} {ops : Array Oper} {Q : Exit → Act → World → Prop} {oi : Oper} {N : Option Tmp} {a : Act} {w : World} {K : Act → World → Prop} {f : FuncId} {x : Tmp} {xs0 : Array Operand} {ts : Array TypeId} (he : ∀ args W, (callFunc f args).run P W = .ok (.enter f args) W) (args : Array Value)
  (hw : Region.wanted oi (yielded ops a.tmps) = true) (hN : oi.dst = N) (hop : oi.op = .call { callee := .value (.tmp x), args := xs0, argTypes := ts }) (hx : a.eval (.tmp x) = .func (.func f) #[] #[]) (hargs : xs0.map a.eval = args)
  (h : Calls P f args w fun e w' => ∃ v, e = .returned v ∧ K (a.put N v) w') : if Region.wanted oi (yielded ops a.tmps) = true then Oper.wp P oi a w K Q else K (a.put N undef) w := by
 refine call_ f args hw hN ?_ h
 unfold execOp
 simp [hop, resolve, Deferred.ofValue, invoke, hx, hargs, he]
def rowFlag (f : S23) (v : S25) (x6 : List Int) (b : Int) : Option (List Int) :=
 if f.f3 = true then (if v.f0 = 0 then (if 0 ≤ wrap64 (Int.tdiv b 8) then (if wrap64 (Int.tdiv b 8) < (x6.length : Int) then (if 0 ≤ Int.tmod b 8 then some (x6.set (wrap64 (Int.tdiv b 8)).toNat (Go.bits .or .u8 (rd x6 (wrap64 (Int.tdiv b 8))) (shl .u8 1 (Int.tmod b 8)))) else none) else none) else none) else some x6) else some x6
def rowBit (f : S23) (b : Int) : Int := if f.f3 = true then wrap64 (b + 1) else b
def rowPart (f : S23) (v : S25) : Option ByteArray := if v.f0 = 0 then strings_Repeat.f (⟨#[32]⟩ : ByteArray) f.f2 else writeO f v
def rowL : List S23 → List S25 → List Int → Int → ByteArray → Option (List Int × ByteArray)
 | [], _, x6, _, X => some (x6, X)
 | _ :: _, [], _, _, _ => none
 | f :: fs, v :: vs, x6, b, X => (rowFlag f v x6 b).bind fun y6 => (rowPart f v).bind fun p => if X.size + p.size ≤ 140737488355328 then rowL fs vs y6 (rowBit f b) (X ++ p) else none
def bytesI (s : ByteArray) : List Int := s.data.toList.map (fun b => (b.toNat : Int))
def rowHead (g : Bool) : Int := if g = true then 42 else 32
def table_row.f (l0 : List S23) (g : Bool) (l1 : List S25) : Option (List Int) :=
 (table_nullBytes.f (l0.length + 2) l0).bind fun t => if 0 ≤ t then (if (t : Int).toNat ≤ 281474976710656 then (rowL l0 l1 (List.replicate (t : Int).toNat 0) 0 (⟨#[]⟩ : ByteArray)).bind fun FY => if l0.length ≤ 1000000000 ∧ FY.2.size ≠ 0 ∧ 1 + FY.1.length + FY.2.size ≤ 140737488355328 then some (([rowHead g] : List Int) ++ FY.1 ++ bytesI FY.2) else none else none) else none
def RowInv (w : World) (gr gB : Nat) (rc : Array Value) (vo vf : Value) (x5 x6 : List Int) (X : ByteArray) (W : World) : Prop :=
 Kd.R (Kd.int .u8) 5 W w.heap.size (fun k => k < gB) vo x5 ∧ Kd.R (Kd.int .u8) 5 W w.heap.size (fun k => k < gB) vf x6 ∧ (∀ k, vo.ownBlock = some k → vf.ownBlock ≠ some k) ∧
  W.heap[gr]? = some (.cells rc 46 (0, 0)) ∧ gr < gB ∧ w.heap.size ≤ gB ∧ Lib.IsBuilderF 126 5 gB gB (Lib.byteCells X.data.toList) W ∧ Below w.heap.size w W
theorem builder_below {T e : TypeId} {B b : Nat} {p : Value} {bs : List Value} {W W' : World} (h : Lib.BuilderAtF T e B b p bs W) (hb : Below W.heap.size W W') : Lib.BuilderAtF T e B b p bs W' := by
 have hlt := h.lt
 obtain ⟨hB, v, hv, hown, hne⟩ := h
 exact ⟨hB, v, (hb.block b hlt).trans hv, hown.kept (row := none) ⟨hb.os, hb.tape, hb.output, hb.size, fun k hk _ => hb.block k hk⟩ (Classical.em _), hne⟩
theorem isBuilder_below {T e : TypeId} {B b : Nat} {bs : List Value} {W W' : World} (h : Lib.IsBuilderF T e B b bs W) (hb : Below W.heap.size W W') : Lib.IsBuilderF T e B b bs W' :=
 h.elim (fun x => .inl (builder_below x hb)) (fun x => .inr (builder_below x hb))
theorem isBuilder_lt {T e : TypeId} {B b : Nat} {bs : List Value} {W : World} (h : Lib.IsBuilderF T e B b bs W) : b < W.heap.size := h.elim (·.lt) (·.lt)
theorem RowInv.below {w W W' : World} {gr gB : Nat} {rc : Array Value} {vo vf : Value} {x5 x6 : List Int} {X : ByteArray} (h : RowInv w gr gB rc vo vf x5 x6 X W) (hb : Below W.heap.size W W') : RowInv w gr gB rc vo vf x5 x6 X W' := by
 obtain ⟨h1, h2, h3, h4, h5, h6, h7, h8⟩ := h
 exact ⟨Kd.R_below h1 hb, Kd.R_below h2 hb, h3, Z2 h4 hb, h5, h6, isBuilder_below h7 hb, Z1 h8 hb⟩
theorem RowInv.flag {w W : World} {gr gB : Nat} {rc : Array Value} {vo : Value} {g cap n : Nat} {x5 x6 : List Int} {X : ByteArray} (h : RowInv w gr gB rc vo (.slice (some ⟨g, 0, none⟩) n cap) x5 x6 X W) (i x : Int) (h0 : 0 ≤ i) (hi : i < (x6.length : Int)) :
  RowInv w gr gB rc vo (.slice (some ⟨g, 0, none⟩) n cap) x5 (x6.set i.toNat x) X (W.setCell ⟨g, i.toNat, none⟩ (.int .u8 x)) ∧ g < gB := by
 obtain ⟨h1, h2, h3, h4, h5, h6, h7, h8⟩ := h
 obtain ⟨rfl, hnc, _⟩ := Kd.R_reads' h2
 have hlen : 0 < x6.length := by omega
 obtain ⟨g', cap', e', hbg, hlt, cells, hc⟩ := Kd.R_form h2 hlen
 injection e' with e1 _ _
 injection e1 with e1
 injection e1 with e1 _ _
 subst e1
 have hgB : g < gB := h2.1 g (by simp only [Value.ownBlock])
 have hoth : ∀ k, k ≠ g → (W.setCell ⟨g, i.toNat, none⟩ (.int .u8 x)).heap[k]? = W.heap[k]? := fun k hk => Below.heap_setCell W ⟨g, i.toNat, none⟩ _ k hk
 have hown : (Value.slice (some ⟨g, 0, none⟩) x6.length cap).ownBlock = some g := by
  simp only [Value.ownBlock]
 refine ⟨⟨?_, (Kd.R_put h2 i x).1, h3, ?_, h5, h6, ?_, below_set h8 hbg⟩, hgB⟩
 ·have h1' : Kd.R (Kd.int .u8) 5 W w.heap.size (fun k => k < gB ∧ k ≠ g) vo x5 := Kd.R_far1 h1 rfl (fun e => h3 g e.symm hown)
  exact Kd.R_mono (Kd.R_step h1' (fun k hk _ => hoth k hk.2)) (fun _ hk => hk.1)
 ·exact (hoth gr (fun e => by
   subst e
   rw [hc] at h4
   injection h4 with h4
   injection h4 with _ h4
   cases h4)).trans h4
 have hb : ∀ p, Lib.BuilderAtF 126 5 gB gB p (Lib.byteCells X.data.toList) W → Lib.BuilderAtF 126 5 gB gB p (Lib.byteCells X.data.toList) (W.setCell ⟨g, i.toNat, none⟩ (.int .u8 x)) := by
  rintro p ⟨hB, v, hv, ho, hne⟩
  refine ⟨hB, v, (hoth gB (by omega)).trans hv, ho.kept (row := some g) ⟨rfl, rfl, rfl, by simp [World.setCell], fun k _ hk => hoth k (fun e => hk (by rw [e]))⟩ (Or.inr ?_), hne⟩
  intro e
  rcases ho.2 with ⟨rfl, _⟩ | ⟨q, cap', cur, fz, rfl, hq, _⟩
  ·simp [Value.ownBlock] at e
  simp only [Value.ownBlock, Option.some.injEq] at e
  omega
 exact h7.elim (fun x => .inl (hb _ x)) (fun x => .inr (hb _ x))
theorem RowInv.write {w W W' : World} {gr gB : Nat} {rc : Array Value} {vo vf : Value} {x5 x6 : List Int} {X p : ByteArray} (h : RowInv w gr gB rc vo vf x5 x6 X W) (hw : Lib.BuilderAtF 126 5 gB gB (.pointer (some ⟨gB, 0, none⟩)) (Lib.byteCells X.data.toList ++ Lib.strCells p) W') (hb : Below gB W W') :
  RowInv w gr gB rc vo vf x5 x6 (X ++ p) W' := by
 obtain ⟨h1, h2, h3, h4, h5, h6, h7, h8⟩ := h
 refine ⟨Kd.R_step h1 (fun k hk _ => hb.block k hk), Kd.R_step h2 (fun k hk _ => hb.block k hk), h3, (hb.block gr h5).trans h4, h5, h6, .inr ?_, below_weaken h8 h6 hb⟩
 have e : Lib.byteCells (X ++ p).data.toList = Lib.byteCells X.data.toList ++ Lib.strCells p := by
  rw [Lib.strCells_eq]
  unfold Lib.byteCells
  rw [ByteArray.data_append, Array.toList_append, List.map_append]
 rw [e]
 exact hw
theorem isBuilder_grown {w W w1 : World} {gr gB : Nat} {rc : Array Value} {vo vf : Value} {x5 x6 : List Int} {X : ByteArray} (h : RowInv w gr gB rc vo vf x5 x6 X W) (hg : W.grownBy w1 vo.ownBlock) : Lib.IsBuilderF 126 5 gB gB (Lib.byteCells X.data.toList) w1 := by
 obtain ⟨h1, h2, h3, h4, h5, h6, h7, h8⟩ := h
 have hb : ∀ p, Lib.BuilderAtF 126 5 gB gB p (Lib.byteCells X.data.toList) W → Lib.BuilderAtF 126 5 gB gB p (Lib.byteCells X.data.toList) w1 := by
  rintro p ⟨hB, v, hv, ho, hne⟩
  refine ⟨hB, v, (hg.block gB (blk_lt hv) (fun e => by have := h1.1 gB e.symm; omega)).trans hv, ho.kept (row := vo.ownBlock) hg (Classical.byCases Or.inl (fun hn => Or.inr (fun e => hn ?_))), hne⟩
  rcases ho.2 with ⟨rfl, _⟩ | ⟨q, cap', cur, fz, rfl, hq, _⟩
  ·rfl
  simp only [Value.ownBlock] at e
  have := h1.1 q e.symm
  omega
 exact h7.elim (fun x => .inl (hb _ x)) (fun x => .inr (hb _ x))
theorem builder_away {w W w1 : World} {gr gB : Nat} {rc : Array Value} {vo vf v1 : Value} {x5 x6 : List Int} {X : ByteArray} (h : RowInv w gr gB rc vo vf x5 x6 X W) (hg : W.grownBy w1 vo.ownBlock) (hat : v1.ownBlock = vo.ownBlock ∨ ∃ b, v1.ownBlock = some b ∧ W.heap.size ≤ b) :
  ∀ k, v1.ownBlock = some k → ∀ v, w1.cell? ⟨gB, 1, none⟩ = some v → v.ownBlock ≠ some k := by
 intro k hk v hv hvk
 have hbb := h.2.2.2.2.2.2.1
 obtain ⟨p, hB, u, hu, ho, hne⟩ : ∃ p, Lib.BuilderAtF 126 5 gB gB p (Lib.byteCells X.data.toList) W := hbb.elim (fun x => ⟨_, x⟩) (fun x => ⟨_, x⟩)
 have hgB : w1.heap[gB]? = W.heap[gB]? := hg.block gB (blk_lt hu) (fun e => by have := h.1.1 gB e.symm; omega)
 have e1 : w1.cell? ⟨gB, 1, none⟩ = some u := by rw [Z4 (hgB.trans hu) 1]; rfl
 rw [e1] at hv
 obtain rfl := Option.some.inj hv
 rcases ho.2 with ⟨rfl, _⟩ | ⟨q, cap', cur, fz, rfl, hq, hqq, _⟩
 ·simp [Value.ownBlock] at hvk
 simp only [Value.ownBlock, Option.some.injEq] at hvk
 subst hvk
 have hlt := blk_lt hqq
 rcases hat with e | ⟨b, e, hb⟩
 ·have := h.1.1 q (e ▸ hk)
  omega
 rw [e] at hk
 injection hk with hk
 omega
theorem builder_string (b : Nat) (l : List UInt8) (w : World) (h : Lib.IsBuilderF 126 5 b b (Lib.byteCells l) w) (h0 : l ≠ []) :
  Calls Tryz.prog 112 #[.pointer (some ⟨b, 0, none⟩)] w fun e w' => e = .returned (.string ⟨l.toArray⟩) ∧ Below b w w' ∧ ∀ k o, w.heap[k]? = some o → (∀ v, w.cell? ⟨b, 1, none⟩ = some v → v.ownBlock ≠ some k) → w'.heap[k]? = some o := by
 obtain ⟨p, hB, v, hbk, hown, hne⟩ : ∃ p, Lib.BuilderAtF 126 5 b b p (Lib.byteCells l) w := h.elim (fun x => ⟨_, x⟩) (fun x => ⟨_, x⟩)
 have hl0 : l.length ≠ 0 := by simpa using h0
 rw [Lib.byteCells_length] at hown
 obtain ⟨g, cap, cur, fz, rfl, hbg, hg, hfz, hnc, hcm, hcs, htake⟩ : ∃ g cap cur fz, v = .slice (some ⟨g, 0, none⟩) l.length cap ∧ b ≤ g ∧ w.heap[g]? = some (.cells cur 5 fz) ∧ fz.2 ≤ l.length * 1 ∧ l.length ≤ cap ∧ cap ≤ maxLen ∧ cur.size = cap * 1 ∧ cur.toList.take (l.length * 1) = Lib.byteCells l := by
  rcases hown.2 with ⟨_, hz⟩ | ⟨g, cap, cur, fz, hv, r⟩
  ·exact absurd hz hl0
  exact ⟨g, cap, cur, fz, hv, r⟩
 have c1 : w.drew.cell? ⟨b, 1, none⟩ = some (.slice (some ⟨g, 0, none⟩) l.length cap) := by
  have : w.drew.heap[b]? = some (.cells #[p, .slice (some ⟨g, 0, none⟩) l.length cap] 126 (0, 0)) := hbk
  rw [Lib.cell_of_heap this]; rfl
 have hSD : (Builtin.unsafeSliceData_ #[37] 157 #[.slice (some ⟨g, 0, none⟩) l.length cap]).run Tryz.prog w.drew = .ok (.pointer (some ⟨g, 0, none⟩)) w.drew :=
  Lib.run_unsafeSliceData_row _ _ _ _ _ _ (by omega)
 have hUS : (Builtin.unsafeString_ #[157, 3] 9 #[.pointer (some ⟨g, 0, none⟩), .int .i64 l.length]).run Tryz.prog w.drew = .ok (.string ⟨l.toArray⟩) (w.drew.freeze ⟨g, 0, none⟩ l.length) := by
  refine Lib.run_unsafeString_row w.drew 157 3 9 5 Tryz.underlying157 (by kernel_rfl) g cur.size (by have hg' : w.drew.heap[g]? = some (.cells cur 5 fz) := hg; simp [World.shape?, hg']) l h0 (by omega) (by unfold maxLen at hcm; omega) ?_
  intro j x hx
  have := hown.cells (g := g) rfl j (.int .u8 x.toNat) (by simp [Lib.byteCells, hx])
  exact this
 have hcell : w.cell? ⟨b, 1, none⟩ = some (.slice (some ⟨g, 0, none⟩) l.length cap) := by
  rw [Z4 hbk 1]; rfl
 have hfz : ∀ k, k ≠ g → (w.drew.freeze ⟨g, 0, none⟩ l.length).heap[k]? = w.heap[k]? := by
  intro k hk
  unfold World.freeze
  split
  ·rfl
  simp only [Array.getElem?_modify]
  rw [if_neg (fun e => hk e.symm)]
  rfl
 have hfin : Below b w (w.drew.freeze ⟨g, 0, none⟩ l.length) ∧ ∀ k o, w.heap[k]? = some o → (∀ v, w.cell? ⟨b, 1, none⟩ = some v → v.ownBlock ≠ some k) → (w.drew.freeze ⟨g, 0, none⟩ l.length).heap[k]? = some o := by
  refine ⟨⟨?_, ?_, ?_, ?_, fun k hk => hfz k (by omega)⟩, fun k o ho hv => (hfz k (fun e => hv _ hcell (by subst e; simp [Value.ownBlock]))).trans ho⟩
  ·unfold World.freeze; split <;> rfl
  ·unfold World.freeze; split <;> rfl
  ·unfold World.freeze; split <;> rfl
  unfold World.freeze
  split
  ·exact Nat.le_refl _
  show _ ≤ (Array.modify _ _ _).size
  rw [Array.size_modify]
  exact Nat.le_refl _
 have HF := Z0 hfin
 clear hfin hfz hcell hg hown hbk hbg hne hB hcm hcs htake h hl0
 have hu126 := Tryz.underlying126
 have hu124 := Tryz.underlying124
 go_enter Tryz.func112, Tryz.ntmps112
 go_wp2
 go_region
 all_goals (go_wp2; go_ret; exact ⟨rfl, HF.out⟩)
def strL (n w : Int) : List UInt8 := List.replicate (w - ((decL n).length : Int)).toNat 32 ++ decL n
theorem strN_is (n w : Int) (h0 : -1000000000000000 ≤ n) (h1 : n ≤ 1000000000000000) (hw : 1 ≤ w) (hw2 : w ≤ 254) (hl : ((decL n).length : Int) ≤ w) : val_Str.f 100 n w = some (ofL (strL n w), 0) := by
 have e : val_decimal.f n = some (ofL (decL n)) := by
  unfold val_decimal.f
  rw [if_pos (by omega)]
  rfl
 have hn : val_isNum.f n = some true := by
  unfold val_isNum.f
  rw [if_pos (by omega), decide_eq_true (by omega)]
 unfold val_Str.f
 rw [hn]
 simp only [Option.bind_some, if_true]
 rw [if_neg (by omega)]
 simp only [val_Str.j0]
 rw [if_neg (by simp; omega), e]
 simp only [Option.bind_some]
 rw [ofL_size, if_neg (by omega), wr64 _ (by omega), repeat_is 32 _ (by omega) (by omega)]
 simp only [Option.bind_some]
 rw [ofL_size, List.length_replicate, if_pos (by omega), ofL_append]
 rfl
theorem shown_pad (x5 : ByteArray) (nm : ByteArray) (kd wd : Int) (nl : Bool) (hw : 0 ≤ wd) (hw2 : wd ≤ 254) (hx : (x5.size : Int) ≤ wd) (k : Nat) (hk : 1000002 < k) : cabinetryref03_shown.j1 k x5 nm kd wd nl = some (x5 ++ ofL (List.replicate (wd - x5.size).toNat 32)) := by
 obtain ⟨q, rfl⟩ : ∃ q, k = q + 1 := ⟨k - 1, by omega⟩
 simp only [cabinetryref03_shown.j1]
 rw [wr64 _ (by omega), times_is 32 _ (by omega) q (by omega)]
 simp only [Option.bind_some]
 rw [ofL_size, List.length_replicate, if_pos (by omega)]
theorem shown_none (nm : ByteArray) (kd wd : Int) (nl : Bool) (hw : 0 ≤ wd) (hw2 : wd ≤ 254) (k : Nat) (hk : 1000002 < k) : cabinetryref03_shown.j1 k (⟨#[]⟩ : ByteArray) nm kd wd nl = some (ofL (List.replicate wd.toNat 32)) := by
 have e : (⟨#[]⟩ : ByteArray).size = 0 := rfl
 rw [shown_pad (⟨#[]⟩ : ByteArray) nm kd wd nl hw hw2 (by rw [e]; omega) k hk, e]
 have e2 : (⟨#[]⟩ : ByteArray) = ofL [] := rfl
 rw [e2, ofL_append]
 simp
theorem truth_is (b : Bool) (nm : ByteArray) (kd wd : Int) (nl : Bool) (vk : Int) (vs : ByteArray) : table_writeTruth.f nm kd wd nl vk (if b = true then 1 else 0) vs = some (if b = true then (⟨#[84]⟩ : ByteArray) else (⟨#[70]⟩ : ByteArray)) := by
 cases b
 rotate_left
 ·unfold table_writeTruth.f
  simp only [if_true]
  rw [wr64 (1 + 1) (by omega), if_pos (by decide), if_pos (by decide), if_pos (by decide)]
  kernel_rfl
 unfold table_writeTruth.f
 simp only [Bool.false_eq_true, if_false]
 rw [wr64 (0 + 1) (by omega), if_pos (by decide), if_pos (by decide), if_pos (by decide)]
 kernel_rfl
theorem shown_num (n : Int) (x5 nm : ByteArray) (kd wd : Int) (nl : Bool) (vk : Int) (vs : ByteArray) (h0 : -1000000000000000 ≤ n) (h1 : n ≤ 1000000000000000) (hw : 0 ≤ wd) (hw2 : wd ≤ 254) (hl : ((decL n).length : Int) ≤ wd) :
  Ev (fun k => cabinetryref03_shown.j0 k x5 false nm kd wd nl vk n vs) (ofL (strL n wd)) := by
 obtain ⟨K, hK⟩ := Written_is n ⟨h0, h1⟩
 refine ⟨K + 1000010, fun k hk => ?_⟩
 obtain ⟨q, rfl⟩ : ∃ q, k = q + 1 := ⟨k - 1, by omega⟩
 have e : cabinetryref01_Written.f q n = some (ofL (decL n)) := hK q (by omega)
 show cabinetryref03_shown.j0 (q + 1) x5 false nm kd wd nl vk n vs = _
 simp only [cabinetryref03_shown.j0]
 rw [if_neg (by simp), e]
 simp only [Option.bind_some]
 rw [ofL_size, wr64 _ (by omega), times_is 32 _ (by omega) q (by omega)]
 simp only [Option.bind_some]
 rw [ofL_size, List.length_replicate, if_pos (by omega), ofL_append]
 rfl
theorem field_kinds {f : S23} (hf : fS f = true) : (f.f1 = 1 ∧ f.f2 = 1) ∨ (f.f1 = 2 ∧ 1 ≤ f.f2 ∧ f.f2 ≤ 15) ∨ (f.f1 = 3 ∧ f.f2 = 8) ∨ (f.f1 = 4 ∧ 1 ≤ f.f2 ∧ f.f2 ≤ 254) ∨ (f.f1 = 5 ∧ f.f2 = 8) := by
 unfold fS fieldS at hf
 simp only [Bool.and_eq_true, decide_eq_true_eq] at hf
 obtain ⟨_, hk, h1, h2⟩ := hf
 have hk' : 1 ≤ f.f1 ∧ f.f1 ≤ 5 := by simpa [kindFound] using hk
 unfold kindLo at h1
 unfold kindHi at h2
 rw [hk] at h1
 simp only [if_true] at h1
 rcases (show f.f1 = 1 ∨ f.f1 = 2 ∨ f.f1 = 3 ∨ f.f1 = 4 ∨ f.f1 = 5 by omega) with e | e | e | e | e <;> rw [e] at h1 h2 ⊢ <;> simp at h1 h2 ⊢ <;> omega
theorem dec8 {n : Int} (h0 : 0 ≤ n) (h1 : n ≤ 99999999) : (decL n).length ≤ 8 := decLn_len n 7 h0 (by omega)
theorem part_is (f : S23) (pg : Int) (v : S25) (hf : fS f = true) (h : holdsS f pg v = true) :
  ∃ p, rowPart f v = some p ∧ (p.size : Int) = f.f2 ∧ Ev (fun k => cabinetryref03_shown.f k f.f0 f.f1 f.f2 f.f3 v.f0 v.f1 v.f2) p := by
 have hk := field_kinds hf
 have hw : 1 ≤ f.f2 ∧ f.f2 ≤ 254 := by omega
 unfold rowPart
 by_cases h0 : v.f0 = 0
 ·refine ⟨ofL (List.replicate f.f2.toNat 32), ?_, by rw [ofL_size, List.length_replicate]; omega, 1000010, fun k hk => ?_⟩
  ·rw [if_pos h0]
   exact repeat_is 32 _ (by omega) (by omega)
  show cabinetryref03_shown.f k f.f0 f.f1 f.f2 f.f3 v.f0 v.f1 v.f2 = _
  unfold cabinetryref03_shown.f
  rw [if_pos h0, shown_none _ _ _ _ (by omega) (by omega) k (by omega)]
 rw [if_neg h0]
 unfold holdsS at h
 rw [if_neg h0] at h
 simp only [Bool.and_eq_true, decide_eq_true_eq] at h
 obtain ⟨hv, hkind, hrest⟩ := h
 unfold valS at hv
 split at hv
 ·omega
 split at hv
 rotate_left
 ·omega
 rename_i _ hok
 unfold valOK at hok
 unfold writeO
 rcases hk with ⟨e, e2⟩ | ⟨e, e2, e3⟩ | ⟨e, e2⟩ | ⟨e, e2, e3⟩ | ⟨e, e2⟩
 ·have ek : v.f0 = 1 := by rw [hkind, e]; rfl
  rw [ek] at hok
  simp at hok
  rw [if_pos e]
  rcases hok.2 with z | z
  ·refine ⟨⟨#[70]⟩, ?_, by rw [e2]; rfl, 1000010, fun k hk => ?_⟩
   ·rw [z]
    exact truth_is false _ _ _ _ _ _
   show cabinetryref03_shown.f k f.f0 f.f1 f.f2 f.f3 v.f0 v.f1 v.f2 = _
   unfold cabinetryref03_shown.f
   rw [if_neg h0, if_pos e, if_neg (by omega), shown_pad _ _ _ _ _ (by omega) (by omega) (by rw [e2]; decide) k (by omega), e2]
   rfl
  refine ⟨⟨#[84]⟩, ?_, by rw [e2]; rfl, 1000010, fun k hk => ?_⟩
  ·rw [z]
   exact truth_is true _ _ _ _ _ _
  show cabinetryref03_shown.f k f.f0 f.f1 f.f2 f.f3 v.f0 v.f1 v.f2 = _
  unfold cabinetryref03_shown.f
  rw [if_neg h0, if_pos e, if_pos z, shown_pad _ _ _ _ _ (by omega) (by omega) (by rw [e2]; decide) k (by omega), e2]
  rfl
 ·have ek : v.f0 = 2 := by rw [hkind, e]; rfl
  rw [ek] at hok
  simp at hok
  rw [if_neg (by omega), if_pos e]
  rw [if_neg (by omega), if_pos e, decide_eq_true_eq] at hrest
  refine ⟨ofL (strL v.f1 f.f2), ?_, ?_, ?_⟩
  ·unfold table_writeNum.f
   rw [strN_is v.f1 f.f2 (by omega) (by omega) (by omega) (by omega) hrest]
   rfl
  ·rw [ofL_size]
   unfold strL
   rw [List.length_append, List.length_replicate]
   omega
  obtain ⟨K, hK⟩ := shown_num v.f1 (⟨#[]⟩ : ByteArray) f.f0 f.f1 f.f2 f.f3 v.f0 v.f2 (by omega) (by omega) (by omega) (by omega) hrest
  refine ⟨K, fun k hk => ?_⟩
  show cabinetryref03_shown.f k f.f0 f.f1 f.f2 f.f3 v.f0 v.f1 v.f2 = _
  unfold cabinetryref03_shown.f
  rw [if_neg h0, if_neg (by omega), if_neg (by omega), if_neg (by omega), if_neg (by omega)]
  exact hK k hk
 ·have ek : v.f0 = 3 := by rw [hkind, e]; rfl
  rw [ek] at hok
  simp at hok
  rw [if_neg (by omega), if_neg (by omega), if_pos e]
  obtain ⟨s, s1, s2, K, hK⟩ := stamp_is v.f1 (by omega) (by omega)
  refine ⟨s, ?_, by omega, K + 1000010, fun k hk => ?_⟩
  ·unfold table_writeDate.f
   rw [s1]
   rfl
  have q : cabinetryref01_Stamp.f k v.f1 = some (s, 0) := hK k (by omega)
  show cabinetryref03_shown.f k f.f0 f.f1 f.f2 f.f3 v.f0 v.f1 v.f2 = _
  unfold cabinetryref03_shown.f
  rw [if_neg h0, if_neg (by omega), if_pos e, q]
  simp only [Option.bind_some]
  rw [shown_pad _ _ _ _ _ (by omega) (by omega) (by omega) k (by omega), s2, e2]
  have : s = ofL s.data.toList := rfl
  rw [this, ofL_append]
  simp
 ·have ek : v.f0 = 4 := by rw [hkind, e]; rfl
  rw [if_pos e, Bool.and_eq_true, decide_eq_true_eq] at hrest
  rw [if_neg (by omega), if_neg (by omega), if_neg (by omega), if_pos e]
  refine ⟨v.f2 ++ ofL (List.replicate (f.f2 - v.f2.size).toNat 32), ?_, ?_, 1000010, fun k hk => ?_⟩
  ·unfold table_writeText.f
   rw [wr64 _ (by omega), repeat_is 32 _ (by omega) (by omega)]
   simp only [Option.bind_some]
   rw [ofL_size, List.length_replicate, if_pos (by omega)]
  ·rw [ByteArray.size_append, ofL_size, List.length_replicate]
   omega
  show cabinetryref03_shown.f k f.f0 f.f1 f.f2 f.f3 v.f0 v.f1 v.f2 = _
  unfold cabinetryref03_shown.f
  rw [if_neg h0, if_neg (by omega), if_neg (by omega), if_pos e]
  exact shown_pad _ _ _ _ _ (by omega) (by omega) hrest.1 k (by omega)
 have ek : v.f0 = 2 := by rw [hkind, e]; rfl
 rw [if_neg (by omega), if_neg (by omega), if_pos e, decide_eq_true_eq] at hrest
 rw [if_neg (by omega), if_neg (by omega), if_neg (by omega), if_neg (by omega), if_pos e]
 have hl := dec8 hrest.1 hrest.2
 unfold table_writeMemo.f
 by_cases z : v.f1 = 0
 ·refine ⟨ofL (List.replicate f.f2.toNat 32), ?_, by rw [ofL_size, List.length_replicate]; omega, 1000010, fun k hk => ?_⟩
  ·rw [if_pos z, repeat_is 32 _ (by omega) (by omega)]
   rfl
  obtain ⟨q, rfl⟩ : ∃ q, k = q + 1 := ⟨k - 1, by omega⟩
  show cabinetryref03_shown.f (q + 1) f.f0 f.f1 f.f2 f.f3 v.f0 v.f1 v.f2 = _
  unfold cabinetryref03_shown.f
  rw [if_neg h0, if_neg (by omega), if_neg (by omega), if_neg (by omega), if_pos e]
  simp only [cabinetryref03_shown.j0]
  rw [if_pos (by simpa using z), shown_none _ _ _ _ (by omega) (by omega) q (by omega)]
 refine ⟨ofL (strL v.f1 f.f2), ?_, ?_, ?_⟩
 ·rw [if_neg z]
  unfold table_writeNum.f
  rw [strN_is v.f1 f.f2 (by omega) (by omega) (by omega) (by omega) (by omega)]
  rfl
 ·rw [ofL_size]
  unfold strL
  rw [List.length_append, List.length_replicate]
  omega
 obtain ⟨K, hK⟩ := shown_num v.f1 (⟨#[]⟩ : ByteArray) f.f0 f.f1 f.f2 f.f3 v.f0 v.f2 (by omega) (by omega) (by omega) (by omega) (by omega)
 refine ⟨K, fun k hk => ?_⟩
 show cabinetryref03_shown.f k f.f0 f.f1 f.f2 f.f3 v.f0 v.f1 v.f2 = _
 unfold cabinetryref03_shown.f
 rw [if_neg h0, if_neg (by omega), if_neg (by omega), if_neg (by omega), if_pos e, show (v.f1 == 0) = false by simpa using z]
 exact hK k hk
theorem bytesI_len (s : ByteArray) : (bytesI s).length = s.size := by
 unfold bytesI
 rw [List.length_map]
 rfl
theorem bytesWorld_below (W : World) (e : TypeId) (s : ByteArray) : Below W.heap.size W (Lib.bytesWorld W e s) :=
 ⟨rfl, rfl, rfl, by rw [Lib.bytesWorld_size]; omega, fun j hj => Lib.bytesWorld_at_old W e s j hj⟩
theorem bytesWorld_C (W : World) (e : TypeId) (s : ByteArray) (hm : s.size ≤ 140737488355328) : (Kd.int .u8).C (Lib.bytesWorld W e s) (some ⟨W.heap.size, 0, none⟩) (bytesI s).length (bytesI s) := by
 refine ⟨rfl, by rw [bytesI_len]; omega, fun _ => ⟨_, rfl, fun j p hp => ⟨[.int .u8 p], rfl, rfl, fun i u hu => ?_⟩⟩⟩
 have hj : j < s.size := by
  have := (List.getElem?_eq_some_iff.1 hp).1
  rw [bytesI_len] at this
  exact this
 have hi : i = 0 := by
  have := (List.getElem?_eq_some_iff.1 hu).1
  simp at this
  exact this
 subst hi
 have hc := Lib.bytesWorld_cell W e s j hj
 have hv : p = ((s.data.toList.getD j 0).toNat : Int) := by
  unfold bytesI at hp
  rw [List.getElem?_map] at hp
  obtain ⟨b, hb, rfl⟩ := Option.map_eq_some_iff.1 hp
  simp [List.getD, hb]
 simp at hu
 subst hu
 rw [hv, ← hc]
 have e1 : (⟨W.heap.size, 0, none⟩ : Addr).add (j * (Kd.int .u8).sz + 0) = ⟨W.heap.size, j, none⟩ := by
  show (⟨W.heap.size, 0, none⟩ : Addr).add (j * 1 + 0) = _
  rw [Nat.mul_one]
  cases j <;> simp [Addr.add]
 rw [e1]
theorem conv_step {P : Program} {ops : Array Oper} {Q : Exit → Act → World → Prop} {oi : Oper} {a : Act} {W : World} {K : Act → World → Prop} {src dst e : TypeId} {u : TypeDesc} {x : Operand} {N : Option Tmp}
  (hw : Region.wanted oi (yielded ops a.tmps) = true) (hN : oi.dst = N) (hop : oi.op = .convert src dst x) (s : ByteArray) (hx : a.eval x = .string s)
  (hs : P.underlying src = some u) (hd : P.underlying dst = some (.slice e)) (he : P.underlying e = some (.int .u8)) (hm : s.size ≤ 140737488355328)
  (h : ∀ g, g = W.heap.size → ∀ w1 c, (Kd.int .u8).C w1 (some ⟨g, 0, none⟩) (bytesI s).length (bytesI s) → Below W.heap.size W w1 → g < w1.heap.size → K (a.put N (.slice (some ⟨g, 0, none⟩) (bytesI s).length c)) w1) :
  if Region.wanted oi (yielded ops a.tmps) = true then Oper.wp P oi a W K Q else K (a.put N undef) W := by
 rw [if_pos hw]
 subst hN
 unfold Oper.wp
 have hrun : (execOp a.eval oi).run P W = .ok (.value (.slice (some ⟨W.heap.size, 0, none⟩) s.size (grownCap W s.size 0 e))) (Lib.bytesWorld W e s) := by
  unfold execOp
  simp [hop, hx, Lib.run_convert_string_bytes W src dst e s hs hd he]
 rw [hrun]
 have := h _ rfl _ (grownCap W s.size 0 e) (bytesWorld_C W e s hm) (bytesWorld_below W e s) (by rw [Lib.bytesWorld_size]; omega)
 rw [bytesI_len] at this
 exact this
theorem own_ge {A : Option Addr} {g n m c : Nat} (hA : A = some ⟨g, 0, none⟩) (hg : g = n) : ∀ k, (Value.slice A m c).ownBlock = some k → n ≤ k := by
 subst hA hg
 intro k hk
 simp [Value.ownBlock] at hk
 omega
theorem own_lt {A : Option Addr} {g n m c : Nat} (hA : A = some ⟨g, 0, none⟩) (hg : g < n) : ∀ k, (Value.slice A m c).ownBlock = some k → k < n := by
 subst hA
 intro k hk
 simp [Value.ownBlock] at hk
 omega
section
attribute [local go_sem] max2_int min2_int max_two min_two max_three min_three max_four min_four
mutual
def cabinetryref03_row.j0 : Nat → List (S23) → List Int → Bool → List (S25) → Option (List Int)
 | 0, _, _, _, _ => none
 | k + 1, x0, x5, x135000, x135001 => (cabinetryref03_nulls.f k x0).bind fun t139 => (if 0 ≤ t139 then (if (t139 : Int).toNat ≤ 281474976710656 then (cabinetryref03_row.l0 k x0 x5 (List.replicate (t139 : Int).toNat 0) 0 0 x135000 x135001) else (none)) else (none))
def cabinetryref03_row.l0 : Nat → List (S23) → List Int → List Int → Int → Int → Bool → List (S25) → Option (List Int)
 | 0, _, _, _, _, _, _, _ => none
 | k + 1, x0, x5, x6, x7, x8, x135000, x135001 => if x8 < (x0.length : Int) then (if 0 ≤ x8 then (if ((rd_T23 x0 x8).f3 = true) then (if x8 < (x135001.length : Int) then (if ((rd_T25 x135001 x8).f0) = 0 then (if 0 ≤ (wrap64 (Int.tdiv x7 8)) then (if (wrap64 (Int.tdiv x7 8)) < (x6.length : Int) then (if 0 ≤ (Int.tmod x7 8) then (cabinetryref03_row.j2 k x0 x5 (x6.set ((wrap64 (Int.tdiv x7 8)) : Int).toNat (((rd x6 (wrap64 (Int.tdiv x7 8))) + (shl .u8 1 (Int.tmod x7 8))) % 256)) x7 x8 x135000 x135001) else (none)) else (none)) else (none)) else (cabinetryref03_row.j2 k x0 x5 x6 x7 x8 x135000 x135001)) else (none)) else (cabinetryref03_row.j3 k x0 x5 x6 x7 x8 x135000 x135001)) else (none)) else (if x5.length + x6.length < 140737488355328 then (cabinetryref03_row.l1 k x0 (x5 ++ x6) 0 x135000 x135001) else (none))
def cabinetryref03_row.j3 : Nat → List (S23) → List Int → List Int → Int → Int → Bool → List (S25) → Option (List Int)
 | 0, _, _, _, _, _, _, _ => none
 | k + 1, x0, x5, x6, x7, x8, x135000, x135001 => cabinetryref03_row.l0 k x0 x5 x6 x7 (wrap64 (x8 + 1)) x135000 x135001
def cabinetryref03_row.j2 : Nat → List (S23) → List Int → List Int → Int → Int → Bool → List (S25) → Option (List Int)
 | 0, _, _, _, _, _, _, _ => none
 | k + 1, x0, x5, x6, x7, x8, x135000, x135001 => cabinetryref03_row.j3 k x0 x5 x6 (wrap64 (x7 + 1)) x8 x135000 x135001
def cabinetryref03_row.l1 : Nat → List (S23) → List Int → Int → Bool → List (S25) → Option (List Int)
 | 0, _, _, _, _, _ => none
 | k + 1, x0, x5, x9, x135000, x135001 => if x9 < (x0.length : Int) then (if 0 ≤ x9 then (if x9 < (x135001.length : Int) then ((cabinetryref03_shown.f k ((rd_T23 x0 x9).f0) ((rd_T23 x0 x9).f1) ((rd_T23 x0 x9).f2) ((rd_T23 x0 x9).f3) ((rd_T25 x135001 x9).f0) ((rd_T25 x135001 x9).f1) ((rd_T25 x135001 x9).f2)).bind fun t152 => ((some (bytesI t152)).bind fun t153 => (if x5.length + t153.length < 140737488355328 then (cabinetryref03_row.l1 k x0 (x5 ++ t153) (wrap64 (x9 + 1)) x135000 x135001) else (none)))) else (none)) else (none)) else (some x5)
end
def cabinetryref03_row.f (k : Nat) (l0 : List (S23)) (a1_0 : Bool) (l1_1 : List (S25)) : Option (List Int) := (some (([32] : List Int) : List Int)).bind fun y135 => (if a1_0 = true then (if 0 < (y135.length : Int) then (cabinetryref03_row.j0 k l0 (y135.set (0 : Int).toNat 42) a1_0 l1_1) else (none)) else (cabinetryref03_row.j0 k l0 y135 a1_0 l1_1))
theorem cabinetryref03_row.mono_l : ∀ k, (∀ y0 y1 y2 y3, LeO (cabinetryref03_row.j0 k y0 y1 y2 y3) (cabinetryref03_row.j0 (k + 1) y0 y1 y2 y3)) ∧ (∀ y0 y1 y2 y3 y4 y5 y6, LeO (cabinetryref03_row.l0 k y0 y1 y2 y3 y4 y5 y6) (cabinetryref03_row.l0 (k + 1) y0 y1 y2 y3 y4 y5 y6)) ∧ (∀ y0 y1 y2 y3 y4 y5 y6, LeO (cabinetryref03_row.j3 k y0 y1 y2 y3 y4 y5 y6) (cabinetryref03_row.j3 (k + 1) y0 y1 y2 y3 y4 y5 y6)) ∧ (∀ y0 y1 y2 y3 y4 y5 y6, LeO (cabinetryref03_row.j2 k y0 y1 y2 y3 y4 y5 y6) (cabinetryref03_row.j2 (k + 1) y0 y1 y2 y3 y4 y5 y6)) ∧ (∀ y0 y1 y2 y3 y4, LeO (cabinetryref03_row.l1 k y0 y1 y2 y3 y4) (cabinetryref03_row.l1 (k + 1) y0 y1 y2 y3 y4))
 | 0 => ⟨fun _ _ _ _ r h => by simp [cabinetryref03_row.j0] at h, fun _ _ _ _ _ _ _ r h => by simp [cabinetryref03_row.l0] at h, fun _ _ _ _ _ _ _ r h => by simp [cabinetryref03_row.j3] at h, fun _ _ _ _ _ _ _ r h => by simp [cabinetryref03_row.j2] at h, fun _ _ _ _ _ r h => by simp [cabinetryref03_row.l1] at h⟩
 | k + 1 => by
  obtain ⟨ih0, ih1, ih2, ih3, ih4⟩ := cabinetryref03_row.mono_l k
  refine ⟨?_, ?_, ?_, ?_, ?_⟩
  ·intro y0 y1 y2 y3
   unfold cabinetryref03_row.j0
   repeat' first
   | (with_reducible exact ih0 _ _ _ _)
   | (with_reducible exact ih1 _ _ _ _ _ _ _)
   | (with_reducible exact ih2 _ _ _ _ _ _ _)
   | (with_reducible exact ih3 _ _ _ _ _ _ _)
   | (with_reducible exact ih4 _ _ _ _ _)
   | (with_reducible exact cabinetryref03_nulls.mono _ _)
   | (with_reducible exact cabinetryref03_shown.mono _ _ _ _ _ _ _ _)
   | (with_reducible exact LeO.refl _)
   | (with_reducible exact LeO.none _)
   | (with_reducible refine LeO.ite ?_ ?_)
   | (with_reducible refine LeO.bind ?_ (fun _ => ?_))
  ·intro y0 y1 y2 y3 y4 y5 y6
   unfold cabinetryref03_row.l0
   repeat' first
   | (with_reducible exact ih0 _ _ _ _)
   | (with_reducible exact ih1 _ _ _ _ _ _ _)
   | (with_reducible exact ih2 _ _ _ _ _ _ _)
   | (with_reducible exact ih3 _ _ _ _ _ _ _)
   | (with_reducible exact ih4 _ _ _ _ _)
   | (with_reducible exact cabinetryref03_nulls.mono _ _)
   | (with_reducible exact cabinetryref03_shown.mono _ _ _ _ _ _ _ _)
   | (with_reducible exact LeO.refl _)
   | (with_reducible exact LeO.none _)
   | (with_reducible refine LeO.ite ?_ ?_)
   | (with_reducible refine LeO.bind ?_ (fun _ => ?_))
  ·intro y0 y1 y2 y3 y4 y5 y6
   unfold cabinetryref03_row.j3
   repeat' first
   | (with_reducible exact ih0 _ _ _ _)
   | (with_reducible exact ih1 _ _ _ _ _ _ _)
   | (with_reducible exact ih2 _ _ _ _ _ _ _)
   | (with_reducible exact ih3 _ _ _ _ _ _ _)
   | (with_reducible exact ih4 _ _ _ _ _)
   | (with_reducible exact cabinetryref03_nulls.mono _ _)
   | (with_reducible exact cabinetryref03_shown.mono _ _ _ _ _ _ _ _)
   | (with_reducible exact LeO.refl _)
   | (with_reducible exact LeO.none _)
   | (with_reducible refine LeO.ite ?_ ?_)
   | (with_reducible refine LeO.bind ?_ (fun _ => ?_))
  ·intro y0 y1 y2 y3 y4 y5 y6
   unfold cabinetryref03_row.j2
   repeat' first
   | (with_reducible exact ih0 _ _ _ _)
   | (with_reducible exact ih1 _ _ _ _ _ _ _)
   | (with_reducible exact ih2 _ _ _ _ _ _ _)
   | (with_reducible exact ih3 _ _ _ _ _ _ _)
   | (with_reducible exact ih4 _ _ _ _ _)
   | (with_reducible exact cabinetryref03_nulls.mono _ _)
   | (with_reducible exact cabinetryref03_shown.mono _ _ _ _ _ _ _ _)
   | (with_reducible exact LeO.refl _)
   | (with_reducible exact LeO.none _)
   | (with_reducible refine LeO.ite ?_ ?_)
   | (with_reducible refine LeO.bind ?_ (fun _ => ?_))
  ·intro y0 y1 y2 y3 y4
   unfold cabinetryref03_row.l1
   repeat' first
   | (with_reducible exact ih0 _ _ _ _)
   | (with_reducible exact ih1 _ _ _ _ _ _ _)
   | (with_reducible exact ih2 _ _ _ _ _ _ _)
   | (with_reducible exact ih3 _ _ _ _ _ _ _)
   | (with_reducible exact ih4 _ _ _ _ _)
   | (with_reducible exact cabinetryref03_nulls.mono _ _)
   | (with_reducible exact cabinetryref03_shown.mono _ _ _ _ _ _ _ _)
   | (with_reducible exact LeO.refl _)
   | (with_reducible exact LeO.none _)
   | (with_reducible refine LeO.ite ?_ ?_)
   | (with_reducible refine LeO.bind ?_ (fun _ => ?_))
theorem cabinetryref03_row.mono : ∀ a0 a1 a2 k, LeO (cabinetryref03_row.f k a0 a1 a2) (cabinetryref03_row.f (k + 1) a0 a1 a2) := by
 intro a0 a1 a2 k
 obtain ⟨ih0, ih1, ih2, ih3, ih4⟩ := cabinetryref03_row.mono_l k
 unfold cabinetryref03_row.f
 repeat' first
   | (with_reducible exact ih0 _ _ _ _)
   | (with_reducible exact ih1 _ _ _ _ _ _ _)
   | (with_reducible exact ih2 _ _ _ _ _ _ _)
   | (with_reducible exact ih3 _ _ _ _ _ _ _)
   | (with_reducible exact ih4 _ _ _ _ _)
   | (with_reducible exact cabinetryref03_nulls.mono _ _)
   | (with_reducible exact cabinetryref03_shown.mono _ _ _ _ _ _ _ _)
   | (with_reducible exact LeO.refl _)
   | (with_reducible exact LeO.none _)
   | (with_reducible refine LeO.ite ?_ ?_)
   | (with_reducible refine LeO.bind ?_ (fun _ => ?_))
def cabinetryref03_row.T11 : Bool × List (List Nat × List Nat) := (true, [([], []), ([], []), ([1], [1]), ([0, 2], [0, 2]), ([3], [3]), ([], []), ([5], [5]), ([6], [6]), ([4, 7], [4, 7]), ([0, 2, 0, 1, 2, 3, 4, 5, 6, 7, 8], [0, 2]), ([9, 8, 0, 1, 2, 3, 4, 5, 6, 7, 8], [8, 9])])
def cabinetryref03_row.B11 : List Nat := [0, 0, 2, 7, 15, 0, 32, 96, 255, 511, 1023]
theorem cabinetryref03_row.tab11 : rtab .any (opsOf Tryz.f61 11) = cabinetryref03_row.T11 := by kernel_rfl
theorem cabinetryref03_row.bits11 : waitsOk cabinetryref03_row.T11.2 cabinetryref03_row.B11 = true := by kernel_rfl
def cabinetryref03_row.T17 : Bool × List (List Nat × List Nat) := (true, [([], []), ([], []), ([], []), ([1, 2], [1, 2]), ([3], [3]), ([], []), ([5], [5]), ([], []), ([6, 7], [6, 7]), ([8], [8]), ([4, 9], [4, 9]), ([10], [10]), ([0, 11, 10], [0, 11]), ([12, 12, 0, 1, 2, 3, 4, 5, 6, 7, 8, 9, 10, 11, 12], [0, 12])])
def cabinetryref03_row.B17 : List Nat := [0, 0, 0, 6, 14, 0, 32, 0, 224, 480, 1022, 2046, 4095, 8191]
theorem cabinetryref03_row.tab17 : rtab .any (opsOf Tryz.f61 17) = cabinetryref03_row.T17 := by kernel_rfl
theorem cabinetryref03_row.bits17 : waitsOk cabinetryref03_row.T17.2 cabinetryref03_row.B17 = true := by kernel_rfl
theorem cabinetryref03_row.calls (k : Nat) (A0 : Option Addr) (c0 : Nat) (l0 : List (S23)) (a1_0 : Bool) (A1_1 : Option Addr) (c1_1 : Nat) (l1_1 : List (S25)) (r : List Int) (w : World) (hr0 : Kd.C k23 w A0 l0.length l0) (hc0 : l0.length ≤ c0) (hr1_1 : Kd.C k25 w A1_1 l1_1.length l1_1) (hc1_1 : l1_1.length ≤ c1_1) (h : cabinetryref03_row.f k l0 a1_0 l1_1 = some r) :
  Calls Tryz.prog 61 #[.slice A0 l0.length c0, .agg #[.bool a1_0, .slice A1_1 l1_1.length c1_1]] w fun e w' => ∃ v0_ : Value, e = .returned (v0_) ∧ Kd.R (Kd.int .u8) 5 w' w.heap.size (fun _ => True) v0_ r ∧ Below w.heap.size w w' := by
 have hu46 := Tryz.underlying46
 have hu23 := Tryz.underlying23
 have hu25 := Tryz.underlying25
 have HR0 := Z0 hr0
 have HC0 := Z0 hc0
 clear hr0 hc0
 have HR1_1 := Z0 hr1_1
 have HC1_1 := Z0 hc1_1
 clear hr1_1 hc1_1
 have HB := Z0 (Below.refl w.heap.size w)
 unfold cabinetryref03_row.f at h
 have H := h
 clear h
 obtain ⟨y135, hy135⟩ : ∃ y_ : List Int, y_ = (([32] : List Int)) := ⟨_, rfl⟩
 replace H : (if a1_0 = true then (if 0 < (y135.length : Int) then (cabinetryref03_row.j0 k l0 (y135.set (0 : Int).toNat 42) a1_0 l1_1) else (none)) else (cabinetryref03_row.j0 k l0 y135 a1_0 l1_1)) = some r := by rw [hy135]; exact H
 have Ny135 := Z0 hy135
 clear hy135
 have HC3 := Z0 H
 clear H
 go_enter Tryz.func61, Tryz.ntmps61
 go_upto_if 12 with (first | ((with_reducible refine Z9 (N := 3) rfl ?_); refine bx (N := 3) (cs := #[.bool a1_0, .slice A1_1 l1_1.length c1_1]) (t := 46) ?_; intro gb134 hg w4 hbox hb; have BK134 := Z0 hbox; have GE134 := ge hg V0; replace HB := Z0 (Z1 V0 hb); clear hb hbox hg) | ((with_reducible refine Z9 (N := 10) rfl ?_); refine Kd.R_lit (Kd.int .u8) _ 5 ?hg (N := 10) ?hd (xs := ([32] : List Int)) (inner := [.int .u8 32]) (ok := fun _ => True) (okp := fun _ => True) ?hr ?hp (fun _ hk => hk) trivial (Below.refl _ _) (Nat.le_refl _) (by simp) ?_; (case hd => rfl); (case hg => rfl); (case hr => go_simp; try rfl); (case hp => exact (Reps.one (show Kd.M (Kd.int .u8) _ _ _ 32 [.int .u8 32] from rfl) (Reps.none _ _))); intro v136 w5 ho6 hb hg_ hnew_; clear hg_ hnew_; (first | rw [← Ny135.out] at ho6 | (simp only [Int.reduceToNat] at ho6; rw [← Ny135.out] at ho6)); have HO137 := Z0 (Kd.R_lower ho6 (below_size V0)); replace BK134 := Z0 (Z2 (g := gb134) (o := .cells #[.bool a1_0, .slice A1_1 l1_1.length c1_1] 46 (0, 0)) bk hb); replace HB := Z0 (Z1 V0 hb); clear hb ho6; obtain ⟨hcz7_0, hcz7_1⟩ := bc2 BK134.out; obtain ⟨hfz7_0, hfz7_1⟩ := bf2 BK134.out))
 (try simp only [Act.put, Z3, Z6, Z7])
 go_cut [] (fun wc => ∃ (kq : Nat) (x5_2 : List Int), Aside0 (cabinetryref03_row.j0 kq l0 x5_2 a1_0 l1_1 = some r) ∧ Aside0 (kq ≤ k) ∧ Aside0 (Kd.R (Kd.int .u8) 5 wc w.heap.size (fun _ => True) v136 x5_2) ∧ Aside0 (wc.heap[gb134]? = some (.cells #[.bool a1_0, (.slice A1_1 l1_1.length c1_1)] 46 (0, 0))) ∧ Aside0 (Below w.heap.size w wc))
 case first =>
  have H := HC3.out
  clear HC3
  by_cases c8 : a1_0 = true
  rotate_left
  ·replace c8 := Bool.eq_false_iff.mpr c8
   subst c8
   have H1 : (cabinetryref03_row.j0 k l0 y135 false l1_1) = some r := by rw [if_neg (show ¬ (false = true) by decide)] at H; exact H
   clear H
   have H := H1
   clear H1
   have H' := Z0 H
   clear H
   go_wp2
   go_meet
   case rel => exact ⟨_, (y135), H', ⟨by first | omega | exact Nat.le_refl _⟩, ⟨by (with_reducible repeat (first | apply Kd.R_alloc | apply Kd.R_drewN | apply Kd.R_drew)); exact HO137.out⟩, ⟨bk⟩, ⟨V0⟩⟩
  subst c8
  have H1 : (if 0 < (y135.length : Int) then (cabinetryref03_row.j0 k l0 (y135.set (0 : Int).toNat 42) true l1_1) else (none)) = some r := by rw [if_pos rfl] at H; exact H
  clear H
  have H := H1
  clear H1
  by_cases c9 : 0 < (y135.length : Int)
  rotate_left
  ·rw [if_neg c9] at H
   exact absurd H (by simp)
  rw [if_pos c9] at H
  have c9b0 : decide (0 < (y135.length : Int)) = true := decide_eq_true c9
  have c9b1 : decide (0 < y135.length) = true := decide_eq_true (by omega)
  clear c9
  (first | rw [c9b0] | (simp only [i64_w, i32_w]; rw [c9b0]) | skip)
  obtain ⟨y138, hy138⟩ : ∃ y_ : List Int, y_ = (y135.set (0 : Int).toNat 42) := ⟨_, rfl⟩
  replace H : (cabinetryref03_row.j0 k l0 y138 true l1_1) = some r := by rw [hy138]; exact H
  have Ny138 := Z0 hy138
  clear hy138
  have H' := Z0 H
  clear H
  have p10 : 0 ≤ (0 : Int) := (by omega)
  have q10 : (0 : Int) < ((y135.length : Int) : Int) := of_decide_eq_true V3
  have qi10 : (0 < y135.length) = True := eq_true (by omega)
  obtain ⟨go10, co10, eo10, gb10, gl10, cl10, HG10⟩ := Kd.R_form HO137.out (by omega)
  (first | cases eo10 | (injection eo10 with ea_ en_ ec_; (first | subst ea_ | (injection ea_ with ea_; subst ea_)); subst ec_; clear en_))
  have GB10 := Z0 gb10
  have GG10 := Z0 HG10
  clear gb10 gl10 HG10
  obtain ⟨hx10_0, hf10_0⟩ := Kd.R_celln 0 HO137.out (0 : Int) p10 q10
  (try rw [show ((0 : Int)).toNat = 0 from rfl] at hx10_0)
  (try simp only [Nat.reduceMul, Nat.zero_mul, Nat.zero_add, Nat.reduceAdd] at hx10_0)
  (try rw [show ((0 : Int)).toNat = 0 from rfl] at hf10_0)
  (try simp only [Nat.reduceMul, Nat.zero_mul, Nat.zero_add, Nat.reduceAdd] at hf10_0)
  replace p10 := eq_true p10
  replace q10 := eq_true q10
  have HP11 := Kd.R_putg HO137.out (0 : Int) 42
  go_wp2_with (first | ((with_reducible refine gate_store (t := 5) (p := 14) rfl ?_); refine store_event (t := 5) (p := 14) (v := ?vo_w12) (w1 := (w5.setCell ⟨go10, (0 : Int).toNat, none⟩ (.int .u8 42))) ?hg ?ho ?hn ?hr ?_; (case ho => rfl); (case hg => rfl); (case hn => rfl); (case hr => go_simp; try rfl); intro w12 hw; have hg : w5.grownBy w12 (some go10) := (by rw [hw]; exact HP11.2); have hp_ : Kd.R (Kd.int .u8) 5 w12 w.heap.size (fun _ => True) (.slice (some ⟨go10, 0, none⟩) y135.length co10) y138 := (by rw [hw, Ny138.out]; exact HP11.1); clear HP11; replace BK134 := Z0 (blk_grown (g := gb134) (o := .cells #[.bool true, .slice A1_1 l1_1.length c1_1] 46 (0, 0)) bk hg (Kd.R_ne HO137.out BK134.out (by decide))); replace HO137 := Z0 (hp_); replace HB := Z0 ((by rw [hw]; exact below_set (HB.out) GB10.out : Below w.heap.size w w12)); clear hg hw hp_))
  go_meet
  case rel => exact ⟨_, (y138), H', ⟨by first | omega | exact Nat.le_refl _⟩, ⟨by (with_reducible repeat (first | apply Kd.R_alloc | apply Kd.R_drewN | apply Kd.R_drew)); exact HO137.out⟩, ⟨bk⟩, ⟨V0⟩⟩
 case rest =>
  clear HC3
  obtain ⟨kq, x5_2, HA, HJ2, HO_5, BK134, HB⟩ := hcut
  cases kq with
  | zero => exact absurd HA.out (by simp [cabinetryref03_row.j0])
  | succ kj2 =>
   have H := HA.out
   clear HA
   simp only [cabinetryref03_row.j0] at H
   replace H := Option.bind_eq_some_iff.mp H
   obtain ⟨t139, A130, H⟩ := H
   replace H : (if 0 ≤ t139 then (if (t139 : Int).toNat ≤ 281474976710656 then (cabinetryref03_row.l0 kj2 l0 x5_2 (List.replicate (t139 : Int).toNat 0) 0 0 a1_0 l1_1) else (none)) else (none)) = some r := H
   have A13 := Z0 A130
   clear A130
   by_cases c14 : 0 ≤ t139
   rotate_left
   ·rw [if_neg c14] at H
    exact absurd H (by simp)
   rw [if_pos c14] at H
   have c14b0 := eq_true c14
   have c14b1 : decide (0 ≤ t139) = true := decide_eq_true c14
   clear c14
   by_cases c15 : (t139 : Int).toNat ≤ 281474976710656
   rotate_left
   ·rw [if_neg c15] at H
    exact absurd H (by simp)
   rw [if_pos c15] at H
   have c15b0 := eq_true c15
   have c15b1 : decide ((t139 : Int).toNat ≤ 281474976710656) = true := decide_eq_true c15
   clear c15
   obtain ⟨y140, hy140⟩ : ∃ y_ : List Int, y_ = (List.replicate (t139 : Int).toNat 0) := ⟨_, rfl⟩
   replace H : (cabinetryref03_row.l0 kj2 l0 x5_2 y140 0 0 a1_0 l1_1) = some r := by rw [hy140]; exact H
   have Ny140 := Z0 hy140
   clear hy140
   have H' := Z0 H
   clear H
   go_wp2_with (first | ((with_reducible refine Z5 (f := 72) rfl ?_); refine gl Tryz.func72 (cabinetryref03_nulls.calls kj2 _ _ l0 t139 _ (kc (Kd.C_below HR0.out HB.out)) HC0.out A13.out) ?_; rintro e w' ⟨rfl, ⟨nd, rfl⟩⟩; refine ⟨_, rfl, ?_⟩) | ((with_reducible refine Z9 (N := 17) rfl ?_); refine Kd.R_make (Kd.int .u8) _ 5 rfl (N := 17) rfl 37 _ _ rfl t139 rfl rfl Tryz.underlying37 (.int .u8 0) 1 info5 rfl (by decide) (by omega) 0 (ok := fun _ => True) (okp := fun _ => True) rfl (fun _ hk => hk) trivial (of_decide_eq_true V3) (Nat.le_trans (Nat.mul_le_mul_right _ (of_decide_eq_true V3 : t139.toNat ≤ 281474976710656)) (by omega)) (Below.refl _ _) (Nat.le_refl _) ?_; intro v141 w16 ho17 hb hg_ hnew_; clear hg_ hnew_; (first | rw [← Ny140.out] at ho17 | (simp only [Int.reduceToNat] at ho17; rw [← Ny140.out] at ho17)); have HO142 := Z0 (Kd.R_lower (Kd.R_new' ho17 (Kd.R_lt (by (with_reducible repeat (first | apply Kd.R_alloc | apply Kd.R_drewN | apply Kd.R_drew)); exact HO_5.out))) (below_size V0)); replace HO_5 := Z0 (Kd.R_elder' (by (with_reducible repeat (first | apply Kd.R_alloc | apply Kd.R_drewN | apply Kd.R_drew)); exact HO_5.out) (Kd.R_base ho17) hb); replace BK134 := Z0 (Z2 (g := gb134) (o := .cells #[.bool a1_0, .slice A1_1 l1_1.length c1_1] 46 (0, 0)) bk hb); replace HB := Z0 (Z1 V0 hb); clear hb ho17))
   go_loopg [7, 8] kj2 (fun kq v7 v8 w' => ∃ (x6_2 : List Int) (x7_2 : Int) (x8_2 : Int), v7 = .int .i64 x7_2 ∧ v8 = .int .i64 x8_2 ∧ Aside0 (cabinetryref03_row.l0 kq l0 x5_2 x6_2 x7_2 x8_2 a1_0 l1_1 = some r) ∧ Aside0 (kq ≤ kj2) ∧ Aside0 (Kd.R (Kd.int .u8) 5 w' w.heap.size (fun k_ => some k_ ≠ (v141 : Value).ownBlock) v136 x5_2) ∧ Aside0 (Kd.R (Kd.int .u8) 5 w' w.heap.size (fun k_ => some k_ ≠ (v136 : Value).ownBlock) v141 x6_2) ∧ Aside0 (w'.heap[gb134]? = some (.cells #[.bool a1_0, (.slice A1_1 l1_1.length c1_1)] 46 (0, 0))) ∧ Aside0 (Below w.heap.size w w'))
   case atStart => exact ⟨(y140), (0), (0), V2, V2, H', ⟨Nat.le_refl _⟩, ⟨by (with_reducible repeat (first | apply Kd.R_alloc | apply Kd.R_drewN | apply Kd.R_drew)); exact Kd.R_mono HO_5.out (fun _ hk => hk.2)⟩, ⟨by (with_reducible repeat (first | apply Kd.R_alloc | apply Kd.R_drewN | apply Kd.R_drew)); exact Kd.R_mono HO142.out (fun _ hk => hk.2)⟩, ⟨bk⟩, ⟨V0⟩⟩
   case round =>
    clear H'
    obtain ⟨x6_2, x7_2, x8_2, rfl, rfl, HA, HK2, HO_5, HO_6, BK134, HB⟩ := hrel
    cases gk with
    | zero => exact absurd HA.out (by simp [cabinetryref03_row.l0])
    | succ k2 =>
     have H := HA.out
     clear HA
     simp only [cabinetryref03_row.l0] at H
     by_cases c18 : x8_2 < (l0.length : Int)
     rotate_left
     ·rw [if_neg c18] at H
      have c18b0 : decide (x8_2 < (l0.length : Int)) = false := decide_eq_false c18
      clear c18
      by_cases c37 : x5_2.length + x6_2.length < 140737488355328
      rotate_left
      ·rw [if_neg c37] at H
       exact absurd H (by simp)
      rw [if_pos c37] at H
      have LMc37 := Z0 c37
      clear c37
      obtain ⟨y147, hy147⟩ : ∃ y_ : List Int, y_ = (x5_2 ++ x6_2) := ⟨_, rfl⟩
      replace H : (cabinetryref03_row.l1 k2 l0 y147 0 a1_0 l1_1) = some r := by rw [hy147]; exact H
      have Ny147 := Z0 hy147
      clear hy147
      have H' := Z0 H
      clear H
      obtain ⟨Ao39, co39, eo39⟩ := Kd.R_slice HO_6.out
      subst eo39
      go_wp2_with (first | ((with_reducible refine gate_builtin (b := .append) (xs := #[.tmp 49, .tmp 50]) rfl ?_); at_builtin; refine Kd.R_append_rows (Kd.int .u8) (w0 := w) w.heap.size rfl (.tmp 49) (.tmp 50) 37 5 (.int .u8 0) 1 rfl Tryz.underlying37 info5 rfl (by decide) (by omega) v136 x5_2 x6_2 _ _ _ (fun k_ => some k_ ≠ (.slice Ao39 x6_2.length co39 : Value).ownBlock) (fun _ => False) rfl rfl ?aO ?aR (fun _ _ h => h) (fun _ h => h.elim) ?aF ?aB ?aS ?aL ?_; (case aR => repeat (first | exact (Kd.R_reads' HO_6.out).2.2 | (with_reducible refine Kd.C_alloc ?_ _) | (with_reducible refine Kd.C_drewN ?_ _) | (with_reducible refine Kd.C_drew ?_))); (case aB => exact V0); (case aF => exact (fun k_ hk => Kd.fresh' (Kd.R_lt (by (with_reducible repeat (first | apply Kd.R_alloc | apply Kd.R_drewN | apply Kd.R_drew)); exact HO_6.out)) k_ hk)); (case aO => exact (by (with_reducible repeat (first | apply Kd.R_alloc | apply Kd.R_drewN | apply Kd.R_drew)); exact HO_5.out)); (case aS => exact (below_size V0)); (case aL => have := LMc37.out; omega); intro v148 w38 ho hb hg hat; rw [← Ny147.out] at ho; replace HO_6 := Z0 (Kd.R_after (ok := (fun _ => True)) (by (with_reducible repeat (first | apply Kd.R_alloc | apply Kd.R_drewN | apply Kd.R_drew)); exact Kd.R_mono HO_6.out (fun _ hk => ⟨trivial, hk⟩)) hg hat); replace BK134 := Z0 (blk_grown (g := gb134) (o := .cells #[.bool a1_0, .slice A1_1 l1_1.length c1_1] 46 (0, 0)) bk hg (Kd.R_ne HO_5.out BK134.out (by decide))); replace HB := Z0 hb; have HO149 := Z0 (ho); clear HO_5; clear ho hb hg hat))
      go_loopg [5, 9] k2 (fun kq v5 v9 w' => ∃ (x5_3 : List Int) (x9_3 : Int), v9 = .int .i64 x9_3 ∧ Aside0 (cabinetryref03_row.l1 kq l0 x5_3 x9_3 a1_0 l1_1 = some r) ∧ Aside0 (kq ≤ k2) ∧ Aside0 (Kd.R (Kd.int .u8) 5 w' w.heap.size (fun _ => True) v5 x5_3) ∧ Aside0 (w'.heap[gb134]? = some (.cells #[.bool a1_0, (.slice A1_1 l1_1.length c1_1)] 46 (0, 0))) ∧ Aside0 (Below w.heap.size w w'))
      case atStart => exact ⟨(y147), (0), V2, H', ⟨Nat.le_refl _⟩, ⟨by (with_reducible repeat (first | apply Kd.R_alloc | apply Kd.R_drewN | apply Kd.R_drew)); exact Kd.R_mono HO149.out (fun _ hk => trivial)⟩, ⟨bk⟩, ⟨V0⟩⟩
      case round =>
       clear H'
       obtain ⟨x5_3, x9_3, rfl, HA, HK3, HO_5, BK134, HB⟩ := hrel
       cases gk with
       | zero => exact absurd HA.out (by simp [cabinetryref03_row.l1])
       | succ k3 =>
        have H := HA.out
        clear HA
        simp only [cabinetryref03_row.l1] at H
        by_cases c40 : x9_3 < (l0.length : Int)
        rotate_left
        ·rw [if_neg c40] at H
         have c40b0 : decide (x9_3 < (l0.length : Int)) = false := decide_eq_false c40
         clear c40
         obtain rfl := Option.some.inj H
         go_wp2
         go_ret
         exact ⟨_, rfl, by (with_reducible repeat (first | apply Kd.R_alloc | apply Kd.R_drewN | apply Kd.R_drew)); exact HO_5.out, V0⟩
        rw [if_pos c40] at H
        have c40b0 : decide (x9_3 < (l0.length : Int)) = true := decide_eq_true c40
        clear c40
        by_cases c41 : 0 ≤ x9_3
        rotate_left
        ·rw [if_neg c41] at H
         exact absurd H (by simp)
        rw [if_pos c41] at H
        have c41b0 : decide (0 ≤ x9_3) = true := decide_eq_true c41
        clear c41
        by_cases c42 : x9_3 < (l1_1.length : Int)
        rotate_left
        ·rw [if_neg c42] at H
         exact absurd H (by simp)
        rw [if_pos c42] at H
        have c42b0 : decide (x9_3 < (l1_1.length : Int)) = true := decide_eq_true c42
        clear c42
        replace H := Option.bind_eq_some_iff.mp H
        obtain ⟨t152, A430, H⟩ := H
        replace H : ((some (bytesI t152)).bind fun t153 => (if x5_3.length + t153.length < 140737488355328 then (cabinetryref03_row.l1 k3 l0 (x5_3 ++ t153) (wrap64 (x9_3 + 1)) a1_0 l1_1) else (none))) = some r := H
        have A43 := Z0 A430
        clear A430
        replace H := Option.bind_eq_some_iff.mp H
        obtain ⟨t153, A440, H⟩ := H
        replace H : (if x5_3.length + t153.length < 140737488355328 then (cabinetryref03_row.l1 k3 l0 (x5_3 ++ t153) (wrap64 (x9_3 + 1)) a1_0 l1_1) else (none)) = some r := H
        have A44 := Z0 A440
        clear A440
        by_cases c45 : x5_3.length + t153.length < 140737488355328
        rotate_left
        ·rw [if_neg c45] at H
         exact absurd H (by simp)
        rw [if_pos c45] at H
        have LMc45 := Z0 c45
        clear c45
        obtain ⟨y156, hy156⟩ : ∃ y_ : List Int, y_ = (x5_3 ++ t153) := ⟨_, rfl⟩
        replace H : (cabinetryref03_row.l1 k3 l0 y156 (wrap64 (x9_3 + 1)) a1_0 l1_1) = some r := by rw [hy156]; exact H
        have Ny156 := Z0 hy156
        clear hy156
        have H' := Z0 H
        clear H
        try go_wp2
        have n0_ := Z0 (Kd.R_drew HO_5.out)
        have n1_ := Z0 (Y5 BK134.out)
        have n2_ := Z0 (below_drew1 HB.out)
        clear HO_5
        clear BK134
        clear HB
        have HO_5 := n0_
        have BK134 := n1_
        have HB := n2_
        clear n0_ n1_ n2_
        have p150 : 0 ≤ (x9_3 : Int) := of_decide_eq_true V3
        have q150 : x9_3 < (l0.length : Int) := of_decide_eq_true V3
        obtain ⟨ad150, e150, hx150_0, hx150_1, hx150_2, hx150_3⟩ := at_T23 HR0.out x9_3 p150 q150
        have hw150_3 := hx150_3
        have hw150_2 := hx150_2
        have hw150_1 := hx150_1
        have hw150_0 := hx150_0
        cases e150
        replace hx150_0 := hz HB.out hx150_0
        replace hx150_1 := hz HB.out hx150_1
        replace hx150_2 := hz HB.out hx150_2
        replace hx150_3 := hz HB.out hx150_3
        replace p150 := eq_true p150
        replace q150 := eq_true q150
        have p151 : 0 ≤ (x9_3 : Int) := of_decide_eq_true V3
        have q151 : x9_3 < (l1_1.length : Int) := of_decide_eq_true V3
        obtain ⟨ad151, e151, hx151_0, hx151_1, hx151_2⟩ := at_T25 HR1_1.out x9_3 p151 q151
        have hw151_2 := hx151_2
        have hw151_1 := hx151_1
        have hw151_0 := hx151_0
        cases e151
        replace hx151_0 := hz HB.out hx151_0
        replace hx151_1 := hz HB.out hx151_1
        replace hx151_2 := hz HB.out hx151_2
        replace p151 := eq_true p151
        replace q151 := eq_true q151
        refine start_ (n := 14) (S := fun w' => w'.cell? ⟨gb134, 0, none⟩ = some (.bool a1_0) ∧ w'.cell? ⟨gb134, 1, none⟩ = some (.slice (some ad151) l1_1.length c1_1) ∧ w'.cell? (ad150.add ((x9_3).toNat * 4)) = some (.string ((rd_T23 l0 x9_3).f0)) ∧ w'.cell? ⟨(ad150.add ((x9_3).toNat * 4)).block, (ad150.add ((x9_3).toNat * 4)).off + 1, none⟩ = some (.int .i64 ((rd_T23 l0 x9_3).f1)) ∧ w'.cell? ⟨(ad150.add ((x9_3).toNat * 4)).block, (ad150.add ((x9_3).toNat * 4)).off + 2, none⟩ = some (.int .i64 ((rd_T23 l0 x9_3).f2)) ∧ w'.cell? ⟨(ad150.add ((x9_3).toNat * 4)).block, (ad150.add ((x9_3).toNat * 4)).off + 3, none⟩ = some (.bool ((rd_T23 l0 x9_3).f3)) ∧ w'.cell? (ad151.add ((x9_3).toNat * 3)) = some (.int .i64 ((rd_T25 l1_1 x9_3).f0)) ∧ w'.cell? ⟨(ad151.add ((x9_3).toNat * 3)).block, (ad151.add ((x9_3).toNat * 3)).off + 1, none⟩ = some (.int .i64 ((rd_T25 l1_1 x9_3).f1)) ∧ w'.cell? ⟨(ad151.add ((x9_3).toNat * 3)).block, (ad151.add ((x9_3).toNat * 3)).off + 2, none⟩ = some (.string ((rd_T25 l1_1 x9_3).f2))) (ds := []) (bs 14 0) (by kernel_rfl) rfl rfl ⟨(Z4 BK134.out 0).trans rfl, (Z4 BK134.out 1).trans rfl, (hz HB.out hw150_0), (hz HB.out hw150_1), (hz HB.out hw150_2), (hz HB.out hw150_3), (hz HB.out hw151_0), (hz HB.out hw151_1), (hz HB.out hw151_2)⟩ (fun hHeld => ?_); refine with_tabW cabinetryref03_row.tab17 cabinetryref03_row.bits17 (fun HT_ HW_ => ?_)
        generalize wr.drew = w46 at HO_5 BK134 HB hx150_0 hx150_1 hx150_2 hx150_3 hx151_0 hx151_1 hx151_2 hHeld ⊢
        refine pz 0 58 (bs 14 1) HT_ ?_
        refine pz 1 59 (bs 14 3) HT_ ?_
        refine pz 2 60 (bs 14 7) HT_ ?_
        refine pz 3 61 (bs 14 15) HT_ ?_
        refine pz 5 63 (bs 14 47) HT_ ?_
        refine pz 7 65 (bs 14 175) HT_ ?_
        refine tz 4 62 (bs 14 191) HT_ HW_ hHeld ?_
        refine tz 6 64 (bs 14 255) HT_ HW_ hHeld ?_
        refine pz 8 66 (bs 14 511) HT_ ?_
        refine tz 9 67 (bs 14 1023) HT_ HW_ hHeld ?_
        refine one_ (i := 10) (N := some 68) (bs 14 2047) rfl rfl (one_of HT_.out (by kernel_rfl)) (by decide) (fun K hK => ?_)
        refine goes_ Tryz.func108 (by kernel_rfl) rfl #[.agg #[.string ((rd_T23 l0 x9_3).f0), .int .i64 ((rd_T23 l0 x9_3).f1), .int .i64 ((rd_T23 l0 x9_3).f2), .bool ((rd_T23 l0 x9_3).f3)], .agg #[.int .i64 ((rd_T25 l1_1 x9_3).f0), .int .i64 ((rd_T25 l1_1 x9_3).f1), .string ((rd_T25 l1_1 x9_3).f2)]] (by rfl) rfl rfl V1 ?_
        with_reducible refine (cabinetryref03_shown.calls k3 ((rd_T23 l0 x9_3).f0) ((rd_T23 l0 x9_3).f1) ((rd_T23 l0 x9_3).f2) ((rd_T23 l0 x9_3).f3) ((rd_T25 l1_1 x9_3).f0) ((rd_T25 l1_1 x9_3).f1) ((rd_T25 l1_1 x9_3).f2) t152 _ A43.out).mono ?_
        rintro e w47 ⟨rfl, hb⟩
        refine ⟨_, rfl, ?_⟩
        have n0_ := Z0 (Kd.R_below (by (with_reducible repeat (first | apply Kd.R_alloc | apply Kd.R_drewN | apply Kd.R_drew)); exact HO_5.out) hb)
        have n1_ := Z0 (Z2 (g := gb134) (o := .cells #[.bool a1_0, .slice (some ad151) l1_1.length c1_1] 46 (0, 0)) bk hb)
        have n2_ := Z0 (Z1 V0 hb)
        clear HO_5
        clear BK134
        clear HB
        have HO_5 := n0_
        have BK134 := n1_
        have HB := n2_
        clear n0_ n1_ n2_
        refine hK.out _ _ ⟨(Z4 BK134.out 0).trans rfl, (Z4 BK134.out 1).trans rfl, (hz HB.out hw150_0), (hz HB.out hw150_1), (hz HB.out hw150_2), (hz HB.out hw150_3), (hz HB.out hw151_0), (hz HB.out hw151_1), (hz HB.out hw151_2)⟩ (fun hHeld => ?_)
        clear hK K
        refine norm_ (a' := ?_) ?_ ?_
        rotate_left
        ·show Act.put _ (some 68) _ = _
         simp only [Act.put, Z3, Z6, Z7, i64_w, i32_w]
         rfl
        refine one_ (i := 11) (N := some 69) (bs 14 4095) rfl rfl (one_of HT_.out (by kernel_rfl)) (by decide) (fun K hK => ?_)
        have e_ : bytesI t152 = t153 := Option.some.inj A44.out
        refine conv_step (by rfl) rfl rfl t152 (by rfl) Tryz.underlying9 Tryz.underlying37 Tryz.underlying5 (by rw [← bytesI_len, e_]; have := LMc45.out; omega) ?_
        intro g_ hg_ w48 co50 hC_ hb hlt_
        rw [e_] at hC_ ⊢
        obtain ⟨Ao50, hA_⟩ : ∃ A : Option Addr, A = some ⟨g_, 0, none⟩ := ⟨_, rfl⟩
        rw [← hA_] at hC_ ⊢
        have n0_ := Z0 (Kd.R_elder' (v := .slice Ao50 t153.length co50) (by (with_reducible repeat (first | apply Kd.R_alloc | apply Kd.R_drewN | apply Kd.R_drew)); exact HO_5.out) (own_ge hA_ hg_) hb)
        have n1_ := Z0 hC_
        have n2_ := Z0 (Z2 (g := gb134) (o := .cells #[.bool a1_0, .slice (some ad151) l1_1.length c1_1] 46 (0, 0)) bk hb)
        have n3_ := Z0 (Z1 V0 hb)
        clear HO_5
        clear BK134
        clear HB
        have HO_5 := n0_
        have HO155 := n1_
        have BK134 := n2_
        have HB := n3_
        clear n0_ n1_ n2_ n3_
        refine hK.out _ _ ⟨(Z4 BK134.out 0).trans rfl, (Z4 BK134.out 1).trans rfl, (hz HB.out hw150_0), (hz HB.out hw150_1), (hz HB.out hw150_2), (hz HB.out hw150_3), (hz HB.out hw151_0), (hz HB.out hw151_1), (hz HB.out hw151_2)⟩ (fun hHeld => ?_)
        clear hK K
        refine norm_ (a' := ?_) ?_ ?_
        rotate_left
        ·show Act.put _ (some 69) _ = _
         simp only [Act.put, Z3, Z6, Z7, i64_w, i32_w]
         rfl
        refine one_ (i := 12) (N := some 70) (bs 14 8191) rfl rfl (one_of HT_.out (by kernel_rfl)) (by decide) (fun K hK => ?_)
        refine Kd.R_append_rows_step (Kd.int .u8) (w0 := w) w.heap.size (by rfl) (.tmp 58) (.tmp 69) 37 5 (.int .u8 0) 1 rfl Tryz.underlying37 info5 rfl (by decide) (by omega) u5 x5_3 t153 _ _ _ (fun k_ => some k_ ≠ (.slice Ao50 t153.length co50 : Value).ownBlock) (fun _ => False) rfl rfl ?aO ?aR (fun _ _ h => h) (fun _ h => h.elim) ?aF ?aB ?aS ?aL ?_
        (case aR => repeat (first | exact HO155.out | (with_reducible refine Kd.C_alloc ?_ _) | (with_reducible refine Kd.C_drewN ?_ _) | (with_reducible refine Kd.C_drew ?_)))
        (case aB => exact V0)
        (case aF => exact (fun k_ hk => Kd.fresh' (own_lt hA_ hlt_) k_ hk))
        (case aO => exact (by (with_reducible repeat (first | apply Kd.R_alloc | apply Kd.R_drewN | apply Kd.R_drew)); exact Kd.R_mono HO_5.out (fun _ hk => hk.2)))
        (case aS => exact (below_size V0))
        (case aL => have := LMc45.out; omega)
        intro v157 w49 ho hb hg hat
        rw [← Ny156.out] at ho
        have n0_ := Z0 (blk_grown (g := gb134) (o := .cells #[.bool a1_0, .slice (some ad151) l1_1.length c1_1] 46 (0, 0)) bk hg (Kd.R_ne HO_5.out BK134.out (by decide)))
        have n1_ := Z0 trivial
        have n2_ := Z0 hb
        have n3_ := Z0 (ho)
        clear BK134
        clear HO155
        clear HB
        clear HO_5
        have BK134 := n0_
        have HO155 := n1_
        have HB := n2_
        have HO158 := n3_
        clear n0_ n1_ n2_ n3_
        clear ho hb hg hat
        refine hK.out _ _ ⟨(Z4 BK134.out 0).trans rfl, (Z4 BK134.out 1).trans rfl, (hz HB.out hw150_0), (hz HB.out hw150_1), (hz HB.out hw150_2), (hz HB.out hw150_3), (hz HB.out hw151_0), (hz HB.out hw151_1), (hz HB.out hw151_2)⟩ (fun hHeld => ?_)
        clear hK K
        refine norm_ (a' := ?_) ?_ ?_
        rotate_left
        ·show Act.put _ (some 70) _ = _
         simp only [Act.put, Z3, Z6, Z7, i64_w, i32_w]
         rfl
        refine pz 13 5 (bs 14 16383) HT_ ?_
        refine done_ (done_of HT_.out (by kernel_rfl)) ?_
        try go_wp2
        go_roundg k3
        case measure => have := HJ2.out; have := HK2.out; have := HK3.out; omega
        case rel => exact ⟨(y156), (wrap64 (x9_3 + 1)), V2, H', ⟨by have := HJ2.out; have := HK2.out; have := HK3.out; omega⟩, ⟨by (with_reducible repeat (first | apply Kd.R_alloc | apply Kd.R_drewN | apply Kd.R_drew)); exact Kd.R_mono HO158.out (fun _ hk => trivial)⟩, ⟨bk⟩, ⟨V0⟩⟩
     rw [if_pos c18] at H
     have c18b0 : decide (x8_2 < (l0.length : Int)) = true := decide_eq_true c18
     clear c18
     have HC19 := Z0 H
     clear H
     go_upto_block 1 with (fail)
     go_cut [7] (fun v7 wc => ∃ (kq : Nat) (x6_18 : List Int) (x7_18 : Int), v7 = .int .i64 x7_18 ∧ Aside0 (cabinetryref03_row.j3 kq l0 x5_2 x6_18 x7_18 x8_2 a1_0 l1_1 = some r) ∧ Aside0 (kq ≤ k2) ∧ Aside0 (Kd.R (Kd.int .u8) 5 wc w.heap.size (fun k_ => some k_ ≠ (v141 : Value).ownBlock) v136 x5_2) ∧ Aside0 (Kd.R (Kd.int .u8) 5 wc w.heap.size (fun k_ => some k_ ≠ (v136 : Value).ownBlock) v141 x6_18) ∧ Aside0 (wc.heap[gb134]? = some (.cells #[.bool a1_0, (.slice A1_1 l1_1.length c1_1)] 46 (0, 0))) ∧ Aside0 (Below w.heap.size w wc))
     case first =>
      have H := HC19.out
      clear HC19
      by_cases c20 : 0 ≤ x8_2
      rotate_left
      ·rw [if_neg c20] at H
       exact absurd H (by simp)
      rw [if_pos c20] at H
      have c20b0 : decide (0 ≤ x8_2) = true := decide_eq_true c20
      clear c20
      (first | rw [c20b0] | (simp only [i64_w, i32_w]; rw [c20b0]) | skip)
      obtain ⟨bq21, hbq21⟩ : ∃ b_ : Bool, b_ = ((rd_T23 l0 x8_2).f3) := ⟨_, rfl⟩
      replace H : (if (bq21 = true) then (if x8_2 < (l1_1.length : Int) then (if ((rd_T25 l1_1 x8_2).f0) = 0 then (if 0 ≤ (wrap64 (Int.tdiv x7_2 8)) then (if (wrap64 (Int.tdiv x7_2 8)) < (x6_2.length : Int) then (if 0 ≤ (Int.tmod x7_2 8) then (cabinetryref03_row.j2 k2 l0 x5_2 (x6_2.set ((wrap64 (Int.tdiv x7_2 8)) : Int).toNat (((rd x6_2 (wrap64 (Int.tdiv x7_2 8))) + (shl .u8 1 (Int.tmod x7_2 8))) % 256)) x7_2 x8_2 a1_0 l1_1) else (none)) else (none)) else (none)) else (cabinetryref03_row.j2 k2 l0 x5_2 x6_2 x7_2 x8_2 a1_0 l1_1)) else (none)) else (cabinetryref03_row.j3 k2 l0 x5_2 x6_2 x7_2 x8_2 a1_0 l1_1)) = some r := by rw [← hbq21] at H; exact H
      have Nbq21 := Z0 hbq21
      clear hbq21
      by_cases c22 : (bq21 = true)
      rotate_left
      ·replace c22 := Bool.eq_false_iff.mpr c22
       subst c22
       have H1 : (cabinetryref03_row.j3 k2 l0 x5_2 x6_2 x7_2 x8_2 a1_0 l1_1) = some r := by rw [if_neg (show ¬ (false = true) by decide)] at H; exact H
       clear H
       have H := H1
       clear H1
       have H' := Z0 H
       clear H
       have p143 : 0 ≤ (x8_2 : Int) := of_decide_eq_true V3
       have q143 : x8_2 < (l0.length : Int) := of_decide_eq_true V3
       obtain ⟨ad143, e143, hx143_0, hx143_1, hx143_2, hx143_3⟩ := at_T23 HR0.out x8_2 p143 q143
       (try rw [← Nbq21.out] at hx143_3)
       cases e143
       replace hx143_0 := hz HB.out hx143_0
       replace hx143_1 := hz HB.out hx143_1
       replace hx143_2 := hz HB.out hx143_2
       replace hx143_3 := hz HB.out hx143_3
       replace p143 := eq_true p143
       replace q143 := eq_true q143
       go_wp2
       go_meet
       case rel => exact ⟨_, (x6_2), (x7_2), V2, H', ⟨by have := HJ2.out; have := HK2.out; first | omega | exact Nat.le_refl _⟩, ⟨by (with_reducible repeat (first | apply Kd.R_alloc | apply Kd.R_drewN | apply Kd.R_drew)); exact HO_5.out⟩, ⟨by (with_reducible repeat (first | apply Kd.R_alloc | apply Kd.R_drewN | apply Kd.R_drew)); exact HO_6.out⟩, ⟨bk⟩, ⟨V0⟩⟩
      subst c22
      have H1 : (if x8_2 < (l1_1.length : Int) then (if ((rd_T25 l1_1 x8_2).f0) = 0 then (if 0 ≤ (wrap64 (Int.tdiv x7_2 8)) then (if (wrap64 (Int.tdiv x7_2 8)) < (x6_2.length : Int) then (if 0 ≤ (Int.tmod x7_2 8) then (cabinetryref03_row.j2 k2 l0 x5_2 (x6_2.set ((wrap64 (Int.tdiv x7_2 8)) : Int).toNat (((rd x6_2 (wrap64 (Int.tdiv x7_2 8))) + (shl .u8 1 (Int.tmod x7_2 8))) % 256)) x7_2 x8_2 a1_0 l1_1) else (none)) else (none)) else (none)) else (cabinetryref03_row.j2 k2 l0 x5_2 x6_2 x7_2 x8_2 a1_0 l1_1)) else (none)) = some r := by rw [if_pos rfl] at H; exact H
      clear H
      have H := H1
      clear H1
      by_cases c23 : x8_2 < (l1_1.length : Int)
      rotate_left
      ·rw [if_neg c23] at H
       exact absurd H (by simp)
      rw [if_pos c23] at H
      have c23b0 : decide (x8_2 < (l1_1.length : Int)) = true := decide_eq_true c23
      clear c23
      have HC24 := Z0 H
      clear H
      have p143 : 0 ≤ (x8_2 : Int) := of_decide_eq_true V3
      have q143 : x8_2 < (l0.length : Int) := of_decide_eq_true V3
      obtain ⟨ad143, e143, hx143_0, hx143_1, hx143_2, hx143_3⟩ := at_T23 HR0.out x8_2 p143 q143
      (try rw [← Nbq21.out] at hx143_3)
      cases e143
      replace hx143_0 := hz HB.out hx143_0
      replace hx143_1 := hz HB.out hx143_1
      replace hx143_2 := hz HB.out hx143_2
      replace hx143_3 := hz HB.out hx143_3
      replace p143 := eq_true p143
      replace q143 := eq_true q143
      obtain ⟨hcz25_0, hcz25_1⟩ := bc2 BK134.out
      obtain ⟨hfz25_0, hfz25_1⟩ := bf2 BK134.out
      have p144 : 0 ≤ (x8_2 : Int) := of_decide_eq_true V3
      have q144 : x8_2 < (l1_1.length : Int) := of_decide_eq_true V3
      obtain ⟨ad144, e144, hx144_0, hx144_1, hx144_2⟩ := at_T25 HR1_1.out x8_2 p144 q144
      cases e144
      replace hx144_0 := hz HB.out hx144_0
      replace hx144_1 := hz HB.out hx144_1
      replace hx144_2 := hz HB.out hx144_2
      replace p144 := eq_true p144
      replace q144 := eq_true q144
      go_upto_if 36 with (fail)
      go_cut [] (fun wc => ∃ (kq : Nat) (x6_23 : List Int), Aside0 (cabinetryref03_row.j2 kq l0 x5_2 x6_23 x7_2 x8_2 a1_0 l1_1 = some r) ∧ Aside0 (kq ≤ k2) ∧ Aside0 (Kd.R (Kd.int .u8) 5 wc w.heap.size (fun k_ => some k_ ≠ (v141 : Value).ownBlock) v136 x5_2) ∧ Aside0 (Kd.R (Kd.int .u8) 5 wc w.heap.size (fun k_ => some k_ ≠ (v136 : Value).ownBlock) v141 x6_23) ∧ Aside0 (wc.heap[gb134]? = some (.cells #[.bool a1_0, (.slice (some ad144) l1_1.length c1_1)] 46 (0, 0))) ∧ Aside0 (Below w.heap.size w wc))
      case first =>
       have H := HC24.out
       clear HC24
       by_cases c26 : ((rd_T25 l1_1 x8_2).f0) = 0
       rotate_left
       ·rw [if_neg c26] at H
        have c26b0 : (((rd_T25 l1_1 x8_2).f0) == 0) = false := beq_eq_false_iff_ne.mpr c26
        have c26b1 : (((rd_T25 l1_1 x8_2).f0) != 0) = true := bne_iff_ne.mpr c26
        (first | rw [c26b0] | (simp only [i64_w, i32_w]; rw [c26b0]) | skip)
        have H' := Z0 H
        clear H
        go_wp2
        go_meet
        case rel => exact ⟨_, (x6_2), H', ⟨by have := HJ2.out; have := HK2.out; first | omega | exact Nat.le_refl _⟩, ⟨by (with_reducible repeat (first | apply Kd.R_alloc | apply Kd.R_drewN | apply Kd.R_drew)); exact HO_5.out⟩, ⟨by (with_reducible repeat (first | apply Kd.R_alloc | apply Kd.R_drewN | apply Kd.R_drew)); exact HO_6.out⟩, ⟨bk⟩, ⟨V0⟩⟩
       rw [if_pos c26] at H
       have c26b0 : (((rd_T25 l1_1 x8_2).f0) == 0) = true := beq_iff_eq.mpr c26
       have c26b1 : (((rd_T25 l1_1 x8_2).f0) != 0) = false := bne_eq_false_iff_eq.mpr c26
       clear c26
       (first | rw [c26b0] | (simp only [i64_w, i32_w]; rw [c26b0]) | skip)
       obtain ⟨ji27, hji27⟩ : ∃ j_ : Int, (wrap64 (Int.tdiv x7_2 8)) = j_ := ⟨_, rfl⟩
       replace H : (if 0 ≤ (ji27) then (if (ji27) < (x6_2.length : Int) then (if 0 ≤ (Int.tmod x7_2 8) then (cabinetryref03_row.j2 k2 l0 x5_2 (x6_2.set ((ji27) : Int).toNat (((rd x6_2 (ji27)) + (shl .u8 1 (Int.tmod x7_2 8))) % 256)) x7_2 x8_2 a1_0 l1_1) else (none)) else (none)) else (none)) = some r := by first | (rw [hji27] at H; exact H) | (simp only [hji27] at H ⊢; exact H)
       have hji27w : (IntKind.i64.wrap (Int.tdiv x7_2 8)) = ji27 := (i64_w _).trans hji27
       by_cases c28 : 0 ≤ (ji27)
       rotate_left
       ·rw [if_neg c28] at H
        exact absurd H (by simp)
       rw [if_pos c28] at H
       have c28b0 : decide (0 ≤ (ji27)) = true := decide_eq_true c28
       clear c28
       by_cases c29 : (ji27) < (x6_2.length : Int)
       rotate_left
       ·rw [if_neg c29] at H
        exact absurd H (by simp)
       rw [if_pos c29] at H
       have c29b0 : decide ((ji27) < (x6_2.length : Int)) = true := decide_eq_true c29
       clear c29
       obtain ⟨ji30, hji30⟩ : ∃ j_ : Int, (Int.tmod x7_2 8) = j_ := ⟨_, rfl⟩
       replace H : (if 0 ≤ (ji30) then (cabinetryref03_row.j2 k2 l0 x5_2 (x6_2.set ((ji27) : Int).toNat (((rd x6_2 (ji27)) + (shl .u8 1 (ji30))) % 256)) x7_2 x8_2 a1_0 l1_1) else (none)) = some r := by first | (rw [hji30] at H; exact H) | (simp only [hji30] at H ⊢; exact H)
       by_cases c31 : 0 ≤ (ji30)
       rotate_left
       ·rw [if_neg c31] at H
        exact absurd H (by simp)
       rw [if_pos c31] at H
       have c31b0 := eq_true c31
       have c31b1 : decide (0 ≤ (ji30)) = true := decide_eq_true c31
       clear c31
       obtain ⟨ji32, hji32⟩ : ∃ j_ : Int, (shl .u8 1 (ji30)) = j_ := ⟨_, rfl⟩
       replace H : (cabinetryref03_row.j2 k2 l0 x5_2 (x6_2.set ((ji27) : Int).toNat (((rd x6_2 (ji27)) + (ji32)) % 256)) x7_2 x8_2 a1_0 l1_1) = some r := by first | (rw [hji32] at H; exact H) | (simp only [hji32] at H ⊢; exact H)
       have hji32_ : (IntKind.u8.wrap (1 * 2 ^ min (ji30).toNat 8)) = ji32 := hji32
       have hji32z : (ji30) ≤ 8 → (IntKind.u8.wrap (1 * 2 ^ (ji30).toNat)) = ji32 := shl_small hji32
       have hji32u : (IntKind.u8.wrap (2 ^ min (ji30).toNat 8)) = ji32 := by have h_ := hji32_; rw [Int.one_mul] at h_; exact h_
       have hji32v : (ji30) ≤ 8 → (IntKind.u8.wrap (2 ^ (ji30).toNat)) = ji32 := fun hle_ => by have h_ := hji32z hle_; rw [Int.one_mul] at h_; exact h_
       obtain ⟨y146, hy146⟩ : ∃ y_ : List Int, y_ = (x6_2.set ((ji27) : Int).toNat (((rd x6_2 (ji27)) + (ji32)) % 256)) := ⟨_, rfl⟩
       replace H : (cabinetryref03_row.j2 k2 l0 x5_2 y146 x7_2 x8_2 a1_0 l1_1) = some r := by rw [hy146]; exact H
       have Ny146 := Z0 hy146
       clear hy146
       have H' := Z0 H
       clear H
       try go_wp2
       have n0_ := Z0 (Kd.R_drew HO_5.out)
       have n1_ := Z0 (Kd.R_drew HO_6.out)
       have n2_ := Z0 (Y5 BK134.out)
       have n3_ := Z0 (below_drew1 HB.out)
       clear HO_5
       clear HO_6
       clear BK134
       clear HB
       have HO_5 := n0_
       have HO_6 := n1_
       have BK134 := n2_
       have HB := n3_
       clear n0_ n1_ n2_ n3_
       obtain ⟨Ao35, co35, eo35⟩ := Kd.R_slice HO_6.out
       (first | subst eo35 | (injection eo35 with f1_ f2_ f3_; have f4_ := f1_.symm; have f5_ := f3_.symm; clear f1_ f2_ f3_; subst f4_; subst f5_))
       have p145 : 0 ≤ ((ji27) : Int) := of_decide_eq_true V3
       have q145 : (ji27) < (x6_2.length : Int) := of_decide_eq_true V3
       obtain ⟨ad145, e145, hx145_0⟩ := Kd.at_int (Kd.R_reads' HO_6.out).2.2 (ji27) p145 q145
       cases e145
       replace p145 := eq_true p145
       replace q145 := eq_true q145
       have p33 : 0 ≤ ((ji27) : Int) := of_decide_eq_true V3
       have q33 : ((ji27) : Int) < ((x6_2.length : Int) : Int) := of_decide_eq_true V3
       obtain ⟨go33, co33, eo33, gb33, gl33, cl33, HG33⟩ := Kd.R_form HO_6.out (by omega)
       (first | cases eo33 | (injection eo33 with ea_ en_ ec_; (first | subst ea_ | (injection ea_ with ea_; subst ea_)); subst ec_; clear en_))
       have GB33 := Z0 gb33
       have GG33 := Z0 HG33
       clear gb33 gl33 HG33
       (first | simp only [add_plain] at hx145_0 | skip)
       obtain ⟨hx33_0, hf33_0⟩ := Kd.R_celln 0 HO_6.out ((ji27) : Int) p33 q33
       replace p33 := eq_true p33
       replace q33 := eq_true q33
       have HP36 := Kd.R_putn HO_6.out ((ji27) : Int) (((rd x6_2 (ji27)) + (ji32)) % 256)
       rw [← Ny146.out] at HP36
       have HQ36 := Z0 HP36
       clear HP36
       refine start_ (n := 11) (S := fun w' => w'.cell? ⟨go33, ((ji27)).toNat, none⟩ = some (.int .u8 (rd x6_2 (ji27)))) (ds := [10]) (bs 11 0) (by kernel_rfl) rfl rfl (hx145_0) (fun hHeld => ?_); refine with_tabW cabinetryref03_row.tab11 cabinetryref03_row.bits11 (fun HT_ HW_ => ?_)
       generalize wr.drew = w34 at HO_5 HO_6 BK134 HB GG33 HQ36 hf33_0 hx145_0 hx33_0 hHeld ⊢
       refine pz 0 37 (bs 11 1) HT_ ?_
       refine pz 1 38 (bs 11 3) HT_ ?_
       refine pz 2 39 (bs 11 7) HT_ ?_
       refine pz 3 40 (bs 11 15) HT_ ?_
       refine pz 5 42 (bs 11 47) HT_ ?_
       refine pz 6 43 (bs 11 111) HT_ ?_
       refine pz 7 44 (bs 11 239) HT_ ?_
       refine take_ (i := 4) (N := some 41) (v := ?_) (a' := ?_) (bs 11 255) rfl rfl (take_ofW HT_.out HW_.out (by kernel_rfl)) (fun _ _ _ h => h) (Or.inl ⟨by rfl, ?_⟩) hHeld ?_ ?_
       rotate_left
       ·intro w' s0
        go_simp
        with_reducible rfl
       rotate_left
       ·simp only [Act.put, Z3, Z6, Z7, i64_w, i32_w]
        rfl
       refine pz 8 45 (bs 11 511) HT_ ?_
       refine pz 9 46 (bs 11 1023) HT_ ?_
       refine last_ (i := 10) (N := none) (bs 11 2047) rfl rfl (one_of HT_.out (by kernel_rfl)) (by decide) (fun K hK => ?_)
       refine skip_ (w1 := ?_) (by rfl) rfl ?_ ?_
       rotate_left
       ·go_simp
        rfl
       refine hK.out _ _ ?_
       clear hK K
       refine done_ (done_of HT_.out (by kernel_rfl)) ?_
       try go_wp2
       go_meet
       case rel => exact ⟨_, (y146), H', ⟨by have := HJ2.out; have := HK2.out; first | omega | exact Nat.le_refl _⟩, ⟨by (with_reducible repeat (first | apply Kd.R_alloc | apply Kd.R_drewN | apply Kd.R_drew)); exact Kd.R_mono (Kd.R_far (p := ⟨go33, ((ji27) : Int).toNat, none⟩) (Kd.R_mono HO_5.out (fun k_ hk => (⟨hk, fun e_ => hk (by rw [e_]; rfl)⟩ : _ ∧ k_ ≠ go33))) (fun _ hk => hk.2) (.int .u8 (((rd x6_2 (ji27)) + (ji32)) % 256))) (fun _ hk => hk.1)⟩, ⟨by (with_reducible repeat (first | apply Kd.R_alloc | apply Kd.R_drewN | apply Kd.R_drew)); exact HQ36.out⟩, ⟨by (with_reducible repeat (first | refine Y6 ?_ _ | refine Y5 ?_ | refine Y7 ?_ _)); refine blk_far ?_ (by have h_ := Kd.R_ne HO_6.out BK134.out (by decide); intro e_; exact h_ (by rw [e_]; rfl)) _; (with_reducible repeat (first | refine Y6 ?_ _ | refine Y5 ?_ | refine Y7 ?_ _)); exact BK134.out⟩, ⟨V0⟩⟩
      case rest =>
       clear HC24
       obtain ⟨kq, x6_23, HA, HJ23, HO_5, HO_6, BK134, HB⟩ := hcut
       cases kq with
       | zero => exact absurd HA.out (by simp [cabinetryref03_row.j2])
       | succ kj23 =>
        have H := HA.out
        clear HA
        simp only [cabinetryref03_row.j2] at H
        have H' := Z0 H
        clear H
        go_wp2
        go_meet
        case rel => exact ⟨_, (x6_23), (wrap64 (x7_2 + 1)), V2, H', ⟨by have := HJ2.out; have := HK2.out; have := HJ23.out; first | omega | exact Nat.le_refl _⟩, ⟨by (with_reducible repeat (first | apply Kd.R_alloc | apply Kd.R_drewN | apply Kd.R_drew)); exact HO_5.out⟩, ⟨by (with_reducible repeat (first | apply Kd.R_alloc | apply Kd.R_drewN | apply Kd.R_drew)); exact HO_6.out⟩, ⟨bk⟩, ⟨V0⟩⟩
     case rest =>
      clear HC19
      obtain ⟨kq, x6_18, x7_18, rfl, HA, HJ18, HO_5, HO_6, BK134, HB⟩ := hcut
      cases kq with
      | zero => exact absurd HA.out (by simp [cabinetryref03_row.j3])
      | succ kj18 =>
       have H := HA.out
       clear HA
       simp only [cabinetryref03_row.j3] at H
       have H' := Z0 H
       clear H
       go_wp2
       go_roundg kj18
       case measure => have := HJ2.out; have := HK2.out; have := HJ18.out; omega
       case rel => exact ⟨(x6_18), (x7_18), (wrap64 (x8_2 + 1)), V2, V2, H', ⟨by have := HJ2.out; have := HK2.out; have := HJ18.out; omega⟩, ⟨by (with_reducible repeat (first | apply Kd.R_alloc | apply Kd.R_drewN | apply Kd.R_drew)); exact HO_5.out⟩, ⟨by (with_reducible repeat (first | apply Kd.R_alloc | apply Kd.R_drewN | apply Kd.R_drew)); exact HO_6.out⟩, ⟨bk⟩, ⟨V0⟩⟩
end
end Go.Proofs.YtldpdidlfbphcaaGreatDoor.P
end
