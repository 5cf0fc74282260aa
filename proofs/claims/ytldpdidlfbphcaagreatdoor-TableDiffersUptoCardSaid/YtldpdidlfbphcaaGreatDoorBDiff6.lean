/- Part 6 of this proof: what the last part leans on. -/
import Derived.Test.YtldpdidlfbphcaaGreatDoorBDiff5
set_option linter.unusedVariables false
set_option linter.unusedSimpArgs false
section
namespace Go.Proofs.YtldpdidlfbphcaaGreatDoor.P
open Go.RowKit Go.Proofs.YtldpdidlfbphcaaGreatDoorW.PrintWords Go.Proofs.YtldpdidlfbphcaaGreatDoorW.PrintLast Go.Proofs.YtldpdidlfbphcaaGreatDoorW.PrintMore
attribute [local go_sem] max2_int min2_int max_two min_two max_three min_three max_four min_four
def val_Stamp.f (k : Nat) (a0 : Int) : Option (ByteArray × Int) := (val_isDay.f a0).bind fun t565 => (if t565 = true then (if a0 = 0 then (some ((⟨#[32, 32, 32, 32, 32, 32, 32, 32]⟩ : ByteArray), 0)) else ((val_stamp.f k a0).bind fun t566 => (some (t566, 0)))) else (some ((⟨#[]⟩ : ByteArray), 1)))
theorem val_Stamp.mono : ∀ a0 k, LeO (val_Stamp.f k a0) (val_Stamp.f (k + 1) a0) := by
 intro a0 k
 unfold val_Stamp.f
 repeat' first
   | (with_reducible exact val_stamp.mono _ _)
   | (with_reducible exact LeO.refl _)
   | (with_reducible exact LeO.none _)
   | (with_reducible refine LeO.ite ?_ ?_)
   | (with_reducible refine LeO.bind ?_ (fun _ => ?_))
set_option maxHeartbeats 8000000 in
set_option maxRecDepth 100000 in
theorem val_Stamp.calls (k : Nat) (a0 : Int) (r1 : ByteArray) (r2 : Int) (w : World) (h : val_Stamp.f k a0 = some (r1, r2)) :
  Calls Tryz.prog 156 #[.int .i64 a0] w fun e w' => e = .returned (.tuple #[.string r1, .int .i64 r2]) ∧ Below w.heap.size w w' := by
 have HB := Z0 (Below.refl w.heap.size w)
 have H : ((val_isDay.f a0).bind fun t565 => (if t565 = true then (if a0 = 0 then (some ((⟨#[32, 32, 32, 32, 32, 32, 32, 32]⟩ : ByteArray), 0)) else ((val_stamp.f k a0).bind fun t566 => (some (t566, 0)))) else (some ((⟨#[]⟩ : ByteArray), 1)))) = some (r1, r2) := h
 clear h
 replace H := Option.bind_eq_some_iff.mp H
 obtain ⟨t565, A20, H⟩ := H
 replace H : (if t565 = true then (if a0 = 0 then (some ((⟨#[32, 32, 32, 32, 32, 32, 32, 32]⟩ : ByteArray), 0)) else ((val_stamp.f k a0).bind fun t566 => (some (t566, 0)))) else (some ((⟨#[]⟩ : ByteArray), 1))) = some (r1, r2) := H
 have A2 := Z0 A20
 clear A20
 by_cases c3 : t565 = true
 ·subst c3
  have H1 : (if a0 = 0 then (some ((⟨#[32, 32, 32, 32, 32, 32, 32, 32]⟩ : ByteArray), 0)) else ((val_stamp.f k a0).bind fun t566 => (some (t566, 0)))) = some (r1, r2) := by rw [if_pos rfl] at H; exact H
  clear H
  have H := H1
  clear H1
  by_cases c4 : a0 = 0
  ·rw [if_pos c4] at H
   have c4b0 : (a0 == 0) = true := beq_iff_eq.mpr c4
   have c4b1 : (a0 != 0) = false := bne_eq_false_iff_eq.mpr c4
   clear c4
   simp only [Option.some.injEq, Prod.mk.injEq] at H
   obtain ⟨rfl, rfl⟩ := H
   go_enter Tryz.func156, Tryz.ntmps156
   go_wp2_with (first | ((with_reducible refine Y2 (f := 136) rfl ?_); refine goesL_ (some 5) rfl rfl Tryz.func136 (by kernel_rfl) rfl #[.int .i64 a0] rfl V1 ?_; (with_reducible refine (val_isDay.calls a0 true _ A2.out).mono ?_); rintro e w' ⟨rfl, ⟨nd, rfl⟩⟩; refine ⟨_, rfl, ?_⟩))
   go_ret2
   exact ⟨rfl, V0⟩
  ·rw [if_neg c4] at H
   have c4b0 : (a0 == 0) = false := beq_eq_false_iff_ne.mpr c4
   have c4b1 : (a0 != 0) = true := bne_iff_ne.mpr c4
   replace H := Option.bind_eq_some_iff.mp H
   obtain ⟨t566, A50, H⟩ := H
   replace H : (some (t566, 0)) = some (r1, r2) := H
   have A5 := Z0 A50
   clear A50
   simp only [Option.some.injEq, Prod.mk.injEq] at H
   obtain ⟨rfl, rfl⟩ := H
   go_enter Tryz.func156, Tryz.ntmps156
   go_wp2_with (first | ((with_reducible refine Y2 (f := 136) rfl ?_); refine goesL_ (some 5) rfl rfl Tryz.func136 (by kernel_rfl) rfl #[.int .i64 a0] rfl V1 ?_; (with_reducible refine (val_isDay.calls a0 true _ A2.out).mono ?_); rintro e w' ⟨rfl, ⟨nd, rfl⟩⟩; refine ⟨_, rfl, ?_⟩) | ((with_reducible refine Y2 (f := 167) rfl ?_); refine goesL_ (some 10) rfl rfl Tryz.func167 (by kernel_rfl) rfl #[.int .i64 a0] rfl V1 ?_; (with_reducible refine (val_stamp.calls k a0 t566 _ A5.out).mono ?_); rintro e w6 ⟨rfl, hb⟩; refine ⟨_, rfl, ?_⟩; replace HB := Z0 (Z4 V0 hb); (try clear hb); (try clear hb2); (try clear hk); (try clear hi)))
   go_ret2
   exact ⟨rfl, V0⟩
 ·replace c3 := Bool.eq_false_iff.mpr c3
  subst c3
  have H1 : (some ((⟨#[]⟩ : ByteArray), 1)) = some (r1, r2) := by rw [if_neg (show ¬ (false = true) by decide)] at H; exact H
  clear H
  have H := H1
  clear H1
  simp only [Option.some.injEq, Prod.mk.injEq] at H
  obtain ⟨rfl, rfl⟩ := H
  go_enter Tryz.func156, Tryz.ntmps156
  go_wp2_with (first | ((with_reducible refine Y2 (f := 136) rfl ?_); refine goesL_ (some 5) rfl rfl Tryz.func136 (by kernel_rfl) rfl #[.int .i64 a0] rfl V1 ?_; (with_reducible refine (val_isDay.calls a0 false _ A2.out).mono ?_); rintro e w' ⟨rfl, ⟨nd, rfl⟩⟩; refine ⟨_, rfl, ?_⟩))
  go_ret2
  exact ⟨rfl, V0⟩
def table_writeDate.f (k : Nat) (a0_0 : ByteArray) (a0_1 : Int) (a0_2 : Int) (a0_3 : Bool) (a1_0 : Int) (a1_1 : Int) (a1_2 : ByteArray) : Option (ByteArray) := (val_Stamp.f k a1_1).bind fun bt569 => (some bt569.1)
theorem table_writeDate.mono : ∀ a0 a1 a2 a3 a4 a5 a6 k, LeO (table_writeDate.f k a0 a1 a2 a3 a4 a5 a6) (table_writeDate.f (k + 1) a0 a1 a2 a3 a4 a5 a6) := by
 intro a0 a1 a2 a3 a4 a5 a6 k
 unfold table_writeDate.f
 repeat' first
   | (with_reducible exact val_Stamp.mono _ _)
   | (with_reducible exact LeO.refl _)
   | (with_reducible exact LeO.none _)
   | (with_reducible refine LeO.ite ?_ ?_)
   | (with_reducible refine LeO.bind ?_ (fun _ => ?_))
set_option maxHeartbeats 8000000 in
set_option maxRecDepth 100000 in
theorem table_writeDate.calls (k : Nat) (a0_0 : ByteArray) (a0_1 : Int) (a0_2 : Int) (a0_3 : Bool) (a1_0 : Int) (a1_1 : Int) (a1_2 : ByteArray) (r : ByteArray) (w : World) (h : table_writeDate.f k a0_0 a0_1 a0_2 a0_3 a1_0 a1_1 a1_2 = some r) :
  Calls Tryz.prog 129 #[.agg #[.string a0_0, .int .i64 a0_1, .int .i64 a0_2, .bool a0_3], .agg #[.int .i64 a1_0, .int .i64 a1_1, .string a1_2]] w fun e w' => e = .returned (.string r) ∧ Below w.heap.size w w' := by
 have hu23 := Tryz.underlying23
 have hu25 := Tryz.underlying25
 have HB := Z0 (Below.refl w.heap.size w)
 have H : ((val_Stamp.f k a1_1).bind fun bt569 => (some bt569.1)) = some r := h
 clear h
 replace H := Option.bind_eq_some_iff.mp H
 obtain ⟨⟨t569, t570⟩, A30, H⟩ := H
 replace H : (some t569) = some r := H
 have A3 := Z0 A30
 clear A30
 obtain rfl := Option.some.inj H
 go_enter Tryz.func129, Tryz.ntmps129
 go_wp2_with (first | ((with_reducible refine Y1 (N := 2) rfl ?_); refine bx (N := 2) (cs := #[.string a0_0, .int .i64 a0_1, .int .i64 a0_2, .bool a0_3]) (t := 23) ?_; intro gb567 hg w4 hbox hb; have BK567 := Z0 (hbox); have GE567 := Z0 ((by rw [hg]; exact (Z9 HB.out) : w.heap.size ≤ gb567)); replace HB := Z0 (Z4 HB.out hb); clear hb hbox hg) | ((with_reducible refine Y1 (N := 3) rfl ?_); refine bx (N := 3) (cs := #[.int .i64 a1_0, .int .i64 a1_1, .string a1_2]) (t := 25) ?_; intro gb568 hg w5 hbox hb; have BK568 := Z0 (hbox); have GE568 := Z0 ((by rw [hg]; exact (Z9 HB.out) : w.heap.size ≤ gb568)); replace HB := Z0 (Z4 HB.out hb); have NB567_568 := Z0 ((by rw [hg]; exact Nat.ne_of_lt (blk_lt BK567.out) : gb567 ≠ gb568)); have NB568_567 := Z0 ((by rw [hg]; exact Nat.ne_of_gt (blk_lt BK567.out) : gb568 ≠ gb567)); replace BK567 := Z0 (Z5 BK567.out hb); clear hb hbox hg; have hnb6 := NB568_567.out; have hnc6 := NB567_568.out; obtain ⟨hcz7_0, hcz7_1, hcz7_2⟩ := bc3 BK568.out; obtain ⟨hfz7_0, hfz7_1, hfz7_2⟩ := bf3 BK568.out) | ((with_reducible refine Y2 (f := 156) rfl ?_); refine goesL_ (some 10) rfl rfl Tryz.func156 (by kernel_rfl) rfl #[.int .i64 a1_1] rfl V1 ?_; (with_reducible refine (val_Stamp.calls k a1_1 t569 t570 _ A3.out).mono ?_); rintro e w8 ⟨rfl, hb⟩; refine ⟨_, rfl, ?_⟩; replace BK567 := Z0 (Z5 BK567.out hb); replace BK568 := Z0 (Z5 BK568.out hb); replace HB := Z0 (Z4 HB.out hb); (try clear hb); (try clear hb2); (try clear hk); (try clear hi)))
 go_ret
 exact ⟨rfl, V0⟩
def table_writeText.f (a0_0 : ByteArray) (a0_1 : Int) (a0_2 : Int) (a0_3 : Bool) (a1_0 : Int) (a1_1 : Int) (a1_2 : ByteArray) : Option (ByteArray) := (strings_Repeat.f (⟨#[32]⟩ : ByteArray) (wrap64 (a0_2 - (a1_2.size : Int)))).bind fun t562 => (if a1_2.size + t562.size ≤ 9223372036854775807 then (some (a1_2 ++ t562)) else (none))
def table_writeText.T1 : Bool × List (List Nat × List Nat) := (true, [([], []), ([0], [0]), ([], []), ([2], [2]), ([], []), ([4], [4]), ([5], [5]), ([3, 6], [3, 6]), ([7], [7]), ([1, 8], [1, 8]), ([9, 8, 0, 1, 2, 3, 4, 5, 6, 7, 8, 9], [9])])
def table_writeText.B1 : List Nat := [0, 1, 0, 4, 0, 16, 48, 124, 252, 511, 1023]
theorem table_writeText.tab1 : rtab .any (opsOf Tryz.f131 1) = table_writeText.T1 := by kernel_rfl
theorem table_writeText.bits1 : waitsOk table_writeText.T1.2 table_writeText.B1 = true := by kernel_rfl
set_option maxHeartbeats 8000000 in
set_option maxRecDepth 100000 in
theorem table_writeText.calls (a0_0 : ByteArray) (a0_1 : Int) (a0_2 : Int) (a0_3 : Bool) (a1_0 : Int) (a1_1 : Int) (a1_2 : ByteArray) (r : ByteArray) (w : World) (h : table_writeText.f a0_0 a0_1 a0_2 a0_3 a1_0 a1_1 a1_2 = some r) :
  Calls Tryz.prog 131 #[.agg #[.string a0_0, .int .i64 a0_1, .int .i64 a0_2, .bool a0_3], .agg #[.int .i64 a1_0, .int .i64 a1_1, .string a1_2]] w fun e w' => e = .returned (.string r) ∧ Below w.heap.size w w' := by
 have hu23 := Tryz.underlying23
 have hu25 := Tryz.underlying25
 have HB := Z0 (Below.refl w.heap.size w)
 have H : ((strings_Repeat.f (⟨#[32]⟩ : ByteArray) (wrap64 (a0_2 - (a1_2.size : Int)))).bind fun t562 => (if a1_2.size + t562.size ≤ 9223372036854775807 then (some (a1_2 ++ t562)) else (none))) = some r := h
 clear h
 replace H := Option.bind_eq_some_iff.mp H
 obtain ⟨t562, A30, H⟩ := H
 replace H : (if a1_2.size + t562.size ≤ 9223372036854775807 then (some (a1_2 ++ t562)) else (none)) = some r := H
 have A3 := Z0 A30
 clear A30
 by_cases c4 : a1_2.size + t562.size ≤ 9223372036854775807
 ·rw [if_pos c4] at H
  have c4b0 := eq_true c4
  have c4b1 : decide (a1_2.size + t562.size ≤ 9223372036854775807) = true := decide_eq_true c4
  try have c4b2 : (9223372036854775807 < a1_2.size + t562.size) = False := eq_false (Nat.not_lt.2 c4)
  obtain rfl := Option.some.inj H
  go_enter Tryz.func131, Tryz.ntmps131
  try go_wp2_with (first | ((with_reducible refine Y1 (N := 2) rfl ?_); refine bx (N := 2) (cs := #[.string a0_0, .int .i64 a0_1, .int .i64 a0_2, .bool a0_3]) (t := 23) ?_; intro gb560 hg w5 hbox hb; have BK560 := Z0 (hbox); have GE560 := Z0 ((by rw [hg]; exact (Z9 HB.out) : w.heap.size ≤ gb560)); replace HB := Z0 (Z4 HB.out hb); clear hb hbox hg) | ((with_reducible refine Y1 (N := 3) rfl ?_); refine bx (N := 3) (cs := #[.int .i64 a1_0, .int .i64 a1_1, .string a1_2]) (t := 25) ?_; intro gb561 hg w6 hbox hb; have BK561 := Z0 (hbox); have GE561 := Z0 ((by rw [hg]; exact (Z9 HB.out) : w.heap.size ≤ gb561)); replace HB := Z0 (Z4 HB.out hb); have NB560_561 := Z0 ((by rw [hg]; exact Nat.ne_of_lt (blk_lt BK560.out) : gb560 ≠ gb561)); have NB561_560 := Z0 ((by rw [hg]; exact Nat.ne_of_gt (blk_lt BK560.out) : gb561 ≠ gb560)); replace BK560 := Z0 (Z5 BK560.out hb); clear hb hbox hg))
  have n0_ := Z0 (Z8 BK560.out)
  have n1_ := Z0 (Z8 BK561.out)
  have n2_ := Z0 (below_drew1 HB.out)
  clear BK560
  clear BK561
  clear HB
  have BK560 := n0_
  have BK561 := n1_
  have HB := n2_
  clear n0_ n1_ n2_
  refine start_ (n := 11) (S := fun w' => w'.cell? ⟨gb561, 0, none⟩ = some (.int .i64 a1_0) ∧ w'.cell? ⟨gb561, 1, none⟩ = some (.int .i64 a1_1) ∧ w'.cell? ⟨gb561, 2, none⟩ = some (.string a1_2) ∧ w'.cell? ⟨gb560, 0, none⟩ = some (.string a0_0) ∧ w'.cell? ⟨gb560, 1, none⟩ = some (.int .i64 a0_1) ∧ w'.cell? ⟨gb560, 2, none⟩ = some (.int .i64 a0_2) ∧ w'.cell? ⟨gb560, 3, none⟩ = some (.bool a0_3)) (ds := []) (bs 11 0) (by kernel_rfl) rfl rfl ⟨(Y0 BK561.out 0).trans rfl, (Y0 BK561.out 1).trans rfl, (Y0 BK561.out 2).trans rfl, (Y0 BK560.out 0).trans rfl, (Y0 BK560.out 1).trans rfl, (Y0 BK560.out 2).trans rfl, (Y0 BK560.out 3).trans rfl⟩ (fun hHeld => ?_); refine with_tabW table_writeText.tab1 table_writeText.bits1 (fun HT_ HW_ => ?_)
  generalize w6.drew = w7 at BK560 BK561 HB hHeld ⊢
  refine Y8 (i := 0) (N := some 5) (v := ?_) (a' := ?_) (bs 11 1) rfl rfl (Y3 HT_.out (by kernel_rfl)) (fun _ _ _ h => h) (Or.inl ⟨by rfl, ?_⟩) ?_ ?_
  rotate_left
  ·intro w'
   go_simp
   with_reducible rfl
  rotate_left
  ·simp only [Act.put, Z1, Z2, Z3, Y4, Y5]
   rfl
  refine Y8 (i := 2) (N := some 7) (v := ?_) (a' := ?_) (bs 11 5) rfl rfl (Y3 HT_.out (by kernel_rfl)) (fun _ _ _ h => h) (Or.inl ⟨by rfl, ?_⟩) ?_ ?_
  rotate_left
  ·intro w'
   go_simp
   with_reducible rfl
  rotate_left
  ·simp only [Act.put, Z1, Z2, Z3, Y4, Y5]
   rfl
  refine Y8 (i := 4) (N := some 9) (v := ?_) (a' := ?_) (bs 11 21) rfl rfl (Y3 HT_.out (by kernel_rfl)) (fun _ _ _ h => h) (Or.inl ⟨by rfl, ?_⟩) ?_ ?_
  rotate_left
  ·intro w'
   go_simp
   with_reducible rfl
  rotate_left
  ·simp only [Act.put, Z1, Z2, Z3, Y4, Y5]
   rfl
  refine take_ (i := 1) (N := some 6) (v := ?_) (a' := ?_) (bs 11 23) rfl rfl (take_ofW HT_.out HW_.out (by kernel_rfl)) (fun _ _ _ h => h) (Or.inl ⟨by rfl, ?_⟩) hHeld ?_ ?_
  rotate_left
  ·rintro w' ⟨s0, s1, s2, s3, s4, s5, s6⟩
   go_simp
   with_reducible rfl
  rotate_left
  ·simp only [Act.put, Z1, Z2, Z3, Y4, Y5]
   rfl
  refine take_ (i := 3) (N := some 8) (v := ?_) (a' := ?_) (bs 11 31) rfl rfl (take_ofW HT_.out HW_.out (by kernel_rfl)) (fun _ _ _ h => h) (Or.inl ⟨by rfl, ?_⟩) hHeld ?_ ?_
  rotate_left
  ·rintro w' ⟨s0, s1, s2, s3, s4, s5, s6⟩
   go_simp
   with_reducible rfl
  rotate_left
  ·simp only [Act.put, Z1, Z2, Z3, Y4, Y5]
   rfl
  refine take_ (i := 5) (N := some 10) (v := ?_) (a' := ?_) (bs 11 63) rfl rfl (take_ofW HT_.out HW_.out (by kernel_rfl)) (fun _ _ _ h => h) (Or.inl ⟨by rfl, ?_⟩) hHeld ?_ ?_
  rotate_left
  ·rintro w' ⟨s0, s1, s2, s3, s4, s5, s6⟩
   go_simp
   with_reducible rfl
  rotate_left
  ·simp only [Act.put, Z1, Z2, Z3, Y4, Y5]
   rfl
  refine Y8 (i := 6) (N := some 11) (v := ?_) (a' := ?_) (bs 11 127) rfl rfl (Y3 HT_.out (by kernel_rfl)) (fun _ _ _ h => h) (Or.inl ⟨by rfl, ?_⟩) ?_ ?_
  rotate_left
  ·intro w'
   go_simp
   with_reducible rfl
  rotate_left
  ·simp only [Act.put, Z1, Z2, Z3, Y4, Y5]
   rfl
  refine Y8 (i := 7) (N := some 12) (v := ?_) (a' := ?_) (bs 11 255) rfl rfl (Y3 HT_.out (by kernel_rfl)) (fun _ _ _ h => h) (Or.inl ⟨by rfl, ?_⟩) ?_ ?_
  rotate_left
  ·intro w'
   go_simp
   with_reducible rfl
  rotate_left
  ·simp only [Act.put, Z1, Z2, Z3, Y4, Y5]
   rfl
  refine one_ (i := 8) (N := some 13) (bs 11 511) rfl rfl (one_of HT_.out (by kernel_rfl)) (by decide) (fun K hK => ?_)
  refine goes_ Tryz.func99 (by kernel_rfl) rfl #[.string (⟨#[32]⟩ : ByteArray), .int .i64 (wrap64 (a0_2 - (a1_2.size : Int)))] (by rfl) rfl rfl V1 ?_
  with_reducible refine (strings_Repeat.calls (⟨#[32]⟩ : ByteArray) (wrap64 (a0_2 - (a1_2.size : Int))) t562 _ A3.out).mono ?_
  rintro e w8 ⟨rfl, hb⟩
  refine ⟨_, rfl, ?_⟩
  have n0_ := Z0 (Z5 BK560.out hb)
  have n1_ := Z0 (Z5 BK561.out hb)
  have n2_ := Z0 (Z4 HB.out hb)
  clear BK560
  clear BK561
  clear HB
  have BK560 := n0_
  have BK561 := n1_
  have HB := n2_
  clear n0_ n1_ n2_
  (try clear hb)
  (try clear hb2)
  (try clear hk)
  (try clear hi)
  refine hK.out _ _ ⟨(Y0 BK561.out 0).trans rfl, (Y0 BK561.out 1).trans rfl, (Y0 BK561.out 2).trans rfl, (Y0 BK560.out 0).trans rfl, (Y0 BK560.out 1).trans rfl, (Y0 BK560.out 2).trans rfl, (Y0 BK560.out 3).trans rfl⟩ (fun hHeld => ?_)
  clear hK K
  refine norm_ (a' := ?_) ?_ ?_
  rotate_left
  ·show Act.put _ (some 13) _ = _
   simp only [Act.put, Z1, Z2, Z3, Y4, Y5]
   rfl
  refine Y8 (i := 9) (N := some 14) (v := ?_) (a' := ?_) (bs 11 1023) rfl rfl (Y3 HT_.out (by kernel_rfl)) (fun _ _ _ h => h) (Or.inl ⟨by rfl, ?_⟩) ?_ ?_
  rotate_left
  ·intro w'
   go_simp
   with_reducible rfl
  rotate_left
  ·simp only [Act.put, Z1, Z2, Z3, Y4, Y5]
   rfl
  refine Y8 (i := 10) (N := some 4) (v := ?_) (a' := ?_) (bs 11 2047) rfl rfl (Y3 HT_.out (by kernel_rfl)) (fun _ _ _ h => h) (Or.inl ⟨by rfl, ?_⟩) ?_ ?_
  rotate_left
  ·intro w'
   go_simp
   with_reducible rfl
  rotate_left
  ·simp only [Act.put, Z1, Z2, Z3, Y4, Y5]
   rfl
  refine done_ (done_of HT_.out (by kernel_rfl)) ?_
  try go_wp2
  go_ret
  exact ⟨rfl, V0⟩
 ·rw [if_neg c4] at H
  exact absurd H (by simp)
def table_writeMemo.f (k : Nat) (a0_0 : ByteArray) (a0_1 : Int) (a0_2 : Int) (a0_3 : Bool) (a1_0 : Int) (a1_1 : Int) (a1_2 : ByteArray) : Option (ByteArray) := if a1_1 = 0 then ((strings_Repeat.f (⟨#[32]⟩ : ByteArray) a0_2).bind fun t558 => (some t558)) else ((table_writeNum.f k a0_0 a0_1 a0_2 a0_3 a1_0 a1_1 a1_2).bind fun t559 => (some t559))
theorem table_writeMemo.mono : ∀ a0 a1 a2 a3 a4 a5 a6 k, LeO (table_writeMemo.f k a0 a1 a2 a3 a4 a5 a6) (table_writeMemo.f (k + 1) a0 a1 a2 a3 a4 a5 a6) := by
 intro a0 a1 a2 a3 a4 a5 a6 k
 unfold table_writeMemo.f
 repeat' first
   | (with_reducible exact table_writeNum.mono _ _ _ _ _ _ _ _)
   | (with_reducible exact LeO.refl _)
   | (with_reducible exact LeO.none _)
   | (with_reducible refine LeO.ite ?_ ?_)
   | (with_reducible refine LeO.bind ?_ (fun _ => ?_))
set_option maxHeartbeats 8000000 in
set_option maxRecDepth 100000 in
theorem table_writeMemo.calls (k : Nat) (a0_0 : ByteArray) (a0_1 : Int) (a0_2 : Int) (a0_3 : Bool) (a1_0 : Int) (a1_1 : Int) (a1_2 : ByteArray) (r : ByteArray) (w : World) (h : table_writeMemo.f k a0_0 a0_1 a0_2 a0_3 a1_0 a1_1 a1_2 = some r) :
  Calls Tryz.prog 133 #[.agg #[.string a0_0, .int .i64 a0_1, .int .i64 a0_2, .bool a0_3], .agg #[.int .i64 a1_0, .int .i64 a1_1, .string a1_2]] w fun e w' => e = .returned (.string r) ∧ Below w.heap.size w w' := by
 have hu23 := Tryz.underlying23
 have hu25 := Tryz.underlying25
 have HB := Z0 (Below.refl w.heap.size w)
 have H : (if a1_1 = 0 then ((strings_Repeat.f (⟨#[32]⟩ : ByteArray) a0_2).bind fun t558 => (some t558)) else ((table_writeNum.f k a0_0 a0_1 a0_2 a0_3 a1_0 a1_1 a1_2).bind fun t559 => (some t559))) = some r := h
 clear h
 by_cases c3 : a1_1 = 0
 ·rw [if_pos c3] at H
  have c3b0 : (a1_1 == 0) = true := beq_iff_eq.mpr c3
  have c3b1 : (a1_1 != 0) = false := bne_eq_false_iff_eq.mpr c3
  clear c3
  replace H := Option.bind_eq_some_iff.mp H
  obtain ⟨t558, A40, H⟩ := H
  replace H : (some t558) = some r := H
  have A4 := Z0 A40
  clear A40
  obtain rfl := Option.some.inj H
  go_enter Tryz.func133, Tryz.ntmps133
  go_wp2_with (first | ((with_reducible refine Y1 (N := 2) rfl ?_); refine bx (N := 2) (cs := #[.string a0_0, .int .i64 a0_1, .int .i64 a0_2, .bool a0_3]) (t := 23) ?_; intro gb556 hg w5 hbox hb; have BK556 := Z0 (hbox); have GE556 := Z0 ((by rw [hg]; exact (Z9 HB.out) : w.heap.size ≤ gb556)); replace HB := Z0 (Z4 HB.out hb); clear hb hbox hg) | ((with_reducible refine Y1 (N := 3) rfl ?_); refine bx (N := 3) (cs := #[.int .i64 a1_0, .int .i64 a1_1, .string a1_2]) (t := 25) ?_; intro gb557 hg w6 hbox hb; have BK557 := Z0 (hbox); have GE557 := Z0 ((by rw [hg]; exact (Z9 HB.out) : w.heap.size ≤ gb557)); replace HB := Z0 (Z4 HB.out hb); have NB556_557 := Z0 ((by rw [hg]; exact Nat.ne_of_lt (blk_lt BK556.out) : gb556 ≠ gb557)); have NB557_556 := Z0 ((by rw [hg]; exact Nat.ne_of_gt (blk_lt BK556.out) : gb557 ≠ gb556)); replace BK556 := Z0 (Z5 BK556.out hb); clear hb hbox hg; have hnb7 := NB557_556.out; have hnc7 := NB556_557.out; obtain ⟨hcz8_0, hcz8_1, hcz8_2⟩ := bc3 BK557.out; obtain ⟨hfz8_0, hfz8_1, hfz8_2⟩ := bf3 BK557.out; obtain ⟨hcz9_0, hcz9_1, hcz9_2, hcz9_3⟩ := bc4 BK556.out; obtain ⟨hfz9_0, hfz9_1, hfz9_2, hfz9_3⟩ := bf4 BK556.out) | ((with_reducible refine Y2 (f := 99) rfl ?_); refine goesL_ (some 10) rfl rfl Tryz.func99 (by kernel_rfl) rfl #[.string (⟨#[32]⟩ : ByteArray), .int .i64 a0_2] rfl V1 ?_; (with_reducible refine (strings_Repeat.calls (⟨#[32]⟩ : ByteArray) a0_2 t558 _ A4.out).mono ?_); rintro e w10 ⟨rfl, hb⟩; refine ⟨_, rfl, ?_⟩; replace BK556 := Z0 (Z5 BK556.out hb); replace BK557 := Z0 (Z5 BK557.out hb); replace HB := Z0 (Z4 HB.out hb); (try clear hb); (try clear hb2); (try clear hk); (try clear hi)))
  go_ret
  exact ⟨rfl, V0⟩
 ·rw [if_neg c3] at H
  have c3b0 : (a1_1 == 0) = false := beq_eq_false_iff_ne.mpr c3
  have c3b1 : (a1_1 != 0) = true := bne_iff_ne.mpr c3
  replace H := Option.bind_eq_some_iff.mp H
  obtain ⟨t559, A110, H⟩ := H
  replace H : (some t559) = some r := H
  have A11 := Z0 A110
  clear A110
  obtain rfl := Option.some.inj H
  go_enter Tryz.func133, Tryz.ntmps133
  go_wp2_with (first | ((with_reducible refine Y1 (N := 2) rfl ?_); refine bx (N := 2) (cs := #[.string a0_0, .int .i64 a0_1, .int .i64 a0_2, .bool a0_3]) (t := 23) ?_; intro gb556 hg w12 hbox hb; have BK556 := Z0 (hbox); have GE556 := Z0 ((by rw [hg]; exact (Z9 HB.out) : w.heap.size ≤ gb556)); replace HB := Z0 (Z4 HB.out hb); clear hb hbox hg) | ((with_reducible refine Y1 (N := 3) rfl ?_); refine bx (N := 3) (cs := #[.int .i64 a1_0, .int .i64 a1_1, .string a1_2]) (t := 25) ?_; intro gb557 hg w13 hbox hb; have BK557 := Z0 (hbox); have GE557 := Z0 ((by rw [hg]; exact (Z9 HB.out) : w.heap.size ≤ gb557)); replace HB := Z0 (Z4 HB.out hb); have NB556_557 := Z0 ((by rw [hg]; exact Nat.ne_of_lt (blk_lt BK556.out) : gb556 ≠ gb557)); have NB557_556 := Z0 ((by rw [hg]; exact Nat.ne_of_gt (blk_lt BK556.out) : gb557 ≠ gb556)); replace BK556 := Z0 (Z5 BK556.out hb); clear hb hbox hg; have hnb14 := NB557_556.out; have hnc14 := NB556_557.out; obtain ⟨hcz15_0, hcz15_1, hcz15_2⟩ := bc3 BK557.out; obtain ⟨hfz15_0, hfz15_1, hfz15_2⟩ := bf3 BK557.out; obtain ⟨hcz16_0, hcz16_1, hcz16_2, hcz16_3⟩ := bc4 BK556.out; obtain ⟨hfz16_0, hfz16_1, hfz16_2, hfz16_3⟩ := bf4 BK556.out) | ((with_reducible refine Y2 (f := 127) rfl ?_); refine goesL_ (some 13) rfl rfl Tryz.func127 (by kernel_rfl) rfl #[.agg #[.string a0_0, .int .i64 a0_1, .int .i64 a0_2, .bool a0_3], .agg #[.int .i64 a1_0, .int .i64 a1_1, .string a1_2]] rfl V1 ?_; (with_reducible refine (table_writeNum.calls k a0_0 a0_1 a0_2 a0_3 a1_0 a1_1 a1_2 t559 _ A11.out).mono ?_); rintro e w17 ⟨rfl, hb⟩; refine ⟨_, rfl, ?_⟩; replace BK556 := Z0 (Z5 BK556.out hb); replace BK557 := Z0 (Z5 BK557.out hb); replace HB := Z0 (Z4 HB.out hb); (try clear hb); (try clear hb2); (try clear hk); (try clear hi)))
  go_ret
  exact ⟨rfl, V0⟩
end Go.Proofs.YtldpdidlfbphcaaGreatDoor.P
end
section
namespace Go.Proofs.YtldpdidlfbphcaaGreatDoor.P
open Go.RowKit Go.Proofs.YtldpdidlfbphcaaGreatDoorW.PrintWords Go.Proofs.YtldpdidlfbphcaaGreatDoorW.PrintLast Go.Proofs.YtldpdidlfbphcaaGreatDoorW.PrintMore
theorem store_box {P : Program} {ops : Array Oper} {rest : List Oper} {o : Oper} {a : Act} {Q : Exit → Act → World → Prop} {W : World} (hgd : o.guard = none) {ty : TypeId} {p : Tmp} {y : Operand} (ho : o.op = .store ty (.tmp p) y) (hd : o.dst = none)
  (g : Nat) {cells old : Array Value} {t : TypeId} (hx : a.eval (.tmp p) = .pointer (some ⟨g, 0, none⟩)) (hy : a.eval y = .agg cells) (hg : W.heap[g]? = some (.cells old t (0, 0))) (hi : (P.info? ty).map (·.size) = some cells.size) (hold : old.size = cells.size) (h1 : cells.all (·.oneCell') = true)
  (h : ∀ w1, w1.heap[g]? = some (.cells cells t (0, 0)) → (∀ B w0, Below B w0 W → B ≤ g → Below B w0 w1) → (∀ k, k ≠ g → w1.heap[k]? = W.heap[k]?) → wpList P ops Q rest a w1) : wpList P ops Q (o :: rest) a W := by
 refine wpList_store_row hgd ty (.tmp p) y ho g cells hx hy t old hg hi hold h1 ?_
 rw [hd]
 exact h _ (setRow_heap W g old cells t (0, 0) hg) (fun B w0 hb hB => below_setRow hb hB cells) (fun k hk => setRow_other W g k cells hk)
theorem R_append_str {ops : Array Oper} {rest : List Oper} {o : Oper} {a : Act} {Q : Exit → Act → World → Prop} {w0 W : World} (base : Nat) (hgd : o.guard = none) (s x : Operand)
  (ho : o.op = .call { callee := .builtin .append, args := #[s, x], argTypes := #[37, 9] }) (v : Value) (xs : List Int) (str : ByteArray) (ok : Nat → Prop) (hs : a.eval s = v) (hx : a.eval x = .string str)
  (HO : (Kd.int .u8).R 5 W base ok v xs) (HB : Below base w0 W) (hbase : base ≤ W.heap.size) (hl : xs.length + str.size ≤ 140737488355328)
  (h : ∀ v1 w1, (Kd.int .u8).R 5 w1 base (fun _ => True) v1 (xs ++ str.data.toList.map (fun b => (b.toNat : Int))) → Below base w0 w1 → wpList Tryz.prog ops Q rest (a.put o.dst v1) w1) : wpList Tryz.prog ops Q (o :: rest) a W := by
 obtain ⟨i0, hi, hz0, hz1, hz2⟩ := info_parts info5
 refine Lib.wpList_append_own_string W hgd s x 37 9 ho base 5 i0 Tryz.underlying37 Tryz.underlying9 hi hz0 hz1 hz2 v xs.length _ hs (Kd.own_of_R HO) str hx (by unfold maxLen; omega) hl hbase ?_
 intro v1 w1 hown hg _
 refine h v1 w1 (Kd.R_of_own ?_ (fun _ _ => trivial)) ?_
 ·have e1 : (xs ++ str.data.toList.map (fun b => (b.toNat : Int))).length = xs.length + str.size := by
   rw [List.length_append, List.length_map]; rfl
  have e2 : encs (Value.int .u8) (xs ++ str.data.toList.map (fun b => (b.toNat : Int))) = encs (Value.int .u8) xs ++ Lib.strCells str := by
   unfold encs Lib.strCells
   rw [List.map_append, List.map_map]
   rfl
  rw [e1, e2]
  exact hown
 ·exact HB.grown hg hbase (fun k hk => Kd.R_base HO k hk)
def writeO (f : S23) (v : S25) : Option ByteArray :=
 if f.f1 = 1 then table_writeTruth.f f.f0 f.f1 f.f2 f.f3 v.f0 v.f1 v.f2
 else if f.f1 = 2 then table_writeNum.f 100 f.f0 f.f1 f.f2 f.f3 v.f0 v.f1 v.f2
 else if f.f1 = 3 then table_writeDate.f 100 f.f0 f.f1 f.f2 f.f3 v.f0 v.f1 v.f2
 else if f.f1 = 4 then table_writeText.f f.f0 f.f1 f.f2 f.f3 v.f0 v.f1 v.f2
 else if f.f1 = 5 then table_writeMemo.f 100 f.f0 f.f1 f.f2 f.f3 v.f0 v.f1 v.f2
 else none
theorem write_any (f : S23) (v : S25) (p : ByteArray) (h : writeO f v = some p) : ∃ (c lo hi rf : Value) (K : Nat), kindVal f.f1 = .agg #[c, lo, hi, .func (.func K) #[] #[], rf] ∧ (∀ args W, (callFunc K args).run Tryz.prog W = .ok (.enter K args) W) ∧
  ∀ W, Calls Tryz.prog K #[.agg #[.string f.f0, .int .i64 f.f1, .int .i64 f.f2, .bool f.f3], .agg #[.int .i64 v.f0, .int .i64 v.f1, .string v.f2]] W fun e w' => e = .returned (.string p) ∧ Below W.heap.size W w' := by
 unfold writeO at h
 by_cases h1 : f.f1 = 1
 ·rw [if_pos h1] at h
  exact ⟨_, _, _, _, 125, by unfold kindVal; rw [if_pos h1]; rfl, fun args W => enters_ Tryz.func125 (by kernel_rfl) rfl args W, fun W => table_writeTruth.calls _ _ _ _ _ _ _ p W h⟩
 rw [if_neg h1] at h
 by_cases h2 : f.f1 = 2
 ·rw [if_pos h2] at h
  exact ⟨_, _, _, _, 127, by unfold kindVal; rw [if_neg h1, if_pos h2]; rfl, fun args W => enters_ Tryz.func127 (by kernel_rfl) rfl args W, fun W => table_writeNum.calls _ _ _ _ _ _ _ _ p W h⟩
 rw [if_neg h2] at h
 by_cases h3 : f.f1 = 3
 ·rw [if_pos h3] at h
  exact ⟨_, _, _, _, 129, by unfold kindVal; rw [if_neg h1, if_neg h2, if_pos h3]; rfl, fun args W => enters_ Tryz.func129 (by kernel_rfl) rfl args W, fun W => table_writeDate.calls _ _ _ _ _ _ _ _ p W h⟩
 rw [if_neg h3] at h
 by_cases h4 : f.f1 = 4
 ·rw [if_pos h4] at h
  exact ⟨_, _, _, _, 131, by unfold kindVal; rw [if_neg h1, if_neg h2, if_neg h3, if_pos h4]; rfl, fun args W => enters_ Tryz.func131 (by kernel_rfl) rfl args W, fun W => table_writeText.calls _ _ _ _ _ _ _ p W h⟩
 rw [if_neg h4] at h
 by_cases h5 : f.f1 = 5
 ·rw [if_pos h5] at h
  exact ⟨_, _, _, _, 133, by unfold kindVal; rw [if_neg h1, if_neg h2, if_neg h3, if_neg h4, if_pos h5]; rfl, fun args W => enters_ Tryz.func133 (by kernel_rfl) rfl args W, fun W => table_writeMemo.calls _ _ _ _ _ _ _ _ p W h⟩
 rw [if_neg h5] at h
 cases h
theorem goesV_ {P : Program} {ops : Array Oper} {Q : Exit → Act → World → Prop} {oi : Oper} {N : Option Tmp} {a : Act} {w : World} {K : Act → World → Prop} {f : FuncId} {x : Tmp} {xs0 : Array Operand} {ts : Array TypeId} (he : ∀ args W, (callFunc f args).run P W = .ok (.enter f args) W) (args : Array Value)
  (hw : Region.wanted oi (yielded ops a.tmps) = true) (hN : oi.dst = N) (hop : oi.op = .call { callee := .value (.tmp x), args := xs0, argTypes := ts }) (hx : a.eval (.tmp x) = .func (.func f) #[] #[]) (hargs : xs0.map a.eval = args)
  (h : Calls P f args w fun e w' => ∃ v, e = .returned v ∧ K (a.put N v) w') : if Region.wanted oi (yielded ops a.tmps) = true then Oper.wp P oi a w K Q else K (a.put N undef) w := by
 refine call_ f args hw hN ?_ h
 unfold execOp
 simp [hop, resolve, Deferred.ofValue, invoke, hx, hargs, he]
def rowFlag (f : S23) (v : S25) (x6 : List Int) (b : Int) : Option (List Int) :=
 if f.f3 = true then (if v.f0 = 0 then (if 0 ≤ wrap64 (Int.tdiv b 8) then (if wrap64 (Int.tdiv b 8) < (x6.length : Int) then (if 0 ≤ Int.tmod b 8 then some (x6.set (wrap64 (Int.tdiv b 8)).toNat (Go.bits .or .u8 (rd x6 (wrap64 (Int.tdiv b 8))) (shl .u8 1 (Int.tmod b 8)))) else none) else none) else none) else some x6) else some x6
def rowBit (f : S23) (b : Int) : Int := if f.f3 = true then wrap64 (b + 1) else b
def rowPart (f : S23) (v : S25) : Option ByteArray := if v.f0 = 0 then strings_Repeat.f (⟨#[32]⟩ : ByteArray) f.f2 else writeO f v
def rowL : List S23 → List S25 → List Int → Int → ByteArray → Option (List Int × ByteArray)
 | [], _, x6, _, X => some (x6, X)
 | _ :: _, [], _, _, _ => none
 | f :: fs, v :: vs, x6, b, X => (rowFlag f v x6 b).bind fun y6 => (rowPart f v).bind fun p => if X.size + p.size ≤ 140737488355328 then rowL fs vs y6 (rowBit f b) (X ++ p) else none
def bytesI (s : ByteArray) : List Int := s.data.toList.map (fun b => (b.toNat : Int))
def rowHead (g : Bool) : Int := if g = true then 42 else 32
def table_row.f (l0 : List S23) (g : Bool) (l1 : List S25) : Option (List Int) :=
 (table_nullBytes.f (l0.length + 2) l0).bind fun t => if 0 ≤ t then (if (t : Int).toNat ≤ 281474976710656 then (rowL l0 l1 (List.replicate (t : Int).toNat 0) 0 (⟨#[]⟩ : ByteArray)).bind fun FY => if l0.length ≤ 1000000000 ∧ FY.2.size ≠ 0 ∧ 1 + FY.1.length + FY.2.size ≤ 140737488355328 then some (([rowHead g] : List Int) ++ FY.1 ++ bytesI FY.2) else none else none) else none
def RowInv (w : World) (gr gB : Nat) (rc : Array Value) (vo vf : Value) (x5 x6 : List Int) (X : ByteArray) (W : World) : Prop :=
 Kd.R (Kd.int .u8) 5 W w.heap.size (fun k => k < gB) vo x5 ∧ Kd.R (Kd.int .u8) 5 W w.heap.size (fun k => k < gB) vf x6 ∧ (∀ k, vo.ownBlock = some k → vf.ownBlock ≠ some k) ∧
  W.heap[gr]? = some (.cells rc 46 (0, 0)) ∧ gr < gB ∧ w.heap.size ≤ gB ∧ Lib.IsBuilderF 126 5 gB gB (Lib.byteCells X.data.toList) W ∧ Below w.heap.size w W
theorem builder_below {T e : TypeId} {B b : Nat} {p : Value} {bs : List Value} {W W' : World} (h : Lib.BuilderAtF T e B b p bs W) (hb : Below W.heap.size W W') : Lib.BuilderAtF T e B b p bs W' := by
 have hlt := h.lt
 obtain ⟨hB, v, hv, hown, hne⟩ := h
 exact ⟨hB, v, (hb.block b hlt).trans hv, hown.kept (row := none) ⟨hb.os, hb.tape, hb.output, hb.size, fun k hk _ => hb.block k hk⟩ (Classical.em _), hne⟩
theorem isBuilder_below {T e : TypeId} {B b : Nat} {bs : List Value} {W W' : World} (h : Lib.IsBuilderF T e B b bs W) (hb : Below W.heap.size W W') : Lib.IsBuilderF T e B b bs W' :=
 h.elim (fun x => .inl (builder_below x hb)) (fun x => .inr (builder_below x hb))
theorem isBuilder_lt {T e : TypeId} {B b : Nat} {bs : List Value} {W : World} (h : Lib.IsBuilderF T e B b bs W) : b < W.heap.size := h.elim (·.lt) (·.lt)
theorem RowInv.below {w W W' : World} {gr gB : Nat} {rc : Array Value} {vo vf : Value} {x5 x6 : List Int} {X : ByteArray} (h : RowInv w gr gB rc vo vf x5 x6 X W) (hb : Below W.heap.size W W') : RowInv w gr gB rc vo vf x5 x6 X W' := by
 obtain ⟨h1, h2, h3, h4, h5, h6, h7, h8⟩ := h
 exact ⟨Kd.R_below h1 hb, Kd.R_below h2 hb, h3, Z5 h4 hb, h5, h6, isBuilder_below h7 hb, Z4 h8 hb⟩
theorem RowInv.flag {w W : World} {gr gB : Nat} {rc : Array Value} {vo : Value} {g cap n : Nat} {x5 x6 : List Int} {X : ByteArray} (h : RowInv w gr gB rc vo (.slice (some ⟨g, 0, none⟩) n cap) x5 x6 X W) (i x : Int) (h0 : 0 ≤ i) (hi : i < (x6.length : Int)) :
  RowInv w gr gB rc vo (.slice (some ⟨g, 0, none⟩) n cap) x5 (x6.set i.toNat x) X (W.setCell ⟨g, i.toNat, none⟩ (.int .u8 x)) ∧ g < gB := by
 obtain ⟨h1, h2, h3, h4, h5, h6, h7, h8⟩ := h
 obtain ⟨rfl, hnc, _⟩ := Kd.R_reads' h2
 have hlen : 0 < x6.length := by omega
 obtain ⟨g', cap', e', hbg, hlt, cells, hc⟩ := Kd.R_form h2 hlen
 injection e' with e1 _ _
 injection e1 with e1
 injection e1 with e1 _ _
 subst e1
 have hgB : g < gB := h2.1 g (by simp only [Value.ownBlock])
 have hoth : ∀ k, k ≠ g → (W.setCell ⟨g, i.toNat, none⟩ (.int .u8 x)).heap[k]? = W.heap[k]? := fun k hk => Below.heap_setCell W ⟨g, i.toNat, none⟩ _ k hk
 have hown : (Value.slice (some ⟨g, 0, none⟩) x6.length cap).ownBlock = some g := by
  simp only [Value.ownBlock]
 refine ⟨⟨?_, (Kd.R_put h2 i x).1, h3, ?_, h5, h6, ?_, below_set h8 hbg⟩, hgB⟩
 ·have h1' : Kd.R (Kd.int .u8) 5 W w.heap.size (fun k => k < gB ∧ k ≠ g) vo x5 := Kd.R_far1 h1 rfl (fun e => h3 g e.symm hown)
  exact Kd.R_mono (Kd.R_step h1' (fun k hk _ => hoth k hk.2)) (fun _ hk => hk.1)
 ·exact (hoth gr (fun e => by
   subst e
   rw [hc] at h4
   injection h4 with h4
   injection h4 with _ h4
   cases h4)).trans h4
 ·have hb : ∀ p, Lib.BuilderAtF 126 5 gB gB p (Lib.byteCells X.data.toList) W → Lib.BuilderAtF 126 5 gB gB p (Lib.byteCells X.data.toList) (W.setCell ⟨g, i.toNat, none⟩ (.int .u8 x)) := by
   rintro p ⟨hB, v, hv, ho, hne⟩
   refine ⟨hB, v, (hoth gB (by omega)).trans hv, ho.kept (row := some g) ⟨rfl, rfl, rfl, by simp [World.setCell], fun k _ hk => hoth k (fun e => hk (by rw [e]))⟩ (Or.inr ?_), hne⟩
   intro e
   rcases ho.2 with ⟨rfl, _⟩ | ⟨q, cap', cur, fz, rfl, hq, _⟩
   ·simp [Value.ownBlock] at e
   ·simp only [Value.ownBlock, Option.some.injEq] at e
    omega
  exact h7.elim (fun x => .inl (hb _ x)) (fun x => .inr (hb _ x))
theorem RowInv.write {w W W' : World} {gr gB : Nat} {rc : Array Value} {vo vf : Value} {x5 x6 : List Int} {X p : ByteArray} (h : RowInv w gr gB rc vo vf x5 x6 X W) (hw : Lib.BuilderAtF 126 5 gB gB (.pointer (some ⟨gB, 0, none⟩)) (Lib.byteCells X.data.toList ++ Lib.strCells p) W') (hb : Below gB W W') :
  RowInv w gr gB rc vo vf x5 x6 (X ++ p) W' := by
 obtain ⟨h1, h2, h3, h4, h5, h6, h7, h8⟩ := h
 refine ⟨Kd.R_step h1 (fun k hk _ => hb.block k hk), Kd.R_step h2 (fun k hk _ => hb.block k hk), h3, (hb.block gr h5).trans h4, h5, h6, .inr ?_, below_weaken h8 h6 hb⟩
 have e : Lib.byteCells (X ++ p).data.toList = Lib.byteCells X.data.toList ++ Lib.strCells p := by
  rw [Lib.strCells_eq]
  unfold Lib.byteCells
  rw [ByteArray.data_append, Array.toList_append, List.map_append]
 rw [e]
 exact hw
theorem isBuilder_grown {w W w1 : World} {gr gB : Nat} {rc : Array Value} {vo vf : Value} {x5 x6 : List Int} {X : ByteArray} (h : RowInv w gr gB rc vo vf x5 x6 X W) (hg : W.grownBy w1 vo.ownBlock) : Lib.IsBuilderF 126 5 gB gB (Lib.byteCells X.data.toList) w1 := by
 obtain ⟨h1, h2, h3, h4, h5, h6, h7, h8⟩ := h
 have hb : ∀ p, Lib.BuilderAtF 126 5 gB gB p (Lib.byteCells X.data.toList) W → Lib.BuilderAtF 126 5 gB gB p (Lib.byteCells X.data.toList) w1 := by
  rintro p ⟨hB, v, hv, ho, hne⟩
  refine ⟨hB, v, (hg.block gB (blk_lt hv) (fun e => by have := h1.1 gB e.symm; omega)).trans hv, ho.kept (row := vo.ownBlock) hg (Classical.byCases Or.inl (fun hn => Or.inr (fun e => hn ?_))), hne⟩
  rcases ho.2 with ⟨rfl, _⟩ | ⟨q, cap', cur, fz, rfl, hq, _⟩
  ·rfl
  ·simp only [Value.ownBlock] at e
   have := h1.1 q e.symm
   omega
 exact h7.elim (fun x => .inl (hb _ x)) (fun x => .inr (hb _ x))
theorem builder_away {w W w1 : World} {gr gB : Nat} {rc : Array Value} {vo vf v1 : Value} {x5 x6 : List Int} {X : ByteArray} (h : RowInv w gr gB rc vo vf x5 x6 X W) (hg : W.grownBy w1 vo.ownBlock) (hat : v1.ownBlock = vo.ownBlock ∨ ∃ b, v1.ownBlock = some b ∧ W.heap.size ≤ b) :
  ∀ k, v1.ownBlock = some k → ∀ v, w1.cell? ⟨gB, 1, none⟩ = some v → v.ownBlock ≠ some k := by
 intro k hk v hv hvk
 have hbb := h.2.2.2.2.2.2.1
 obtain ⟨p, hB, u, hu, ho, hne⟩ : ∃ p, Lib.BuilderAtF 126 5 gB gB p (Lib.byteCells X.data.toList) W := hbb.elim (fun x => ⟨_, x⟩) (fun x => ⟨_, x⟩)
 have hgB : w1.heap[gB]? = W.heap[gB]? := hg.block gB (blk_lt hu) (fun e => by have := h.1.1 gB e.symm; omega)
 have e1 : w1.cell? ⟨gB, 1, none⟩ = some u := by rw [Y0 (hgB.trans hu) 1]; rfl
 rw [e1] at hv
 obtain rfl := Option.some.inj hv
 rcases ho.2 with ⟨rfl, _⟩ | ⟨q, cap', cur, fz, rfl, hq, hqq, _⟩
 ·simp [Value.ownBlock] at hvk
 ·simp only [Value.ownBlock, Option.some.injEq] at hvk
  subst hvk
  have hlt := blk_lt hqq
  rcases hat with e | ⟨b, e, hb⟩
  ·have := h.1.1 q (e ▸ hk)
   omega
  ·rw [e] at hk
   injection hk with hk
   omega
set_option maxHeartbeats 2000000 in
set_option maxRecDepth 100000 in
theorem builder_string (b : Nat) (l : List UInt8) (w : World) (h : Lib.IsBuilderF 126 5 b b (Lib.byteCells l) w) (h0 : l ≠ []) :
  Calls Tryz.prog 112 #[.pointer (some ⟨b, 0, none⟩)] w fun e w' => e = .returned (.string ⟨l.toArray⟩) ∧ Below b w w' ∧ ∀ k o, w.heap[k]? = some o → (∀ v, w.cell? ⟨b, 1, none⟩ = some v → v.ownBlock ≠ some k) → w'.heap[k]? = some o := by
 obtain ⟨p, hB, v, hbk, hown, hne⟩ : ∃ p, Lib.BuilderAtF 126 5 b b p (Lib.byteCells l) w := h.elim (fun x => ⟨_, x⟩) (fun x => ⟨_, x⟩)
 have hl0 : l.length ≠ 0 := by simpa using h0
 rw [Lib.byteCells_length] at hown
 obtain ⟨g, cap, cur, fz, rfl, hbg, hg, hfz, hnc, hcm, hcs, htake⟩ : ∃ g cap cur fz, v = .slice (some ⟨g, 0, none⟩) l.length cap ∧ b ≤ g ∧ w.heap[g]? = some (.cells cur 5 fz) ∧ fz.2 ≤ l.length * 1 ∧ l.length ≤ cap ∧ cap ≤ maxLen ∧ cur.size = cap * 1 ∧ cur.toList.take (l.length * 1) = Lib.byteCells l := by
  rcases hown.2 with ⟨_, hz⟩ | ⟨g, cap, cur, fz, hv, r⟩
  ·exact absurd hz hl0
  ·exact ⟨g, cap, cur, fz, hv, r⟩
 have c1 : w.drew.cell? ⟨b, 1, none⟩ = some (.slice (some ⟨g, 0, none⟩) l.length cap) := by
  have : w.drew.heap[b]? = some (.cells #[p, .slice (some ⟨g, 0, none⟩) l.length cap] 126 (0, 0)) := hbk
  rw [Lib.cell_of_heap this]; rfl
 have hSD : (Builtin.unsafeSliceData_ #[37] 157 #[.slice (some ⟨g, 0, none⟩) l.length cap]).run Tryz.prog w.drew = .ok (.pointer (some ⟨g, 0, none⟩)) w.drew :=
  Lib.run_unsafeSliceData_row _ _ _ _ _ _ (by omega)
 have hUS : (Builtin.unsafeString_ #[157, 3] 9 #[.pointer (some ⟨g, 0, none⟩), .int .i64 l.length]).run Tryz.prog w.drew = .ok (.string ⟨l.toArray⟩) (w.drew.freeze ⟨g, 0, none⟩ l.length) := by
  refine Lib.run_unsafeString_row w.drew 157 3 9 5 Tryz.underlying157 (by kernel_rfl) g cur.size (by have hg' : w.drew.heap[g]? = some (.cells cur 5 fz) := hg; simp [World.shape?, hg']) l h0 (by omega) (by unfold maxLen at hcm; omega) ?_
  intro j x hx
  have := hown.cells (g := g) rfl j (.int .u8 x.toNat) (by simp [Lib.byteCells, hx])
  exact this
 have hcell : w.cell? ⟨b, 1, none⟩ = some (.slice (some ⟨g, 0, none⟩) l.length cap) := by
  rw [Y0 hbk 1]; rfl
 have hfz : ∀ k, k ≠ g → (w.drew.freeze ⟨g, 0, none⟩ l.length).heap[k]? = w.heap[k]? := by
  intro k hk
  unfold World.freeze
  split
  ·rfl
  ·simp only [Array.getElem?_modify]
   rw [if_neg (fun e => hk e.symm)]
   rfl
 have hfin : Below b w (w.drew.freeze ⟨g, 0, none⟩ l.length) ∧ ∀ k o, w.heap[k]? = some o → (∀ v, w.cell? ⟨b, 1, none⟩ = some v → v.ownBlock ≠ some k) → (w.drew.freeze ⟨g, 0, none⟩ l.length).heap[k]? = some o := by
  refine ⟨⟨?_, ?_, ?_, ?_, fun k hk => hfz k (by omega)⟩, fun k o ho hv => (hfz k (fun e => hv _ hcell (by subst e; simp [Value.ownBlock]))).trans ho⟩
  ·unfold World.freeze; split <;> rfl
  ·unfold World.freeze; split <;> rfl
  ·unfold World.freeze; split <;> rfl
  ·unfold World.freeze
   split
   ·exact Nat.le_refl _
   ·show _ ≤ (Array.modify _ _ _).size
    rw [Array.size_modify]
    exact Nat.le_refl _
 have HF := Z0 hfin
 clear hfin hfz hcell hg hown hbk hbg hne hB hcm hcs htake h hl0
 have hu126 := Tryz.underlying126
 have hu124 := Tryz.underlying124
 go_enter Tryz.func112, Tryz.ntmps112
 go_wp2
 go_region
 all_goals (go_wp2; go_ret; exact ⟨rfl, HF.out⟩)
end Go.Proofs.YtldpdidlfbphcaaGreatDoor.P
end
section
namespace Go.Proofs.YtldpdidlfbphcaaGreatDoor.P
open Go.RowKit Go.Proofs.YtldpdidlfbphcaaGreatDoorW.PrintWords Go.Proofs.YtldpdidlfbphcaaGreatDoorW.PrintLast Go.Proofs.YtldpdidlfbphcaaGreatDoorW.PrintMore
attribute [local go_sem] max2_int min2_int max_two min_two max_three min_three max_four min_four
def table_low.l0 : Nat → Int → List Int → Int → Int → Option (List Int)
 | 0, _, _, _, _ => none
 | k + 1, x0, x5, x6, x7 => if x7 < x6 then (if x5.length < 140737488355328 then (table_low.l0 k (x0 / 256) (x5 ++ [(x0) % 256]) x6 (wrap64 (x7 + 1))) else (none)) else (some x5)
def table_low.f (k : Nat) (a0 : Int) (a1 : Int) : Option (List Int) := table_low.l0 k a0 ([] : List Int) a1 0
theorem table_low.mono_l : ∀ k, (∀ y0 y1 y2 y3, LeO (table_low.l0 k y0 y1 y2 y3) (table_low.l0 (k + 1) y0 y1 y2 y3))
 | 0 => fun _ _ _ _ r h => by simp [table_low.l0] at h
 | k + 1 => by
  have ih0 := table_low.mono_l k
  ·intro y0 y1 y2 y3
   unfold table_low.l0
   repeat' first
   | (with_reducible exact ih0 _ _ _ _)
   | (with_reducible exact LeO.refl _)
   | (with_reducible exact LeO.none _)
   | (with_reducible refine LeO.ite ?_ ?_)
   | (with_reducible refine LeO.bind ?_ (fun _ => ?_))
theorem table_low.mono : ∀ a0 a1 k, LeO (table_low.f k a0 a1) (table_low.f (k + 1) a0 a1) := by
 intro a0 a1 k
 have ih0 := table_low.mono_l k
 unfold table_low.f
 repeat' first
   | (with_reducible exact ih0 _ _ _ _)
   | (with_reducible exact LeO.refl _)
   | (with_reducible exact LeO.none _)
   | (with_reducible refine LeO.ite ?_ ?_)
   | (with_reducible refine LeO.bind ?_ (fun _ => ?_))
set_option maxHeartbeats 8000000 in
set_option maxRecDepth 100000 in
theorem table_low.calls (k : Nat) (a0 : Int) (a1 : Int) (r : List Int) (w : World) (h : table_low.f k a0 a1 = some r) :
  Calls Tryz.prog 109 #[.int .i64 a0, .int .i64 a1] w fun e w' => ∃ v0_ : Value, e = .returned (v0_) ∧ Kd.R (Kd.int .u8) 5 w' w.heap.size (fun _ => True) v0_ r ∧ Below w.heap.size w w' := by
 have HB := Z0 (Below.refl w.heap.size w)
 have H : (table_low.l0 k a0 ([] : List Int) a1 0) = some r := h
 clear h
 have H' := Z0 H
 clear H
 go_enter Tryz.func109, Tryz.ntmps109
 go_wp2
 go_loopg [0, 5, 7] k (fun kq v0 v5 v7 w' => ∃ (x0_1 : Int) (x5_1 : List Int) (x7_1 : Int), v0 = .int .i64 x0_1 ∧ v7 = .int .i64 x7_1 ∧ Aside0 (table_low.l0 kq x0_1 x5_1 a1 x7_1 = some r) ∧ Aside0 (kq ≤ k) ∧ Aside0 (Kd.R (Kd.int .u8) 5 w' w.heap.size (fun _ => True) v5 x5_1) ∧ Aside0 (Below w.heap.size w w'))
 case atStart => exact ⟨(a0), (([] : List Int)), (0), V2, V2, H', ⟨Nat.le_refl _⟩, ⟨by first | exact Kd.R_nil _ _ _ _ _ | exact Kd.N_nil _ _ _ _ _ | exact Kd.V_nil _ _ _ _ _ | exact Kd.Q_nil _ _ _ _ _ | exact Kd.S_nil _ _ _ _ _⟩, ⟨V0⟩⟩
 case round =>
  clear H'
  (try clear c1);(try clear p2)
  obtain ⟨x0_1, x5_1, x7_1, rfl, rfl, HA, HK1, HO_5, HB⟩ := hrel
  cases gk with
  | zero => exact absurd HA.out (by simp [table_low.l0])
  | succ k1 =>
   have H := HA.out
   clear HA
   simp only [table_low.l0] at H
   by_cases c3 : x7_1 < a1
   ·rw [if_pos c3] at H
    have c3b0 : decide (x7_1 < a1) = true := decide_eq_true c3
    clear c3
    by_cases c4 : x5_1.length < 140737488355328
    ·rw [if_pos c4] at H
     have LMc4 := Z0 c4
     clear c4
     obtain ⟨y549, hy549⟩ : ∃ y_ : List Int, y_ = (x5_1 ++ [(x0_1) % 256]) := ⟨_, rfl⟩
     replace H : (table_low.l0 k1 (x0_1 / 256) y549 a1 (wrap64 (x7_1 + 1))) = some r := by rw [hy549]; exact H
     have Ny549 := Z0 hy549
     clear hy549
     have H' := Z0 H
     clear H
     go_wp2_with (first | ((with_reducible refine gate_builtin (b := .append) (xs := #[.tmp 9, .tmp 12]) rfl ?_); at_builtin; refine Kd.R_append (Kd.int .u8) (w0 := w) w.heap.size rfl (.tmp 9) (.tmp 12) 37 5 (.int .u8 0) 1 rfl Tryz.underlying37 info5 rfl (by decide) (by omega) u5 x5_1 ((x0_1) % 256) [.int .u8 ((x0_1) % 256)] (fun _ => True) (fun _ => False) rfl rfl ?aP (fun _ hk => hk.elim) ?aF ?aO ?aB ?aS ?aL ?_; (case aP => exact rfl); (case aB => exact HB.out); (case aF => exact (fun _ _ => trivial)); (case aO => exact HO_5.out); (case aS => exact (Z9 HB.out)); (case aL => have := LMc4.out; omega); intro v550 w5 ho hb hg hat; rw [← Ny549.out] at ho; replace HB := Z0 (hb); have HO551 := Z0 (ho); clear HO_5; clear ho hb hg hat))
     go_roundg k1
     case measure => have := HK1.out; omega
     case rel => exact ⟨(x0_1 / 256), (y549), (wrap64 (x7_1 + 1)), V2, V2, H', ⟨by have := HK1.out; omega⟩, ⟨by (with_reducible repeat (first | apply Kd.R_alloc | apply Kd.R_drewN | apply Kd.R_drew)); exact HO551.out⟩, ⟨V0⟩⟩
    ·rw [if_neg c4] at H
     exact absurd H (by simp)
   ·rw [if_neg c3] at H
    have c3b0 : decide (x7_1 < a1) = false := decide_eq_false c3
    clear c3
    obtain rfl := Option.some.inj H
    go_wp2
    go_ret
    exact ⟨_, rfl, by (with_reducible repeat (first | apply Kd.R_alloc | apply Kd.R_drewN | apply Kd.R_drew)); exact HO_5.out, V0⟩
def table_headerLength.f (a0 : Int) : Option (Int) := some (wrap64 (13 + (wrap64 (16 * a0))))
set_option maxHeartbeats 8000000 in
set_option maxRecDepth 100000 in
theorem table_headerLength.calls (a0 : Int) (r : Int) (w : World) (h : table_headerLength.f a0 = some r) :
  Calls Tryz.prog 110 #[.int .i64 a0] w fun e w' => e = .returned (.int .i64 r) ∧ Drawn0 w w' := by
 have H : (some (wrap64 (13 + (wrap64 (16 * a0))))) = some r := h
 clear h
 obtain rfl := Option.some.inj H
 go_enter Tryz.func110, Tryz.ntmps110
 go_wp2
 go_ret
 exact ⟨V2, by repeat (first | exact Y7 _ | apply Y6)⟩
def table_header.l0 : Nat → List Int → List (S23) → Int → Int → Option (List Int)
 | 0, _, _, _, _ => none
 | k + 1, x3, x37, x38, x39 => if x39 < x38 then (if 0 ≤ x39 then (if x39 < (x37.length : Int) then ((descO (rd_T23 x37 x39)).bind fun t200 => (if x3.length + t200.length < 140737488355328 then (table_header.l0 k (x3 ++ t200) x37 x38 (wrap64 (x39 + 1))) else (none))) else (none)) else (none)) else (if x3.length < 140737488355328 then (some (x3 ++ [13])) else (none))
def table_header.f (k : Nat) (a0_0 : Int) (l0_1 : List (S23)) (l0_2 : List (S46)) : Option (List Int) := (some (([67, (a0_0) % 256] : List Int) : List Int)).bind fun y169 => ((table_low.f k (l0_2.length : Int) 4).bind fun t172 => (if y169.length + t172.length < 140737488355328 then ((some (y169 ++ t172 : List Int)).bind fun y175 => ((table_headerLength.f (l0_1.length : Int)).bind fun t178 => ((table_low.f k t178 2).bind fun t179 => (if y175.length + t179.length < 140737488355328 then ((some (y175 ++ t179 : List Int)).bind fun y182 => ((table_length.f k l0_1).bind fun t185 => ((table_low.f k t185 2).bind fun t186 => (if y182.length + t186.length < 140737488355328 then ((some (y182 ++ t186 : List Int)).bind fun y189 => ((some (([((l0_1.length : Int)) % 256, 0] : List Int) : List Int)).bind fun y192 => (if y189.length + y192.length < 140737488355328 then (table_header.l0 k (y189 ++ y192) l0_1 (l0_1.length : Int) 0) else (none)))) else (none))))) else (none))))) else (none)))
theorem table_header.mono_l : ∀ k, (∀ y0 y1 y2 y3, LeO (table_header.l0 k y0 y1 y2 y3) (table_header.l0 (k + 1) y0 y1 y2 y3))
 | 0 => fun _ _ _ _ r h => by simp [table_header.l0] at h
 | k + 1 => by
  have ih0 := table_header.mono_l k
  ·intro y0 y1 y2 y3
   unfold table_header.l0
   repeat' first
   | (with_reducible exact ih0 _ _ _ _)
   | (with_reducible exact table_length.mono _ _)
   | (with_reducible exact table_low.mono _ _ _)
   | (with_reducible exact LeO.refl _)
   | (with_reducible exact LeO.none _)
   | (with_reducible refine LeO.ite ?_ ?_)
   | (with_reducible refine LeO.bind ?_ (fun _ => ?_))
theorem table_header.mono : ∀ a0 a1 a2 k, LeO (table_header.f k a0 a1 a2) (table_header.f (k + 1) a0 a1 a2) := by
 intro a0 a1 a2 k
 have ih0 := table_header.mono_l k
 unfold table_header.f
 repeat' first
   | (with_reducible exact ih0 _ _ _ _)
   | (with_reducible exact table_length.mono _ _)
   | (with_reducible exact table_low.mono _ _ _)
   | (with_reducible exact LeO.refl _)
   | (with_reducible exact LeO.none _)
   | (with_reducible refine LeO.ite ?_ ?_)
   | (with_reducible refine LeO.bind ?_ (fun _ => ?_))
def table_header.T1 : Bool × List (List Nat × List Nat) := (true, [([], []), ([0], [0]), ([1], [1]), ([2], [2]), ([], []), ([4], [4]), ([5], [5]), ([6], [6]), ([3, 7, 7], [3, 7]), ([8, 8, 0, 1, 2, 3, 4, 5, 6, 7, 8], [8])])
def table_header.B1 : List Nat := [0, 1, 3, 7, 0, 16, 48, 112, 255, 511]
theorem table_header.tab1 : rtab .any (opsOf Tryz.f62 1) = table_header.T1 := by kernel_rfl
theorem table_header.bits1 : waitsOk table_header.T1.2 table_header.B1 = true := by kernel_rfl
set_option maxHeartbeats 8000000 in
set_option maxRecDepth 100000 in
theorem table_header.calls (k : Nat) (a0_0 : Int) (A0_1 : Option Addr) (c0_1 : Nat) (l0_1 : List (S23)) (A0_2 : Option Addr) (c0_2 : Nat) (l0_2 : List (S46)) (r : List Int) (w : World) (hr0_1 : Kd.C k23 w A0_1 l0_1.length l0_1) (hc0_1 : l0_1.length ≤ c0_1) (hr0_2 : Kd.C k46 w A0_2 l0_2.length l0_2) (hc0_2 : l0_2.length ≤ c0_2) (h : table_header.f k a0_0 l0_1 l0_2 = some r) :
  Calls Tryz.prog 62 #[.agg #[.int .i64 a0_0, .slice A0_1 l0_1.length c0_1, .slice A0_2 l0_2.length c0_2]] w fun e w' => ∃ v0_ : Value, e = .returned (v0_) ∧ Kd.R (Kd.int .u8) 5 w' w.heap.size (fun _ => True) v0_ r ∧ Below w.heap.size w w' := by
 have hu35 := Tryz.underlying35
 have hu23 := Tryz.underlying23
 have HR0_1 := Z0 hr0_1
 have HC0_1 := Z0 hc0_1
 clear hr0_1 hc0_1
 have HR0_2 := Z0 hr0_2
 have HC0_2 := Z0 hc0_2
 clear hr0_2 hc0_2
 have HB := Z0 (Below.refl w.heap.size w)
 have H : ((some (([67, (a0_0) % 256] : List Int) : List Int)).bind fun y169 => ((table_low.f k (l0_2.length : Int) 4).bind fun t172 => (if y169.length + t172.length < 140737488355328 then ((some (y169 ++ t172 : List Int)).bind fun y175 => ((table_headerLength.f (l0_1.length : Int)).bind fun t178 => ((table_low.f k t178 2).bind fun t179 => (if y175.length + t179.length < 140737488355328 then ((some (y175 ++ t179 : List Int)).bind fun y182 => ((table_length.f k l0_1).bind fun t185 => ((table_low.f k t185 2).bind fun t186 => (if y182.length + t186.length < 140737488355328 then ((some (y182 ++ t186 : List Int)).bind fun y189 => ((some (([((l0_1.length : Int)) % 256, 0] : List Int) : List Int)).bind fun y192 => (if y189.length + y192.length < 140737488355328 then (table_header.l0 k (y189 ++ y192) l0_1 (l0_1.length : Int) 0) else (none)))) else (none))))) else (none))))) else (none)))) = some r := h
 clear h
 obtain ⟨y169, hy169⟩ : ∃ y_ : List Int, y_ = (([67, (a0_0) % 256] : List Int)) := ⟨_, rfl⟩
 replace H : ((table_low.f k (l0_2.length : Int) 4).bind fun t172 => (if y169.length + t172.length < 140737488355328 then ((some (y169 ++ t172 : List Int)).bind fun y175 => ((table_headerLength.f (l0_1.length : Int)).bind fun t178 => ((table_low.f k t178 2).bind fun t179 => (if y175.length + t179.length < 140737488355328 then ((some (y175 ++ t179 : List Int)).bind fun y182 => ((table_length.f k l0_1).bind fun t185 => ((table_low.f k t185 2).bind fun t186 => (if y182.length + t186.length < 140737488355328 then ((some (y182 ++ t186 : List Int)).bind fun y189 => ((some (([((l0_1.length : Int)) % 256, 0] : List Int) : List Int)).bind fun y192 => (if y189.length + y192.length < 140737488355328 then (table_header.l0 k (y189 ++ y192) l0_1 (l0_1.length : Int) 0) else (none)))) else (none))))) else (none))))) else (none))) = some r := by rw [hy169]; exact H
 have Ny169 := Z0 hy169
 clear hy169
 replace H := Option.bind_eq_some_iff.mp H
 obtain ⟨t172, A20, H⟩ := H
 replace H : (if y169.length + t172.length < 140737488355328 then ((some (y169 ++ t172 : List Int)).bind fun y175 => ((table_headerLength.f (l0_1.length : Int)).bind fun t178 => ((table_low.f k t178 2).bind fun t179 => (if y175.length + t179.length < 140737488355328 then ((some (y175 ++ t179 : List Int)).bind fun y182 => ((table_length.f k l0_1).bind fun t185 => ((table_low.f k t185 2).bind fun t186 => (if y182.length + t186.length < 140737488355328 then ((some (y182 ++ t186 : List Int)).bind fun y189 => ((some (([((l0_1.length : Int)) % 256, 0] : List Int) : List Int)).bind fun y192 => (if y189.length + y192.length < 140737488355328 then (table_header.l0 k (y189 ++ y192) l0_1 (l0_1.length : Int) 0) else (none)))) else (none))))) else (none))))) else (none)) = some r := H
 have A2 := Z0 A20
 clear A20
 by_cases c3 : y169.length + t172.length < 140737488355328
 ·rw [if_pos c3] at H
  have LMc3 := Z0 c3
  clear c3
  obtain ⟨y175, hy175⟩ : ∃ y_ : List Int, y_ = (y169 ++ t172) := ⟨_, rfl⟩
  replace H : ((table_headerLength.f (l0_1.length : Int)).bind fun t178 => ((table_low.f k t178 2).bind fun t179 => (if y175.length + t179.length < 140737488355328 then ((some (y175 ++ t179 : List Int)).bind fun y182 => ((table_length.f k l0_1).bind fun t185 => ((table_low.f k t185 2).bind fun t186 => (if y182.length + t186.length < 140737488355328 then ((some (y182 ++ t186 : List Int)).bind fun y189 => ((some (([((l0_1.length : Int)) % 256, 0] : List Int) : List Int)).bind fun y192 => (if y189.length + y192.length < 140737488355328 then (table_header.l0 k (y189 ++ y192) l0_1 (l0_1.length : Int) 0) else (none)))) else (none))))) else (none)))) = some r := by rw [hy175]; exact H
  have Ny175 := Z0 hy175
  clear hy175
  replace H := Option.bind_eq_some_iff.mp H
  obtain ⟨t178, A40, H⟩ := H
  replace H : ((table_low.f k t178 2).bind fun t179 => (if y175.length + t179.length < 140737488355328 then ((some (y175 ++ t179 : List Int)).bind fun y182 => ((table_length.f k l0_1).bind fun t185 => ((table_low.f k t185 2).bind fun t186 => (if y182.length + t186.length < 140737488355328 then ((some (y182 ++ t186 : List Int)).bind fun y189 => ((some (([((l0_1.length : Int)) % 256, 0] : List Int) : List Int)).bind fun y192 => (if y189.length + y192.length < 140737488355328 then (table_header.l0 k (y189 ++ y192) l0_1 (l0_1.length : Int) 0) else (none)))) else (none))))) else (none))) = some r := H
  have A4 := Z0 A40
  clear A40
  replace H := Option.bind_eq_some_iff.mp H
  obtain ⟨t179, A50, H⟩ := H
  replace H : (if y175.length + t179.length < 140737488355328 then ((some (y175 ++ t179 : List Int)).bind fun y182 => ((table_length.f k l0_1).bind fun t185 => ((table_low.f k t185 2).bind fun t186 => (if y182.length + t186.length < 140737488355328 then ((some (y182 ++ t186 : List Int)).bind fun y189 => ((some (([((l0_1.length : Int)) % 256, 0] : List Int) : List Int)).bind fun y192 => (if y189.length + y192.length < 140737488355328 then (table_header.l0 k (y189 ++ y192) l0_1 (l0_1.length : Int) 0) else (none)))) else (none))))) else (none)) = some r := H
  have A5 := Z0 A50
  clear A50
  by_cases c6 : y175.length + t179.length < 140737488355328
  ·rw [if_pos c6] at H
   have LMc6 := Z0 c6
   clear c6
   obtain ⟨y182, hy182⟩ : ∃ y_ : List Int, y_ = (y175 ++ t179) := ⟨_, rfl⟩
   replace H : ((table_length.f k l0_1).bind fun t185 => ((table_low.f k t185 2).bind fun t186 => (if y182.length + t186.length < 140737488355328 then ((some (y182 ++ t186 : List Int)).bind fun y189 => ((some (([((l0_1.length : Int)) % 256, 0] : List Int) : List Int)).bind fun y192 => (if y189.length + y192.length < 140737488355328 then (table_header.l0 k (y189 ++ y192) l0_1 (l0_1.length : Int) 0) else (none)))) else (none)))) = some r := by rw [hy182]; exact H
   have Ny182 := Z0 hy182
   clear hy182
   replace H := Option.bind_eq_some_iff.mp H
   obtain ⟨t185, A70, H⟩ := H
   replace H : ((table_low.f k t185 2).bind fun t186 => (if y182.length + t186.length < 140737488355328 then ((some (y182 ++ t186 : List Int)).bind fun y189 => ((some (([((l0_1.length : Int)) % 256, 0] : List Int) : List Int)).bind fun y192 => (if y189.length + y192.length < 140737488355328 then (table_header.l0 k (y189 ++ y192) l0_1 (l0_1.length : Int) 0) else (none)))) else (none))) = some r := H
   have A7 := Z0 A70
   clear A70
   replace H := Option.bind_eq_some_iff.mp H
   obtain ⟨t186, A80, H⟩ := H
   replace H : (if y182.length + t186.length < 140737488355328 then ((some (y182 ++ t186 : List Int)).bind fun y189 => ((some (([((l0_1.length : Int)) % 256, 0] : List Int) : List Int)).bind fun y192 => (if y189.length + y192.length < 140737488355328 then (table_header.l0 k (y189 ++ y192) l0_1 (l0_1.length : Int) 0) else (none)))) else (none)) = some r := H
   have A8 := Z0 A80
   clear A80
   by_cases c9 : y182.length + t186.length < 140737488355328
   ·rw [if_pos c9] at H
    have LMc9 := Z0 c9
    clear c9
    obtain ⟨y189, hy189⟩ : ∃ y_ : List Int, y_ = (y182 ++ t186) := ⟨_, rfl⟩
    replace H : ((some (([((l0_1.length : Int)) % 256, 0] : List Int) : List Int)).bind fun y192 => (if y189.length + y192.length < 140737488355328 then (table_header.l0 k (y189 ++ y192) l0_1 (l0_1.length : Int) 0) else (none))) = some r := by rw [hy189]; exact H
    have Ny189 := Z0 hy189
    clear hy189
    obtain ⟨y192, hy192⟩ : ∃ y_ : List Int, y_ = (([((l0_1.length : Int)) % 256, 0] : List Int)) := ⟨_, rfl⟩
    replace H : (if y189.length + y192.length < 140737488355328 then (table_header.l0 k (y189 ++ y192) l0_1 (l0_1.length : Int) 0) else (none)) = some r := by rw [hy192]; exact H
    have Ny192 := Z0 hy192
    clear hy192
    by_cases c10 : y189.length + y192.length < 140737488355328
    ·rw [if_pos c10] at H
     have LMc10 := Z0 c10
     clear c10
     obtain ⟨y195, hy195⟩ : ∃ y_ : List Int, y_ = (y189 ++ y192) := ⟨_, rfl⟩
     replace H : (table_header.l0 k y195 l0_1 (l0_1.length : Int) 0) = some r := by rw [hy195]; exact H
     have Ny195 := Z0 hy195
     clear hy195
     have H' := Z0 H
     clear H
     go_enter Tryz.func62, Tryz.ntmps62
     try go_wp2_with (first | ((with_reducible refine Y1 (N := 1) rfl ?_); refine bx (N := 1) (cs := #[.int .i64 a0_0, .slice A0_1 l0_1.length c0_1, .slice A0_2 l0_2.length c0_2]) (t := 35) ?_; intro gb168 hg w11 hbox hb; have BK168 := Z0 (hbox); have GE168 := Z0 ((by rw [hg]; exact (Z9 V0) : w.heap.size ≤ gb168)); replace HB := Z0 (Z4 V0 hb); clear hb hbox hg))
     have n0_ := Z0 (Z8 BK168.out)
     have n1_ := Z0 (below_drew1 HB.out)
     clear BK168
     clear HB
     have BK168 := n0_
     have HB := n1_
     clear n0_ n1_
     refine start_ (n := 10) (S := fun w' => w'.cell? ⟨gb168, 0, none⟩ = some (.int .i64 a0_0) ∧ w'.cell? ⟨gb168, 1, none⟩ = some (.slice A0_1 l0_1.length c0_1) ∧ w'.cell? ⟨gb168, 2, none⟩ = some (.slice A0_2 l0_2.length c0_2)) (ds := []) (bs 10 0) (by kernel_rfl) rfl rfl ⟨(Y0 BK168.out 0).trans rfl, (Y0 BK168.out 1).trans rfl, (Y0 BK168.out 2).trans rfl⟩ (fun hHeld => ?_); refine with_tabW table_header.tab1 table_header.bits1 (fun HT_ HW_ => ?_)
     generalize w11.drew = w12 at BK168 HB hHeld ⊢
     refine Y8 (i := 0) (N := some 7) (v := ?_) (a' := ?_) (bs 10 1) rfl rfl (Y3 HT_.out (by kernel_rfl)) (fun _ _ _ h => h) (Or.inl ⟨by rfl, ?_⟩) ?_ ?_
     rotate_left
     ·intro w'
      go_simp
      with_reducible rfl
     rotate_left
     ·simp only [Act.put, Z1, Z2, Z3, Y4, Y5]
      rfl
     refine Y8 (i := 4) (N := some 11) (v := ?_) (a' := ?_) (bs 10 17) rfl rfl (Y3 HT_.out (by kernel_rfl)) (fun _ _ _ h => h) (Or.inl ⟨by rfl, ?_⟩) ?_ ?_
     rotate_left
     ·intro w'
      go_simp
      with_reducible rfl
     rotate_left
     ·simp only [Act.put, Z1, Z2, Z3, Y4, Y5]
      rfl
     refine take_ (i := 1) (N := some 8) (v := ?_) (a' := ?_) (bs 10 19) rfl rfl (take_ofW HT_.out HW_.out (by kernel_rfl)) (fun _ _ _ h => h) (Or.inl ⟨by rfl, ?_⟩) hHeld ?_ ?_
     rotate_left
     ·rintro w' ⟨s0, s1, s2⟩
      go_simp
      with_reducible rfl
     rotate_left
     ·simp only [Act.put, Z1, Z2, Z3, Y4, Y5]
      rfl
     refine Y8 (i := 2) (N := some 9) (v := ?_) (a' := ?_) (bs 10 23) rfl rfl (Y3 HT_.out (by kernel_rfl)) (fun _ _ _ h => h) (Or.inl ⟨by rfl, ?_⟩) ?_ ?_
     rotate_left
     ·intro w'
      go_simp
      with_reducible rfl
     rotate_left
     ·simp only [Act.put, Z1, Z2, Z3, Y4, Y5]
      rfl
     refine take_ (i := 5) (N := some 12) (v := ?_) (a' := ?_) (bs 10 55) rfl rfl (take_ofW HT_.out HW_.out (by kernel_rfl)) (fun _ _ _ h => h) (Or.inl ⟨by rfl, ?_⟩) hHeld ?_ ?_
     rotate_left
     ·rintro w' ⟨s0, s1, s2⟩
      go_simp
      with_reducible rfl
     rotate_left
     ·simp only [Act.put, Z1, Z2, Z3, Y4, Y5]
      rfl
     refine Y8 (i := 6) (N := some 13) (v := ?_) (a' := ?_) (bs 10 119) rfl rfl (Y3 HT_.out (by kernel_rfl)) (fun _ _ _ h => h) (Or.inl ⟨by rfl, ?_⟩) ?_ ?_
     rotate_left
     ·intro w'
      go_simp
      with_reducible rfl
     rotate_left
     ·simp only [Act.put, Z1, Z2, Z3, Y4, Y5]
      rfl
     refine join_ (σ := Value × Value) 2 (bs 10 255) (fun s_ => [(10, s_.1), (14, s_.2)]) (fun s_ w' => (w'.cell? ⟨gb168, 0, none⟩ = some (.int .i64 a0_0) ∧ w'.cell? ⟨gb168, 1, none⟩ = some (.slice A0_1 l0_1.length c0_1) ∧ w'.cell? ⟨gb168, 2, none⟩ = some (.slice A0_2 l0_2.length c0_2)) ∧ (Kd.R (Kd.int .u8) 5 w' w.heap.size (fun k_ => some k_ ≠ (s_.2 : Value).ownBlock) s_.1 y169) ∧ (Kd.R (Kd.int .u8) 5 w' w.heap.size (fun k_ => some k_ ≠ (s_.1 : Value).ownBlock) s_.2 t172) ∧ (w'.heap[gb168]? = some (.cells #[.int .i64 a0_0, .slice A0_1 l0_1.length c0_1, .slice A0_2 l0_2.length c0_2] 35 (0, 0))) ∧ (Below w.heap.size w w')) ?_ ?_
     rotate_left
     ·intro hCont
      refine two_ (i := 3) (j := 7) (Ni := some 10) (Nj := some 14) (bs 10 127) (bs 10 247) rfl rfl rfl rfl (two_of HT_.out (by kernel_rfl)) (by decide) (by decide) (fun K hK => ?_) (fun K hK => ?_)
      ·skip
       refine Kd.R_lit_step (Kd.int .u8) _ 5 ?hg (N := 10) ?hd (xs := ([67, (a0_0) % 256] : List Int)) (inner := [.int .u8 67, .int .u8 ((a0_0) % 256)]) (ok := fun _ => True) (okp := fun _ => True) ?hr ?hp (fun _ hk => hk) trivial (Below.refl _ _) (Nat.le_refl _) (by simp) ?_; (case hd => rfl); (case hg => rfl); (case hr => go_simp; try rfl); (case hp => exact (Reps.one (show Kd.M (Kd.int .u8) _ _ _ 67 [.int .u8 67] from rfl) (Reps.one (show Kd.M (Kd.int .u8) _ _ _ ((a0_0) % 256) [.int .u8 ((a0_0) % 256)] from rfl) (Reps.none _ _))))
       intro v170 w13 ho14 hb hg_ hnew_
       clear hg_ hnew_
       (first | rw [← Ny169.out] at ho14 | (simp only [Int.reduceToNat] at ho14; rw [← Ny169.out] at ho14))
       have n0_ := Z0 (Kd.R_lower ho14 (Z9 V0))
       have n1_ := Z0 (Z5 (g := gb168) (o := .cells #[.int .i64 a0_0, .slice A0_1 l0_1.length c0_1, .slice A0_2 l0_2.length c0_2] 35 (0, 0)) (by (with_reducible repeat (first | refine Z6 ?_ _ | refine Z8 ?_ | refine Z7 ?_ _)); exact BK168.out) hb)
       have n2_ := Z0 (Z4 V0 hb)
       clear BK168
       clear HB
       have HO171 := n0_
       have BK168 := n1_
       have HB := n2_
       clear n0_ n1_ n2_
       clear hb ho14
       refine hK.out _ _ ⟨(Y0 BK168.out 0).trans rfl, (Y0 BK168.out 1).trans rfl, (Y0 BK168.out 2).trans rfl⟩ (fun hHeld => ?_)
       clear hK K
       refine norm_ (a' := ?_) ?_ ?_
       rotate_left
       ·show Act.put _ (some 10) _ = _
        simp only [Act.put, Z1, Z2, Z3, Y4, Y5]
        rfl
       refine one_ (i := 7) (N := some 14) (bs 10 255) rfl rfl (one_of HT_.out (by kernel_rfl)) (by decide) (fun K hK => ?_)
       refine goes_ Tryz.func109 (by kernel_rfl) rfl #[.int .i64 (l0_2.length : Int), .int .i64 4] (by rfl) rfl rfl V1 ?_
       with_reducible refine (table_low.calls k (l0_2.length : Int) 4 t172 _ A2.out).mono ?_
       rintro e w15 ⟨v173, rfl, ho0, hb⟩
       refine ⟨_, rfl, ?_⟩
       have n0_ := Z0 (Kd.R_elder' (by (with_reducible repeat (first | apply Kd.R_alloc | apply Kd.R_drewN | apply Kd.R_drew)); exact HO171.out) (Kd.R_base ho0) hb)
       have n1_ := Z0 (Kd.R_lower (Kd.R_new' ho0 (Kd.R_lt (by (with_reducible repeat (first | apply Kd.R_alloc | apply Kd.R_drewN | apply Kd.R_drew)); exact HO171.out))) (Z9 V0))
       have n2_ := Z0 (Z5 (g := gb168) (o := .cells #[.int .i64 a0_0, .slice A0_1 l0_1.length c0_1, .slice A0_2 l0_2.length c0_2] 35 (0, 0)) (by (with_reducible repeat (first | refine Z6 ?_ _ | refine Z8 ?_ | refine Z7 ?_ _)); exact BK168.out) hb)
       have n3_ := Z0 (Z4 V0 hb)
       clear HO171
       clear BK168
       clear HB
       have HO171 := n0_
       have HO174 := n1_
       have BK168 := n2_
       have HB := n3_
       clear n0_ n1_ n2_ n3_
       (try clear hb)
       (try clear hb2)
       (try clear hk)
       (try clear hi)
       (try clear ho0)
       refine hK.out _ _ ⟨(Y0 BK168.out 0).trans rfl, (Y0 BK168.out 1).trans rfl, (Y0 BK168.out 2).trans rfl⟩ (fun hHeld => ?_)
       clear hK K
       refine norm_ (a' := ?_) ?_ ?_
       rotate_left
       ·show Act.put _ (some 14) _ = _
        simp only [Act.put, Z1, Z2, Z3, Y4, Y5]
        rfl
       exact norm_ (by simp only [putAll, Act.put, Z1, Z2, Z3]) (hCont (v170, v173) _ ⟨hHeld, (by (with_reducible repeat (first | apply Kd.R_alloc | apply Kd.R_drewN | apply Kd.R_drew)); exact Kd.R_mono HO171.out (fun _ hk => hk.2)), (by (with_reducible repeat (first | apply Kd.R_alloc | apply Kd.R_drewN | apply Kd.R_drew)); exact Kd.R_mono HO174.out (fun _ hk => hk.2)), (by (with_reducible repeat (first | refine Z6 ?_ _ | refine Z8 ?_ | refine Z7 ?_ _)); exact BK168.out), V0⟩)
      ·skip
       refine goes_ Tryz.func109 (by kernel_rfl) rfl #[.int .i64 (l0_2.length : Int), .int .i64 4] (by rfl) rfl rfl V1 ?_
       with_reducible refine (table_low.calls k (l0_2.length : Int) 4 t172 _ A2.out).mono ?_
       rintro e w13 ⟨v173, rfl, ho0, hb⟩
       refine ⟨_, rfl, ?_⟩
       have n0_ := Z0 (Kd.R_lower ho0 (Z9 V0))
       have n1_ := Z0 (Z5 (g := gb168) (o := .cells #[.int .i64 a0_0, .slice A0_1 l0_1.length c0_1, .slice A0_2 l0_2.length c0_2] 35 (0, 0)) (by (with_reducible repeat (first | refine Z6 ?_ _ | refine Z8 ?_ | refine Z7 ?_ _)); exact BK168.out) hb)
       have n2_ := Z0 (Z4 V0 hb)
       clear BK168
       clear HB
       have HO174 := n0_
       have BK168 := n1_
       have HB := n2_
       clear n0_ n1_ n2_
       (try clear hb)
       (try clear hb2)
       (try clear hk)
       (try clear hi)
       (try clear ho0)
       refine hK.out _ _ ⟨(Y0 BK168.out 0).trans rfl, (Y0 BK168.out 1).trans rfl, (Y0 BK168.out 2).trans rfl⟩ (fun hHeld => ?_)
       clear hK K
       refine norm_ (a' := ?_) ?_ ?_
       rotate_left
       ·show Act.put _ (some 14) _ = _
        simp only [Act.put, Z1, Z2, Z3, Y4, Y5]
        rfl
       refine one_ (i := 3) (N := some 10) (bs 10 255) rfl rfl (one_of HT_.out (by kernel_rfl)) (by decide) (fun K hK => ?_)
       refine Kd.R_lit_step (Kd.int .u8) _ 5 ?hg (N := 10) ?hd (xs := ([67, (a0_0) % 256] : List Int)) (inner := [.int .u8 67, .int .u8 ((a0_0) % 256)]) (ok := fun _ => True) (okp := fun _ => True) ?hr ?hp (fun _ hk => hk) trivial (Below.refl _ _) (Nat.le_refl _) (by simp) ?_; (case hd => rfl); (case hg => rfl); (case hr => go_simp; try rfl); (case hp => exact (Reps.one (show Kd.M (Kd.int .u8) _ _ _ 67 [.int .u8 67] from rfl) (Reps.one (show Kd.M (Kd.int .u8) _ _ _ ((a0_0) % 256) [.int .u8 ((a0_0) % 256)] from rfl) (Reps.none _ _))))
       intro v170 w14 ho15 hb hg_ hnew_
       clear hg_ hnew_
       (first | rw [← Ny169.out] at ho15 | (simp only [Int.reduceToNat] at ho15; rw [← Ny169.out] at ho15))
       have n0_ := Z0 (Kd.R_elder' (by (with_reducible repeat (first | apply Kd.R_alloc | apply Kd.R_drewN | apply Kd.R_drew)); exact HO174.out) (Kd.R_base ho15) hb)
       have n1_ := Z0 (Kd.R_lower (Kd.R_new' ho15 (Kd.R_lt (by (with_reducible repeat (first | apply Kd.R_alloc | apply Kd.R_drewN | apply Kd.R_drew)); exact HO174.out))) (Z9 V0))
       have n2_ := Z0 (Z5 (g := gb168) (o := .cells #[.int .i64 a0_0, .slice A0_1 l0_1.length c0_1, .slice A0_2 l0_2.length c0_2] 35 (0, 0)) (by (with_reducible repeat (first | refine Z6 ?_ _ | refine Z8 ?_ | refine Z7 ?_ _)); exact BK168.out) hb)
       have n3_ := Z0 (Z4 V0 hb)
       clear HO174
       clear BK168
       clear HB
       have HO174 := n0_
       have HO171 := n1_
       have BK168 := n2_
       have HB := n3_
       clear n0_ n1_ n2_ n3_
       clear hb ho15
       refine hK.out _ _ ⟨(Y0 BK168.out 0).trans rfl, (Y0 BK168.out 1).trans rfl, (Y0 BK168.out 2).trans rfl⟩ (fun hHeld => ?_)
       clear hK K
       refine norm_ (a' := ?_) ?_ ?_
       rotate_left
       ·show Act.put _ (some 10) _ = _
        simp only [Act.put, Z1, Z2, Z3, Y4, Y5]
        rfl
       exact norm_ (by simp only [putAll, Act.put, Z1, Z2, Z3]) (hCont (v170, v173) _ ⟨hHeld, (by (with_reducible repeat (first | apply Kd.R_alloc | apply Kd.R_drewN | apply Kd.R_drew)); exact Kd.R_mono HO171.out (fun _ hk => hk.2)), (by (with_reducible repeat (first | apply Kd.R_alloc | apply Kd.R_drewN | apply Kd.R_drew)); exact Kd.R_mono HO174.out (fun _ hk => hk.2)), (by (with_reducible repeat (first | refine Z6 ?_ _ | refine Z8 ?_ | refine Z7 ?_ _)); exact BK168.out), V0⟩)
     rintro ⟨v170, v173⟩ w16 ⟨hS_, h0_, h1_, h2_, h3_⟩
     have n0_ : Aside0 (Kd.R (Kd.int .u8) 5 w16 w.heap.size (fun k_ => some k_ ≠ (v173 : Value).ownBlock) v170 y169) := ⟨h0_⟩
     have n1_ : Aside0 (Kd.R (Kd.int .u8) 5 w16 w.heap.size (fun k_ => some k_ ≠ (v170 : Value).ownBlock) v173 t172) := ⟨h1_⟩
     have n2_ : Aside0 (w16.heap[gb168]? = some (.cells #[.int .i64 a0_0, .slice A0_1 l0_1.length c0_1, .slice A0_2 l0_2.length c0_2] 35 (0, 0))) := ⟨h2_⟩
     have n3_ : Aside0 (Below w.heap.size w w16) := ⟨h3_⟩
     clear BK168
     clear HB
     clear h0_ h1_ h2_ h3_
     have HO171 := n0_
     have HO174 := n1_
     have BK168 := n2_
     have HB := n3_
     clear n0_ n1_ n2_ n3_
     have hHeld : w16.cell? ⟨gb168, 0, none⟩ = some (.int .i64 a0_0) ∧ w16.cell? ⟨gb168, 1, none⟩ = some (.slice A0_1 l0_1.length c0_1) ∧ w16.cell? ⟨gb168, 2, none⟩ = some (.slice A0_2 l0_2.length c0_2) := hS_
     obtain ⟨Ao18, co18, eo18⟩ := Kd.R_slice HO174.out
     (first | subst eo18 | (injection eo18 with f1_ f2_ f3_; have f4_ := f1_.symm; have f5_ := f3_.symm; clear f1_ f2_ f3_; subst f4_; subst f5_))
     refine norm_ (a' := ?_) ?_ ?_
     rotate_left
     ·simp only [putAll, Act.put, Z1, Z2, Z3]
      rfl
     refine one_ (i := 8) (N := some 15) (bs 10 511) rfl rfl (one_of HT_.out (by kernel_rfl)) (by decide) (fun K hK => ?_)
     refine Kd.R_append_rows_step (Kd.int .u8) (w0 := w) w.heap.size (by rfl) (.tmp 10) (.tmp 14) 37 5 (.int .u8 0) 1 rfl Tryz.underlying37 info5 rfl (by decide) (by omega) v170 y169 t172 _ _ _ (fun k_ => some k_ ≠ (.slice Ao18 t172.length co18 : Value).ownBlock) (fun _ => False) rfl rfl ?aO ?aR (fun _ _ h => h) (fun _ h => h.elim) ?aF ?aB ?aS ?aL ?_
     (case aR => repeat (first | exact (Kd.R_reads' HO174.out).2.2 | (with_reducible refine Kd.C_alloc ?_ _) | (with_reducible refine Kd.C_drewN ?_ _) | (with_reducible refine Kd.C_drew ?_)))
     (case aB => exact V0)
     (case aF => exact (fun k_ hk => Kd.fresh' (Kd.R_lt (by (with_reducible repeat (first | apply Kd.R_alloc | apply Kd.R_drewN | apply Kd.R_drew)); exact HO174.out)) k_ hk))
     (case aO => exact (by (with_reducible repeat (first | apply Kd.R_alloc | apply Kd.R_drewN | apply Kd.R_drew)); exact HO171.out))
     (case aS => exact (Z9 V0))
     (case aL => have := LMc3.out; omega)
     intro v176 w17 ho hb hg hat
     rw [← Ny175.out] at ho
     have n0_ := Z0 (blk_grown (g := gb168) (o := .cells #[.int .i64 a0_0, .slice A0_1 l0_1.length c0_1, .slice A0_2 l0_2.length c0_2] 35 (0, 0)) (by (with_reducible repeat (first | refine Z6 ?_ _ | refine Z8 ?_ | refine Z7 ?_ _)); exact BK168.out) hg (Kd.R_ne HO171.out BK168.out (by decide)))
     have n1_ := Z0 (Kd.R_after (ok := (fun _ => True)) (by (with_reducible repeat (first | apply Kd.R_alloc | apply Kd.R_drewN | apply Kd.R_drew)); exact Kd.R_mono HO174.out (fun _ hk => ⟨trivial, hk⟩)) hg hat)
     have n2_ := Z0 (hb)
     have n3_ := Z0 (ho)
     clear BK168
     clear HO174
     clear HB
     clear HO171
     have BK168 := n0_
     have HO174 := n1_
     have HB := n2_
     have HO177 := n3_
     clear n0_ n1_ n2_ n3_
     clear ho hb hg hat
     refine hK.out _ _ ⟨(Y0 BK168.out 0).trans rfl, (Y0 BK168.out 1).trans rfl, (Y0 BK168.out 2).trans rfl⟩ (fun hHeld => ?_)
     clear hK K
     refine norm_ (a' := ?_) ?_ ?_
     rotate_left
     ·show Act.put _ (some 15) _ = _
      simp only [Act.put, Z1, Z2, Z3, Y4, Y5]
      rfl
     refine Y8 (i := 9) (N := some 3) (v := ?_) (a' := ?_) (bs 10 1023) rfl rfl (Y3 HT_.out (by kernel_rfl)) (fun _ _ _ h => h) (Or.inl ⟨by rfl, ?_⟩) ?_ ?_
     rotate_left
     ·intro w'
      go_simp
      with_reducible rfl
     rotate_left
     ·simp only [Act.put, Z1, Z2, Z3, Y4, Y5]
      rfl
     refine done_ (done_of HT_.out (by kernel_rfl)) ?_
     obtain ⟨hcz19_0, hcz19_1, hcz19_2⟩ := bc3 BK168.out
     obtain ⟨hfz19_0, hfz19_1, hfz19_2⟩ := bf3 BK168.out
     try go_wp2_with (first | ((with_reducible refine Y2 (f := 110) rfl ?_); refine goesL_ (some 20) rfl rfl Tryz.func110 (by kernel_rfl) rfl #[.int .i64 (l0_1.length : Int)] rfl V1 ?_; (with_reducible refine (table_headerLength.calls (l0_1.length : Int) t178 _ A4.out).mono ?_); rintro e w' ⟨rfl, ⟨nd, rfl⟩⟩; refine ⟨_, rfl, ?_⟩) | ((with_reducible refine Y2 (f := 109) rfl ?_); refine goesL_ (some 21) rfl rfl Tryz.func109 (by kernel_rfl) rfl #[.int .i64 t178, .int .i64 2] rfl V1 ?_; (with_reducible refine (table_low.calls k t178 2 t179 _ A5.out).mono ?_); rintro e w20 ⟨v180, rfl, ho0, hb⟩; refine ⟨_, rfl, ?_⟩; have HO181 := Z0 (Kd.R_lower (Kd.R_new' (Kd.R_new' ho0 (Kd.R_lt (by (with_reducible repeat (first | apply Kd.R_alloc | apply Kd.R_drewN | apply Kd.R_drew)); exact HO174.out))) (Kd.R_lt (by (with_reducible repeat (first | apply Kd.R_alloc | apply Kd.R_drewN | apply Kd.R_drew)); exact HO177.out))) (Z9 V0)); replace HO174 := Z0 (Kd.R_elder' (by (with_reducible repeat (first | apply Kd.R_alloc | apply Kd.R_drewN | apply Kd.R_drew)); exact HO174.out) (Kd.R_base ho0) hb); replace HO177 := Z0 (Kd.R_elder' (by (with_reducible repeat (first | apply Kd.R_alloc | apply Kd.R_drewN | apply Kd.R_drew)); exact HO177.out) (Kd.R_base ho0) hb); replace BK168 := Z0 (Z5 (g := gb168) (o := .cells #[.int .i64 a0_0, .slice A0_1 l0_1.length c0_1, .slice A0_2 l0_2.length c0_2] 35 (0, 0)) (by (with_reducible repeat (first | refine Z6 ?_ _ | refine Z8 ?_ | refine Z7 ?_ _)); exact BK168.out) hb); replace HB := Z0 (Z4 V0 hb); (try clear hb); (try clear hb2); (try clear hk); (try clear hi); (try clear ho0); obtain ⟨Ao22, co22, eo22⟩ := Kd.R_slice HO181.out; subst eo22) | ((with_reducible refine gate_builtin (b := .append) (xs := #[.tmp 16, .tmp 21]) rfl ?_); at_builtin; refine Kd.R_append_rows (Kd.int .u8) (w0 := w) w.heap.size rfl (.tmp 16) (.tmp 21) 37 5 (.int .u8 0) 1 rfl Tryz.underlying37 info5 rfl (by decide) (by omega) v176 y175 t179 _ _ _ (fun k_ => some k_ ≠ (.slice Ao18 t172.length co18 : Value).ownBlock ∧ some k_ ≠ (.slice Ao22 t179.length co22 : Value).ownBlock) (fun _ => False) rfl rfl ?aO ?aR (fun _ _ h => h) (fun _ h => h.elim) ?aF ?aB ?aS ?aL ?_; (case aR => repeat (first | exact (Kd.R_reads' HO181.out).2.2 | (with_reducible refine Kd.C_alloc ?_ _) | (with_reducible refine Kd.C_drewN ?_ _) | (with_reducible refine Kd.C_drew ?_))); (case aB => exact V0); (case aF => exact (fun k_ hk => ⟨Kd.fresh' (Kd.R_lt (by (with_reducible repeat (first | apply Kd.R_alloc | apply Kd.R_drewN | apply Kd.R_drew)); exact HO174.out)) k_ hk, Kd.fresh' (Kd.R_lt (by (with_reducible repeat (first | apply Kd.R_alloc | apply Kd.R_drewN | apply Kd.R_drew)); exact HO181.out)) k_ hk⟩)); (case aO => exact (by (with_reducible repeat (first | apply Kd.R_alloc | apply Kd.R_drewN | apply Kd.R_drew)); exact HO177.out)); (case aS => exact (Z9 V0)); (case aL => have := LMc6.out; omega); intro v183 w21 ho hb hg hat; rw [← Ny182.out] at ho; replace BK168 := Z0 (blk_grown (g := gb168) (o := .cells #[.int .i64 a0_0, .slice A0_1 l0_1.length c0_1, .slice A0_2 l0_2.length c0_2] 35 (0, 0)) (by (with_reducible repeat (first | refine Z6 ?_ _ | refine Z8 ?_ | refine Z7 ?_ _)); exact BK168.out) hg (Kd.R_ne HO177.out BK168.out (by decide))); replace HO174 := Z0 (Kd.R_after (ok := (fun k_ => some k_ ≠ (.slice Ao22 t179.length co22 : Value).ownBlock)) (by (with_reducible repeat (first | apply Kd.R_alloc | apply Kd.R_drewN | apply Kd.R_drew)); exact Kd.R_mono HO174.out (fun _ hk => ⟨hk.2, hk.1.2⟩)) hg hat); replace HO181 := Z0 (Kd.R_after (ok := (fun k_ => some k_ ≠ (.slice Ao18 t172.length co18 : Value).ownBlock)) (by (with_reducible repeat (first | apply Kd.R_alloc | apply Kd.R_drewN | apply Kd.R_drew)); exact Kd.R_mono HO181.out (fun _ hk => ⟨hk.1.2, hk.2⟩)) hg hat); replace HB := Z0 (hb); have HO184 := Z0 (ho); clear HO177; clear ho hb hg hat; obtain ⟨hcz23_0, hcz23_1, hcz23_2⟩ := bc3 BK168.out; obtain ⟨hfz23_0, hfz23_1, hfz23_2⟩ := bf3 BK168.out) | ((with_reducible refine Y2 (f := 69) rfl ?_); refine goesL_ (some 26) rfl rfl Tryz.func69 (by kernel_rfl) rfl #[.slice A0_1 l0_1.length c0_1] rfl V1 ?_; (with_reducible refine (table_length.calls k _ _ l0_1 t185 _ ?side1 ?side2 A7.out).mono ?_); (case side1 => repeat (first | exact (Kd.C_below HR0_1.out HB.out) | (with_reducible refine Kd.C_alloc ?_ _) | (with_reducible refine Kd.C_drewN ?_ _) | (with_reducible refine Kd.C_drew ?_))); (case side2 => exact HC0_1.out); rintro e w24 ⟨rfl, hb⟩; refine ⟨_, rfl, ?_⟩; replace HO174 := Z0 (Kd.R_below (by (with_reducible repeat (first | apply Kd.R_alloc | apply Kd.R_drewN | apply Kd.R_drew)); exact HO174.out) hb); replace HO181 := Z0 (Kd.R_below (by (with_reducible repeat (first | apply Kd.R_alloc | apply Kd.R_drewN | apply Kd.R_drew)); exact HO181.out) hb); replace HO184 := Z0 (Kd.R_below (by (with_reducible repeat (first | apply Kd.R_alloc | apply Kd.R_drewN | apply Kd.R_drew)); exact HO184.out) hb); replace BK168 := Z0 (Z5 (g := gb168) (o := .cells #[.int .i64 a0_0, .slice A0_1 l0_1.length c0_1, .slice A0_2 l0_2.length c0_2] 35 (0, 0)) (by (with_reducible repeat (first | refine Z6 ?_ _ | refine Z8 ?_ | refine Z7 ?_ _)); exact BK168.out) hb); replace HB := Z0 (Z4 V0 hb); (try clear hb); (try clear hb2); (try clear hk); (try clear hi)) | ((with_reducible refine Y2 (f := 109) rfl ?_); refine goesL_ (some 27) rfl rfl Tryz.func109 (by kernel_rfl) rfl #[.int .i64 t185, .int .i64 2] rfl V1 ?_; (with_reducible refine (table_low.calls k t185 2 t186 _ A8.out).mono ?_); rintro e w25 ⟨v187, rfl, ho0, hb⟩; refine ⟨_, rfl, ?_⟩; have HO188 := Z0 (Kd.R_lower (Kd.R_new' (Kd.R_new' (Kd.R_new' ho0 (Kd.R_lt (by (with_reducible repeat (first | apply Kd.R_alloc | apply Kd.R_drewN | apply Kd.R_drew)); exact HO174.out))) (Kd.R_lt (by (with_reducible repeat (first | apply Kd.R_alloc | apply Kd.R_drewN | apply Kd.R_drew)); exact HO181.out))) (Kd.R_lt (by (with_reducible repeat (first | apply Kd.R_alloc | apply Kd.R_drewN | apply Kd.R_drew)); exact HO184.out))) (Z9 V0)); replace HO174 := Z0 (Kd.R_elder' (by (with_reducible repeat (first | apply Kd.R_alloc | apply Kd.R_drewN | apply Kd.R_drew)); exact HO174.out) (Kd.R_base ho0) hb); replace HO181 := Z0 (Kd.R_elder' (by (with_reducible repeat (first | apply Kd.R_alloc | apply Kd.R_drewN | apply Kd.R_drew)); exact HO181.out) (Kd.R_base ho0) hb); replace HO184 := Z0 (Kd.R_elder' (by (with_reducible repeat (first | apply Kd.R_alloc | apply Kd.R_drewN | apply Kd.R_drew)); exact HO184.out) (Kd.R_base ho0) hb); replace BK168 := Z0 (Z5 (g := gb168) (o := .cells #[.int .i64 a0_0, .slice A0_1 l0_1.length c0_1, .slice A0_2 l0_2.length c0_2] 35 (0, 0)) (by (with_reducible repeat (first | refine Z6 ?_ _ | refine Z8 ?_ | refine Z7 ?_ _)); exact BK168.out) hb); replace HB := Z0 (Z4 V0 hb); (try clear hb); (try clear hb2); (try clear hk); (try clear hi); (try clear ho0); obtain ⟨Ao27, co27, eo27⟩ := Kd.R_slice HO188.out; subst eo27) | ((with_reducible refine gate_builtin (b := .append) (xs := #[.tmp 23, .tmp 27]) rfl ?_); at_builtin; refine Kd.R_append_rows (Kd.int .u8) (w0 := w) w.heap.size rfl (.tmp 23) (.tmp 27) 37 5 (.int .u8 0) 1 rfl Tryz.underlying37 info5 rfl (by decide) (by omega) v183 y182 t186 _ _ _ (fun k_ => some k_ ≠ (.slice Ao18 t172.length co18 : Value).ownBlock ∧ some k_ ≠ (.slice Ao22 t179.length co22 : Value).ownBlock ∧ some k_ ≠ (.slice Ao27 t186.length co27 : Value).ownBlock) (fun _ => False) rfl rfl ?aO ?aR (fun _ _ h => h) (fun _ h => h.elim) ?aF ?aB ?aS ?aL ?_; (case aR => repeat (first | exact (Kd.R_reads' HO188.out).2.2 | (with_reducible refine Kd.C_alloc ?_ _) | (with_reducible refine Kd.C_drewN ?_ _) | (with_reducible refine Kd.C_drew ?_))); (case aB => exact V0); (case aF => exact (fun k_ hk => ⟨Kd.fresh' (Kd.R_lt (by (with_reducible repeat (first | apply Kd.R_alloc | apply Kd.R_drewN | apply Kd.R_drew)); exact HO174.out)) k_ hk, Kd.fresh' (Kd.R_lt (by (with_reducible repeat (first | apply Kd.R_alloc | apply Kd.R_drewN | apply Kd.R_drew)); exact HO181.out)) k_ hk, Kd.fresh' (Kd.R_lt (by (with_reducible repeat (first | apply Kd.R_alloc | apply Kd.R_drewN | apply Kd.R_drew)); exact HO188.out)) k_ hk⟩)); (case aO => exact (by (with_reducible repeat (first | apply Kd.R_alloc | apply Kd.R_drewN | apply Kd.R_drew)); exact Kd.R_mono HO184.out (fun _ hk => ⟨hk.1.1, ⟨hk.1.2, hk.2⟩⟩))); (case aS => exact (Z9 V0)); (case aL => have := LMc9.out; omega); intro v190 w26 ho hb hg hat; rw [← Ny189.out] at ho; replace BK168 := Z0 (blk_grown (g := gb168) (o := .cells #[.int .i64 a0_0, .slice A0_1 l0_1.length c0_1, .slice A0_2 l0_2.length c0_2] 35 (0, 0)) (by (with_reducible repeat (first | refine Z6 ?_ _ | refine Z8 ?_ | refine Z7 ?_ _)); exact BK168.out) hg (Kd.R_ne HO184.out BK168.out (by decide))); replace HO174 := Z0 (Kd.R_after (ok := (fun k_ => some k_ ≠ (.slice Ao22 t179.length co22 : Value).ownBlock ∧ some k_ ≠ (.slice Ao27 t186.length co27 : Value).ownBlock)) (by (with_reducible repeat (first | apply Kd.R_alloc | apply Kd.R_drewN | apply Kd.R_drew)); exact Kd.R_mono HO174.out (fun _ hk => ⟨⟨hk.1.1, hk.2⟩, hk.1.2⟩)) hg hat); replace HO181 := Z0 (Kd.R_after (ok := (fun k_ => some k_ ≠ (.slice Ao18 t172.length co18 : Value).ownBlock ∧ some k_ ≠ (.slice Ao27 t186.length co27 : Value).ownBlock)) (by (with_reducible repeat (first | apply Kd.R_alloc | apply Kd.R_drewN | apply Kd.R_drew)); exact Kd.R_mono HO181.out (fun _ hk => ⟨⟨hk.1.1, hk.2⟩, hk.1.2⟩)) hg hat); replace HO188 := Z0 (Kd.R_after (ok := (fun k_ => some k_ ≠ (.slice Ao18 t172.length co18 : Value).ownBlock ∧ some k_ ≠ (.slice Ao22 t179.length co22 : Value).ownBlock)) (by (with_reducible repeat (first | apply Kd.R_alloc | apply Kd.R_drewN | apply Kd.R_drew)); exact Kd.R_mono HO188.out (fun _ hk => ⟨⟨hk.1.1.2, hk.1.2⟩, hk.2⟩)) hg hat); replace HB := Z0 (hb); have HO191 := Z0 (ho); clear HO184; clear ho hb hg hat; obtain ⟨hcz28_0, hcz28_1, hcz28_2⟩ := bc3 BK168.out; obtain ⟨hfz28_0, hfz28_1, hfz28_2⟩ := bf3 BK168.out) | ((with_reducible refine Y1 (N := 34) rfl ?_); refine Kd.R_lit (Kd.int .u8) _ 5 ?hg (N := 34) ?hd (xs := ([((l0_1.length : Int)) % 256, 0] : List Int)) (inner := [.int .u8 (((l0_1.length : Int)) % 256), .int .u8 0]) (ok := fun _ => True) (okp := fun _ => True) ?hr ?hp (fun _ hk => hk) trivial (Below.refl _ _) (Nat.le_refl _) (by simp) ?_; (case hd => rfl); (case hg => rfl); (case hr => go_simp; try rfl); (case hp => exact (Reps.one (show Kd.M (Kd.int .u8) _ _ _ (((l0_1.length : Int)) % 256) [.int .u8 (((l0_1.length : Int)) % 256)] from rfl) (Reps.one (show Kd.M (Kd.int .u8) _ _ _ 0 [.int .u8 0] from rfl) (Reps.none _ _)))); intro v193 w29 ho30 hb hg_ hnew_; clear hg_ hnew_; (first | rw [← Ny192.out] at ho30 | (simp only [Int.reduceToNat] at ho30; rw [← Ny192.out] at ho30)); have HO194 := Z0 (Kd.R_lower (Kd.R_new' (Kd.R_new' (Kd.R_new' (Kd.R_new' ho30 (Kd.R_lt (by (with_reducible repeat (first | apply Kd.R_alloc | apply Kd.R_drewN | apply Kd.R_drew)); exact HO174.out))) (Kd.R_lt (by (with_reducible repeat (first | apply Kd.R_alloc | apply Kd.R_drewN | apply Kd.R_drew)); exact HO181.out))) (Kd.R_lt (by (with_reducible repeat (first | apply Kd.R_alloc | apply Kd.R_drewN | apply Kd.R_drew)); exact HO188.out))) (Kd.R_lt (by (with_reducible repeat (first | apply Kd.R_alloc | apply Kd.R_drewN | apply Kd.R_drew)); exact HO191.out))) (Z9 V0)); replace HO174 := Z0 (Kd.R_elder' (by (with_reducible repeat (first | apply Kd.R_alloc | apply Kd.R_drewN | apply Kd.R_drew)); exact HO174.out) (Kd.R_base ho30) hb); replace HO181 := Z0 (Kd.R_elder' (by (with_reducible repeat (first | apply Kd.R_alloc | apply Kd.R_drewN | apply Kd.R_drew)); exact HO181.out) (Kd.R_base ho30) hb); replace HO188 := Z0 (Kd.R_elder' (by (with_reducible repeat (first | apply Kd.R_alloc | apply Kd.R_drewN | apply Kd.R_drew)); exact HO188.out) (Kd.R_base ho30) hb); replace HO191 := Z0 (Kd.R_elder' (by (with_reducible repeat (first | apply Kd.R_alloc | apply Kd.R_drewN | apply Kd.R_drew)); exact HO191.out) (Kd.R_base ho30) hb); replace BK168 := Z0 (Z5 (g := gb168) (o := .cells #[.int .i64 a0_0, .slice A0_1 l0_1.length c0_1, .slice A0_2 l0_2.length c0_2] 35 (0, 0)) (by (with_reducible repeat (first | refine Z6 ?_ _ | refine Z8 ?_ | refine Z7 ?_ _)); exact BK168.out) hb); replace HB := Z0 (Z4 V0 hb); clear hb ho30; obtain ⟨Ao32, co32, eo32⟩ := Kd.R_slice HO194.out; subst eo32) | ((with_reducible refine gate_builtin (b := .append) (xs := #[.tmp 29, .tmp 34]) rfl ?_); at_builtin; refine Kd.R_append_rows (Kd.int .u8) (w0 := w) w.heap.size rfl (.tmp 29) (.tmp 34) 37 5 (.int .u8 0) 1 rfl Tryz.underlying37 info5 rfl (by decide) (by omega) v190 y189 y192 _ _ _ (fun k_ => some k_ ≠ (.slice Ao18 t172.length co18 : Value).ownBlock ∧ some k_ ≠ (.slice Ao22 t179.length co22 : Value).ownBlock ∧ some k_ ≠ (.slice Ao27 t186.length co27 : Value).ownBlock ∧ some k_ ≠ (.slice Ao32 y192.length co32 : Value).ownBlock) (fun _ => False) rfl rfl ?aO ?aR (fun _ _ h => h) (fun _ h => h.elim) ?aF ?aB ?aS ?aL ?_; (case aR => repeat (first | exact (Kd.R_reads' HO194.out).2.2 | (with_reducible refine Kd.C_alloc ?_ _) | (with_reducible refine Kd.C_drewN ?_ _) | (with_reducible refine Kd.C_drew ?_))); (case aB => exact V0); (case aF => exact (fun k_ hk => ⟨Kd.fresh' (Kd.R_lt (by (with_reducible repeat (first | apply Kd.R_alloc | apply Kd.R_drewN | apply Kd.R_drew)); exact HO174.out)) k_ hk, Kd.fresh' (Kd.R_lt (by (with_reducible repeat (first | apply Kd.R_alloc | apply Kd.R_drewN | apply Kd.R_drew)); exact HO181.out)) k_ hk, Kd.fresh' (Kd.R_lt (by (with_reducible repeat (first | apply Kd.R_alloc | apply Kd.R_drewN | apply Kd.R_drew)); exact HO188.out)) k_ hk, Kd.fresh' (Kd.R_lt (by (with_reducible repeat (first | apply Kd.R_alloc | apply Kd.R_drewN | apply Kd.R_drew)); exact HO194.out)) k_ hk⟩)); (case aO => exact (by (with_reducible repeat (first | apply Kd.R_alloc | apply Kd.R_drewN | apply Kd.R_drew)); exact Kd.R_mono HO191.out (fun _ hk => ⟨hk.1.1, ⟨hk.1.2.1, ⟨hk.1.2.2, hk.2⟩⟩⟩))); (case aS => exact (Z9 V0)); (case aL => have := LMc10.out; omega); intro v196 w31 ho hb hg hat; rw [← Ny195.out] at ho; replace BK168 := Z0 (blk_grown (g := gb168) (o := .cells #[.int .i64 a0_0, .slice A0_1 l0_1.length c0_1, .slice A0_2 l0_2.length c0_2] 35 (0, 0)) (by (with_reducible repeat (first | refine Z6 ?_ _ | refine Z8 ?_ | refine Z7 ?_ _)); exact BK168.out) hg (Kd.R_ne HO191.out BK168.out (by decide))); replace HO174 := Z0 (Kd.R_after (ok := (fun k_ => some k_ ≠ (.slice Ao22 t179.length co22 : Value).ownBlock ∧ some k_ ≠ (.slice Ao27 t186.length co27 : Value).ownBlock ∧ some k_ ≠ (.slice Ao32 y192.length co32 : Value).ownBlock)) (by (with_reducible repeat (first | apply Kd.R_alloc | apply Kd.R_drewN | apply Kd.R_drew)); exact Kd.R_mono HO174.out (fun _ hk => ⟨⟨hk.1.1.1, ⟨hk.1.1.2, hk.2⟩⟩, hk.1.2⟩)) hg hat); replace HO181 := Z0 (Kd.R_after (ok := (fun k_ => some k_ ≠ (.slice Ao18 t172.length co18 : Value).ownBlock ∧ some k_ ≠ (.slice Ao27 t186.length co27 : Value).ownBlock ∧ some k_ ≠ (.slice Ao32 y192.length co32 : Value).ownBlock)) (by (with_reducible repeat (first | apply Kd.R_alloc | apply Kd.R_drewN | apply Kd.R_drew)); exact Kd.R_mono HO181.out (fun _ hk => ⟨⟨hk.1.1.1, ⟨hk.1.1.2, hk.2⟩⟩, hk.1.2⟩)) hg hat); replace HO188 := Z0 (Kd.R_after (ok := (fun k_ => some k_ ≠ (.slice Ao18 t172.length co18 : Value).ownBlock ∧ some k_ ≠ (.slice Ao22 t179.length co22 : Value).ownBlock ∧ some k_ ≠ (.slice Ao32 y192.length co32 : Value).ownBlock)) (by (with_reducible repeat (first | apply Kd.R_alloc | apply Kd.R_drewN | apply Kd.R_drew)); exact Kd.R_mono HO188.out (fun _ hk => ⟨⟨hk.1.1.1, ⟨hk.1.1.2, hk.2⟩⟩, hk.1.2⟩)) hg hat); replace HO194 := Z0 (Kd.R_after (ok := (fun k_ => some k_ ≠ (.slice Ao18 t172.length co18 : Value).ownBlock ∧ some k_ ≠ (.slice Ao22 t179.length co22 : Value).ownBlock ∧ some k_ ≠ (.slice Ao27 t186.length co27 : Value).ownBlock)) (by (with_reducible repeat (first | apply Kd.R_alloc | apply Kd.R_drewN | apply Kd.R_drew)); exact Kd.R_mono HO194.out (fun _ hk => ⟨⟨hk.1.1.1.2, ⟨hk.1.1.2, hk.1.2⟩⟩, hk.2⟩)) hg hat); replace HB := Z0 (hb); have HO197 := Z0 (ho); clear HO191; clear ho hb hg hat; obtain ⟨hcz33_0, hcz33_1, hcz33_2⟩ := bc3 BK168.out; obtain ⟨hfz33_0, hfz33_1, hfz33_2⟩ := bf3 BK168.out))
     go_loopg [3, 39] k (fun kq v3 v39 w' => ∃ (x3_1 : List Int) (x39_1 : Int), v39 = .int .i64 x39_1 ∧ Aside0 (table_header.l0 kq x3_1 l0_1 (l0_1.length : Int) x39_1 = some r) ∧ Aside0 (kq ≤ k) ∧ Aside0 (Kd.R (Kd.int .u8) 5 w' w.heap.size (fun _ => True) v3 x3_1) ∧ Aside0 (w'.heap[gb168]? = some (.cells #[.int .i64 a0_0, (.slice A0_1 l0_1.length c0_1), (.slice A0_2 l0_2.length c0_2)] 35 (0, 0))) ∧ Aside0 (Below w.heap.size w w'))
     case atStart => exact ⟨(y195), (0), V2, H', ⟨Nat.le_refl _⟩, ⟨by (with_reducible repeat (first | apply Kd.R_alloc | apply Kd.R_drewN | apply Kd.R_drew)); exact Kd.R_mono HO197.out (fun _ hk => trivial)⟩, ⟨by (with_reducible repeat (first | refine Z6 ?_ _ | refine Z8 ?_ | refine Z7 ?_ _)); exact BK168.out⟩, ⟨V0⟩⟩
     case round =>
      clear H'
      (try clear c1);(try clear p2);(try clear c3);(try clear c6);(try clear c9);(try clear c10);(try clear c11);(try clear hcz19_0);(try clear hcz19_1);(try clear hcz19_2);(try clear hcz23_0);(try clear hcz23_1);(try clear hcz23_2);(try clear hcz28_0);(try clear hcz28_1);(try clear hcz28_2);(try clear hcz33_0);(try clear hcz33_1);(try clear hcz33_2);(try clear hfz19_0);(try clear hfz19_1);(try clear hfz19_2);(try clear hfz23_0);(try clear hfz23_1);(try clear hfz23_2);(try clear hfz28_0);(try clear hfz28_1);(try clear hfz28_2);(try clear hfz33_0);(try clear hfz33_1);(try clear hfz33_2)
      obtain ⟨x3_1, x39_1, rfl, HA, HK1, HO_3, BK168, HB⟩ := hrel
      cases gk with
      | zero => exact absurd HA.out (by simp [table_header.l0])
      | succ k1 =>
       have H := HA.out
       clear HA
       simp only [table_header.l0] at H
       by_cases c34 : x39_1 < (l0_1.length : Int)
       ·rw [if_pos c34] at H
        have c34b0 : decide (x39_1 < (l0_1.length : Int)) = true := decide_eq_true c34
        clear c34
        by_cases c35 : 0 ≤ x39_1
        ·rw [if_pos c35] at H
         have c35b0 : decide (0 ≤ x39_1) = true := decide_eq_true c35
         clear c35
         by_cases c36 : x39_1 < (l0_1.length : Int)
         ·rw [if_pos c36] at H
          have c36b0 : decide (x39_1 < (l0_1.length : Int)) = true := decide_eq_true c36
          clear c36
          replace H := Option.bind_eq_some_iff.mp H
          obtain ⟨t200, A370, H⟩ := H
          replace H : (if x3_1.length + t200.length < 140737488355328 then (table_header.l0 k1 (x3_1 ++ t200) l0_1 (l0_1.length : Int) (wrap64 (x39_1 + 1))) else (none)) = some r := H
          have A37 := Z0 A370
          clear A370
          by_cases c38 : x3_1.length + t200.length < 140737488355328
          ·rw [if_pos c38] at H
           have LMc38 := Z0 c38
           clear c38
           obtain ⟨y203, hy203⟩ : ∃ y_ : List Int, y_ = (x3_1 ++ t200) := ⟨_, rfl⟩
           replace H : (table_header.l0 k1 y203 l0_1 (l0_1.length : Int) (wrap64 (x39_1 + 1))) = some r := by rw [hy203]; exact H
           have Ny203 := Z0 hy203
           clear hy203
           have H' := Z0 H
           clear H
           have p198 : 0 ≤ (x39_1 : Int) := of_decide_eq_true V3
           have q198 : x39_1 < (l0_1.length : Int) := of_decide_eq_true V3
           obtain ⟨ad198, e198, hx198_0, hx198_1, hx198_2, hx198_3⟩ := at_T23 HR0_1.out x39_1 p198 q198
           cases e198
           replace hx198_0 := (HB.out.cell (World.block_lt_of_cell? w _ hx198_0)).trans hx198_0
           replace hx198_1 := (HB.out.cell (World.block_lt_of_cell? w _ hx198_1)).trans hx198_1
           replace hx198_2 := (HB.out.cell (World.block_lt_of_cell? w _ hx198_2)).trans hx198_2
           replace hx198_3 := (HB.out.cell (World.block_lt_of_cell? w _ hx198_3)).trans hx198_3
           replace p198 := eq_true p198
           replace q198 := eq_true q198
           obtain ⟨hs10, htl, htd⟩ := descO_some A37.out
           have HS10 := Z0 hs10
           have HTL := Z0 htl
           have HTD := Z0 htd
           clear hs10 htl htd
           go_wp2_with (first | ((with_reducible refine Y1 (N := 5) rfl ?_); refine bx (N := 5) (cs := #[.string (⟨#[]⟩ : ByteArray), .int .i64 0, .int .i64 0, .bool false]) (t := 23) ?_; intro gb199 hg w39 hbox hb; replace HO_3 := Z0 (Kd.R_below (by (with_reducible repeat (first | apply Kd.R_alloc | apply Kd.R_drewN | apply Kd.R_drew)); exact HO_3.out) hb); have BK199 := Z0 (hbox); have GE199 := Z0 ((by rw [hg]; exact (Z9 V0) : w.heap.size ≤ gb199)); replace HB := Z0 (Z4 V0 hb); have NB168_199 := Z0 ((by rw [hg]; exact Nat.ne_of_lt (blk_lt (g := gb168) (o := .cells #[.int .i64 a0_0, .slice (some ad198) l0_1.length c0_1, .slice A0_2 l0_2.length c0_2] 35 (0, 0)) (by (with_reducible repeat (first | refine Z6 ?_ _ | refine Z8 ?_ | refine Z7 ?_ _)); exact BK168.out)) : gb168 ≠ gb199)); have NB199_168 := Z0 ((by rw [hg]; exact Nat.ne_of_gt (blk_lt (g := gb168) (o := .cells #[.int .i64 a0_0, .slice (some ad198) l0_1.length c0_1, .slice A0_2 l0_2.length c0_2] 35 (0, 0)) (by (with_reducible repeat (first | refine Z6 ?_ _ | refine Z8 ?_ | refine Z7 ?_ _)); exact BK168.out)) : gb199 ≠ gb168)); replace BK168 := Z0 (Z5 (g := gb168) (o := .cells #[.int .i64 a0_0, .slice (some ad198) l0_1.length c0_1, .slice A0_2 l0_2.length c0_2] 35 (0, 0)) (by (with_reducible repeat (first | refine Z6 ?_ _ | refine Z8 ?_ | refine Z7 ?_ _)); exact BK168.out) hb); clear hb hbox hg; have hnb40 := NB199_168.out; have hnc40 := NB168_199.out; obtain ⟨hcz41_0, hcz41_1, hcz41_2, hcz41_3⟩ := bc4 BK199.out; obtain ⟨hfz41_0, hfz41_1, hfz41_2, hfz41_3⟩ := bf4 BK199.out) | ((with_reducible refine Y1 (N := 6) rfl ?_); refine bx (N := 6) (cs := #[.int .u8 0, .int .u8 0, .int .u8 0, .int .u8 0, .int .u8 0, .int .u8 0, .int .u8 0, .int .u8 0, .int .u8 0, .int .u8 0, .int .u8 0, .int .u8 0, .int .u8 0, .int .u8 0, .int .u8 0, .int .u8 0]) (t := 123) ?_; intro g6 hg w6 hbox hb; replace HO_3 := Z0 (Kd.R_below (by (with_reducible repeat (first | apply Kd.R_alloc | apply Kd.R_drewN | apply Kd.R_drew)); exact (Kd.R_mono (Kd.R_far (p := ⟨gb199, 3, none⟩) (Kd.R_far (p := ⟨gb199, 2, none⟩) (Kd.R_far (p := ⟨gb199, 1, none⟩) (Kd.R_far (p := ⟨gb199, 0, none⟩) (Kd.R_types HO_3.out BK199.out (by decide)) (fun _ hk => hk.2) (.string ((rd_T23 l0_1 x39_1).f0))) (fun _ hk => hk.2) (.int .i64 ((rd_T23 l0_1 x39_1).f1))) (fun _ hk => hk.2) (.int .i64 ((rd_T23 l0_1 x39_1).f2))) (fun _ hk => hk.2) (.bool ((rd_T23 l0_1 x39_1).f3))) (fun _ h_ => h_.1))) hb); have N168_6 := Z0 ((by rw [hg]; exact Nat.ne_of_lt (blk_lt (g := gb168) (o := .cells #[.int .i64 a0_0, .slice (some ad198) l0_1.length c0_1, .slice A0_2 l0_2.length c0_2] 35 (0, 0)) (by (with_reducible repeat (first | refine Z6 ?_ _ | refine Z8 ?_ | refine Z7 ?_ _)); refine blk_far ?_ NB168_199.out _; (with_reducible repeat (first | refine Z6 ?_ _ | refine Z8 ?_ | refine Z7 ?_ _)); refine blk_far ?_ NB168_199.out _; (with_reducible repeat (first | refine Z6 ?_ _ | refine Z8 ?_ | refine Z7 ?_ _)); refine blk_far ?_ NB168_199.out _; (with_reducible repeat (first | refine Z6 ?_ _ | refine Z8 ?_ | refine Z7 ?_ _)); refine blk_far ?_ NB168_199.out _; (with_reducible repeat (first | refine Z6 ?_ _ | refine Z8 ?_ | refine Z7 ?_ _)); exact BK168.out))) : gb168 ≠ g6); replace BK168 := Z0 (Z5 (g := gb168) (o := .cells #[.int .i64 a0_0, .slice (some ad198) l0_1.length c0_1, .slice A0_2 l0_2.length c0_2] 35 (0, 0)) (by (with_reducible repeat (first | refine Z6 ?_ _ | refine Z8 ?_ | refine Z7 ?_ _)); refine blk_far ?_ NB168_199.out _; (with_reducible repeat (first | refine Z6 ?_ _ | refine Z8 ?_ | refine Z7 ?_ _)); refine blk_far ?_ NB168_199.out _; (with_reducible repeat (first | refine Z6 ?_ _ | refine Z8 ?_ | refine Z7 ?_ _)); refine blk_far ?_ NB168_199.out _; (with_reducible repeat (first | refine Z6 ?_ _ | refine Z8 ?_ | refine Z7 ?_ _)); refine blk_far ?_ NB168_199.out _; (with_reducible repeat (first | refine Z6 ?_ _ | refine Z8 ?_ | refine Z7 ?_ _)); exact BK168.out) hb); have N199_6 := Z0 ((by rw [hg]; exact Nat.ne_of_lt (blk_lt (g := gb199) (o := .cells #[.string ((rd_T23 l0_1 x39_1).f0), .int .i64 ((rd_T23 l0_1 x39_1).f1), .int .i64 ((rd_T23 l0_1 x39_1).f2), .bool ((rd_T23 l0_1 x39_1).f3)] 23 (0, 0)) (by (with_reducible repeat (first | refine Z6 ?_ _ | refine Z8 ?_ | refine Z7 ?_ _)); refine blk_put (cs := #[.string ((rd_T23 l0_1 x39_1).f0), .int .i64 ((rd_T23 l0_1 x39_1).f1), .int .i64 ((rd_T23 l0_1 x39_1).f2), .bool false]) ?_ 3 _ rfl; (with_reducible repeat (first | refine Z6 ?_ _ | refine Z8 ?_ | refine Z7 ?_ _)); refine blk_put (cs := #[.string ((rd_T23 l0_1 x39_1).f0), .int .i64 ((rd_T23 l0_1 x39_1).f1), .int .i64 0, .bool false]) ?_ 2 _ rfl; (with_reducible repeat (first | refine Z6 ?_ _ | refine Z8 ?_ | refine Z7 ?_ _)); refine blk_put (cs := #[.string ((rd_T23 l0_1 x39_1).f0), .int .i64 0, .int .i64 0, .bool false]) ?_ 1 _ rfl; (with_reducible repeat (first | refine Z6 ?_ _ | refine Z8 ?_ | refine Z7 ?_ _)); refine blk_put (cs := #[.string (⟨#[]⟩ : ByteArray), .int .i64 0, .int .i64 0, .bool false]) ?_ 0 _ rfl; (with_reducible repeat (first | refine Z6 ?_ _ | refine Z8 ?_ | refine Z7 ?_ _)); exact BK199.out))) : gb199 ≠ g6); replace BK199 := Z0 (Z5 (g := gb199) (o := .cells #[.string ((rd_T23 l0_1 x39_1).f0), .int .i64 ((rd_T23 l0_1 x39_1).f1), .int .i64 ((rd_T23 l0_1 x39_1).f2), .bool ((rd_T23 l0_1 x39_1).f3)] 23 (0, 0)) (by (with_reducible repeat (first | refine Z6 ?_ _ | refine Z8 ?_ | refine Z7 ?_ _)); refine blk_put (cs := #[.string ((rd_T23 l0_1 x39_1).f0), .int .i64 ((rd_T23 l0_1 x39_1).f1), .int .i64 ((rd_T23 l0_1 x39_1).f2), .bool false]) ?_ 3 _ rfl; (with_reducible repeat (first | refine Z6 ?_ _ | refine Z8 ?_ | refine Z7 ?_ _)); refine blk_put (cs := #[.string ((rd_T23 l0_1 x39_1).f0), .int .i64 ((rd_T23 l0_1 x39_1).f1), .int .i64 0, .bool false]) ?_ 2 _ rfl; (with_reducible repeat (first | refine Z6 ?_ _ | refine Z8 ?_ | refine Z7 ?_ _)); refine blk_put (cs := #[.string ((rd_T23 l0_1 x39_1).f0), .int .i64 0, .int .i64 0, .bool false]) ?_ 1 _ rfl; (with_reducible repeat (first | refine Z6 ?_ _ | refine Z8 ?_ | refine Z7 ?_ _)); refine blk_put (cs := #[.string (⟨#[]⟩ : ByteArray), .int .i64 0, .int .i64 0, .bool false]) ?_ 0 _ rfl; (with_reducible repeat (first | refine Z6 ?_ _ | refine Z8 ?_ | refine Z7 ?_ _)); exact BK199.out) hb); have GE6 := Z0 ((by rw [hg]; exact Z9 V0) : w.heap.size ≤ g6); replace HB := Z0 (Z4 V0 hb); have BK6 := Z0 hbox; clear hb hbox hg))
           (try clear hcz41_0);(try clear hcz41_1);(try clear hcz41_2);(try clear hcz41_3);(try clear hfz41_0);(try clear hfz41_1);(try clear hfz41_2);(try clear hfz41_3);(try clear hx198_0);(try clear hx198_1);(try clear hx198_2);(try clear hx198_3)
           have nO := Z0 (Kd.R_drew HO_3.out)
           have n1 := Z0 (Z8 BK168.out)
           have n2 := Z0 (Z8 BK199.out)
           have n3 := Z0 (Z8 BK6.out)
           have nB := Z0 (below_drew1 HB.out)
           clear HO_3 BK168 BK199 BK6 HB
           have HO_3 := nO
           have BK168 := n1
           have BK199 := n2
           have BK6 := n3
           have HB := nB
           clear nO n1 n2 n3 nB
           refine start_ (n := 4) (S := fun w' => w'.heap[gb199]? = some (.cells #[.string ((rd_T23 l0_1 x39_1).f0), .int .i64 ((rd_T23 l0_1 x39_1).f1), .int .i64 ((rd_T23 l0_1 x39_1).f2), .bool ((rd_T23 l0_1 x39_1).f3)] 23 (0, 0))) (ds := []) #[false, false, false, false] (by kernel_rfl) rfl rfl BK199.out (fun hHeld => ?_)
           refine with_tab hd_tab9 (fun HT_ => ?_)
           generalize w6.drew = w7 at HO_3 BK168 BK199 BK6 HB hHeld ⊢
           refine Y8 (i := 0) (N := some 43) (v := ?_) (a' := ?_) #[true, false, false, false] rfl rfl (Y3 HT_.out (by kernel_rfl)) (fun _ _ _ h => h) (Or.inl ⟨by rfl, ?_⟩) ?_ ?_
           rotate_left
           ·intro w'
            go_simp
            with_reducible rfl
           rotate_left
           ·simp only [Act.put, Z1, Z2, Z3, Y4, Y5]
            rfl
           refine Y8 (i := 1) (N := some 44) (v := ?_) (a' := ?_) #[true, true, false, false] rfl rfl (Y3 HT_.out (by kernel_rfl)) (fun _ _ _ h => h) (Or.inl ⟨by rfl, ?_⟩) ?_ ?_
           rotate_left
           ·intro w'
            go_simp
            with_reducible rfl
           rotate_left
           ·simp only [Act.put, Z1, Z2, Z3, Y4, Y5]
            rfl
           refine take_ (i := 2) (N := some 45) (v := ?_) (a' := ?_) #[true, true, true, false] rfl rfl (take_of HT_.out (by kernel_rfl)) (fun _ _ _ h => h) (Or.inl ⟨by rfl, ?_⟩) hHeld ?_ ?_
           rotate_left
           ·rintro w' s0
            have sc := (Y0 s0 0).trans rfl
            go_simp
            with_reducible rfl
           rotate_left
           ·simp only [Act.put, Z1, Z2, Z3, Y4, Y5]
            rfl
           refine one_ (i := 3) (N := some 46) #[true, true, true, true] rfl rfl (one_of HT_.out (by kernel_rfl)) (by decide) (fun K hK => ?_)
           have hcp := copy_arr w7 g6 (rd_T23 l0_1 x39_1).f0 BK6.out HS10.out
           refine event_step (v := .int .i64 (rd_T23 l0_1 x39_1).f0.size) (w1 := w7.setRow g6 (u8s (nameL (rd_T23 l0_1 x39_1).f0 ++ [0, 0, 0, 0, 0, 0]))) rfl (by first | (go_simp; done) | (go_simp; exact ⟨rfl, rfl⟩)) ?_
           clear hcp
           have nO := Z0 (rowset_R HO_3.out BK6.out (u8s (nameL (rd_T23 l0_1 x39_1).f0 ++ [0, 0, 0, 0, 0, 0])) (by decide))
           have n1 := Z0 (rowset_far BK168.out N168_6.out (u8s (nameL (rd_T23 l0_1 x39_1).f0 ++ [0, 0, 0, 0, 0, 0])))
           have n2 := Z0 (rowset_far BK199.out N199_6.out (u8s (nameL (rd_T23 l0_1 x39_1).f0 ++ [0, 0, 0, 0, 0, 0])))
           have n3 := Z0 (setRow_heap w7 g6 _ (u8s (nameL (rd_T23 l0_1 x39_1).f0 ++ [0, 0, 0, 0, 0, 0])) 123 _ BK6.out)
           have nB := Z0 (below_setRow HB.out GE6.out (u8s (nameL (rd_T23 l0_1 x39_1).f0 ++ [0, 0, 0, 0, 0, 0])))
           clear HO_3 BK168 BK199 BK6 HB
           have HO_3 := nO
           have BK168 := n1
           have BK199 := n2
           have BK6 := n3
           have HB := nB
           clear nO n1 n2 n3 nB
           generalize w7.setRow g6 (u8s (nameL (rd_T23 l0_1 x39_1).f0 ++ [0, 0, 0, 0, 0, 0])) = w8 at HO_3 BK168 BK199 BK6 HB ⊢
           refine hK.out _ _ BK199.out (fun hHeld => ?_)
           clear hK K
           refine norm_ (a' := ?_) ?_ ?_
           rotate_left
           ·show Act.put _ (some 46) _ = _
            simp only [Act.put, Z1, Z2, Z3, Y4, Y5]
            rfl
           refine done_ (done_of HT_.out (by kernel_rfl)) ?_
           clear hHeld HT_
           go_wp2
           obtain ⟨kf1, kf2, hkv⟩ := kindVal_letter (rd_T23 l0_1 x39_1).f1
           have HKV := Z0 hkv
           clear hkv
           have hfl : ∀ (a b c d e : Value) (W : World), (Instr.field 102 (.agg #[a, b, c, d, e]) 0).run Tryz.prog W = .ok a W := fun _ _ _ _ _ _ => by kernel_rfl
           have nO := Z0 (Kd.R_drew HO_3.out)
           have n1 := Z0 (Z8 BK168.out)
           have n2 := Z0 (Z8 BK199.out)
           have n3 := Z0 (Z8 BK6.out)
           have nB := Z0 (below_drew1 HB.out)
           clear HO_3 BK168 BK199 BK6 HB
           have HO_3 := nO
           have BK168 := n1
           have BK199 := n2
           have BK6 := n3
           have HB := nB
           clear nO n1 n2 n3 nB
           refine start_ (n := 12) (S := fun w' => w'.heap[gb199]? = some (.cells #[.string ((rd_T23 l0_1 x39_1).f0), .int .i64 ((rd_T23 l0_1 x39_1).f1), .int .i64 ((rd_T23 l0_1 x39_1).f2), .bool ((rd_T23 l0_1 x39_1).f3)] 23 (0, 0))) (ds := []) (bs 12 0) (by kernel_rfl) rfl rfl BK199.out (fun hHeld => ?_)
           refine with_tab hd_tab10 (fun HT_ => ?_)
           generalize w8.drew = w9 at HO_3 BK168 BK199 BK6 HB hHeld ⊢
           refine Y8 (i := 1) (N := some 48) (v := ?_) (a' := ?_) (bs 12 2) rfl rfl (Y3 HT_.out (by kernel_rfl)) (fun _ _ _ h => h) (Or.inl ⟨by rfl, ?_⟩) ?_ ?_
           rotate_left
           ·intro w'
            go_simp
            with_reducible rfl
           rotate_left
           ·simp only [Act.put, Z1, Z2, Z3, Y4, Y5]
            rfl
           refine take_ (i := 2) (N := some 49) (v := ?_) (a' := ?_) (bs 12 6) rfl rfl (take_of HT_.out (by kernel_rfl)) (fun _ _ _ h => h) (Or.inl ⟨by rfl, ?_⟩) hHeld ?_ ?_
           rotate_left
           ·rintro w' s0
            have sc := (Y0 s0 1).trans rfl
            go_simp
            with_reducible rfl
           rotate_left
           ·simp only [Act.put, Z1, Z2, Z3, Y4, Y5]
            rfl
           refine Y8 (i := 5) (N := some 52) (v := ?_) (a' := ?_) (bs 12 38) rfl rfl (Y3 HT_.out (by kernel_rfl)) (fun _ _ _ h => h) (Or.inl ⟨by rfl, ?_⟩) ?_ ?_
           rotate_left
           ·intro w'
            go_simp
            with_reducible rfl
           rotate_left
           ·simp only [Act.put, Z1, Z2, Z3, Y4, Y5]
            rfl
           refine take_ (i := 6) (N := some 53) (v := ?_) (a' := ?_) (bs 12 102) rfl rfl (take_of HT_.out (by kernel_rfl)) (fun _ _ _ h => h) (Or.inl ⟨by rfl, ?_⟩) hHeld ?_ ?_
           rotate_left
           ·rintro w' s0
            have sc := (Y0 s0 2).trans rfl
            go_simp
            with_reducible rfl
           rotate_left
           ·simp only [Act.put, Z1, Z2, Z3, Y4, Y5]
            rfl
           refine Y8 (i := 7) (N := some 54) (v := ?_) (a' := ?_) (bs 12 230) rfl rfl (Y3 HT_.out (by kernel_rfl)) (fun _ _ _ h => h) (Or.inl ⟨by rfl, ?_⟩) ?_ ?_
           rotate_left
           ·intro w'
            go_simp
            with_reducible rfl
           rotate_left
           ·simp only [Act.put, Z1, Z2, Z3, Y4, Y5]
            rfl
           refine one_ (i := 0) (N := some 47) (bs 12 231) rfl rfl (one_of HT_.out (by kernel_rfl)) (by decide) (fun K hK => ?_)
           refine goes_ Tryz.func89 (by kernel_rfl) rfl #[] (by rfl) rfl rfl V1 ?_
           refine (table_kinds w9).mono ?_
           rintro e w10 ⟨rk, rfl, hkb, hb⟩
           refine ⟨_, rfl, ?_⟩
           have HKB := Z0 hkb
           clear hkb
           have nO := Z0 (Kd.R_below HO_3.out hb)
           have n1 := Z0 (Z5 BK168.out hb)
           have n2 := Z0 (Z5 BK199.out hb)
           have n3 := Z0 (Z5 BK6.out hb)
           have nB := Z0 (Z4 HB.out hb)
           clear HO_3 BK168 BK199 BK6 HB
           have HO_3 := nO
           have BK168 := n1
           have BK199 := n2
           have BK6 := n3
           have HB := nB
           clear nO n1 n2 n3 nB
           clear hb
           refine hK.out _ _ BK199.out (fun hHeld => ?_)
           clear hK K
           refine norm_ (a' := ?_) ?_ ?_
           rotate_left
           ·show Act.put _ (some 47) _ = _
            simp only [Act.put, Z1, Z2, Z3, Y4, Y5]
            rfl
           refine one_ (i := 3) (N := some 50) (bs 12 239) rfl rfl (one_of HT_.out (by kernel_rfl)) (by decide) (fun K hK => ?_)
           have hlk := run_look' w10 rk HKB.out _ _ HKV.out
           refine event_step (v := .agg #[.int .u8 (kindLetter (rd_T23 l0_1 x39_1).f1), .int .i64 (kindLo (rd_T23 l0_1 x39_1).f1), .int .i64 (kindHi (rd_T23 l0_1 x39_1).f1), kf1, kf2]) (w1 := w10) rfl (by first | (go_simp; done) | (go_simp; rfl) | (go_simp; exact ⟨rfl, rfl⟩)) ?_
           refine hK.out _ _ BK199.out (fun hHeld => ?_)
           clear hK K
           refine norm_ (a' := ?_) ?_ ?_
           rotate_left
           ·show Act.put _ (some 50) _ = _
            simp only [Act.put, Z1, Z2, Z3, Y4, Y5]
            rfl
           clear hlk
           refine one_ (i := 4) (N := some 51) (bs 12 255) rfl rfl (one_of HT_.out (by kernel_rfl)) (by decide) (fun K hK => ?_)
           refine event_step (v := .int .u8 (kindLetter (rd_T23 l0_1 x39_1).f1)) (w1 := w10) rfl (by first | (go_simp; done) | (go_simp; rfl) | (go_simp; exact ⟨rfl, rfl⟩)) ?_
           refine hK.out _ _ BK199.out (fun hHeld => ?_)
           clear hK K
           refine norm_ (a' := ?_) ?_ ?_
           rotate_left
           ·show Act.put _ (some 51) _ = _
            simp only [Act.put, Z1, Z2, Z3, Y4, Y5]
            rfl
           refine one_ (i := 8) (N := some 55) (bs 12 511) rfl rfl (one_of HT_.out (by kernel_rfl)) (by decide) (fun K hK => ?_)
           refine event_step (v := .pointer (some ⟨g6, 10, none⟩)) (w1 := w10) rfl (by first | (go_simp; done) | (go_simp; rfl) | (go_simp; exact ⟨rfl, rfl⟩)) ?_
           refine hK.out _ _ BK199.out (fun hHeld => ?_)
           clear hK K
           refine norm_ (a' := ?_) ?_ ?_
           rotate_left
           ·show Act.put _ (some 55) _ = _
            simp only [Act.put, Z1, Z2, Z3, Y4, Y5]
            rfl
           have HN10 := Z0 (nameL_len HS10.out)
           refine one_ (i := 9) (N := none) (bs 12 1023) rfl rfl (one_of HT_.out (by kernel_rfl)) (by decide) (fun K hK => ?_)
           have hcc : ∃ x, w10.cell? ⟨g6, 10, none⟩ = some x := ⟨_, (Y0 BK6.out 10).trans (u8s_some (by rw [List.length_append, HN10.out]; simp))⟩
           obtain ⟨x0, hcc⟩ := hcc
           have hff := blk_frozen BK6.out 10
           refine skip_event (w1 := w10.setCell ⟨g6, 10, none⟩ (.int .u8 (kindLetter (rd_T23 l0_1 x39_1).f1))) rfl (by rfl) (by first | (go_simp; done) | (go_simp; rfl) | (go_simp; exact ⟨rfl, rfl⟩)) ?_
           clear hcc hff
           have nO := Z0 (cellset_R (j := 10) (u := .int .u8 (kindLetter (rd_T23 l0_1 x39_1).f1)) HO_3.out BK6.out (by decide))
           have n1 := Z0 (blk_far BK168.out (p := ⟨g6, 10, none⟩) N168_6.out (.int .u8 (kindLetter (rd_T23 l0_1 x39_1).f1)))
           have n2 := Z0 (blk_far BK199.out (p := ⟨g6, 10, none⟩) N199_6.out (.int .u8 (kindLetter (rd_T23 l0_1 x39_1).f1)))
           have n3 := Z0 (blk_put BK6.out 10 (.int .u8 (kindLetter (rd_T23 l0_1 x39_1).f1)) ((set16 _ HN10.out 0 0 0 0 0 0 _).1))
           have nB := Z0 (below_set (j := 10) (v := .int .u8 (kindLetter (rd_T23 l0_1 x39_1).f1)) HB.out GE6.out)
           clear HO_3 BK168 BK199 BK6 HB
           have HO_3 := nO
           have BK168 := n1
           have BK199 := n2
           have BK6 := n3
           have HB := nB
           clear nO n1 n2 n3 nB
           generalize w10.setCell ⟨g6, 10, none⟩ (.int .u8 (kindLetter (rd_T23 l0_1 x39_1).f1)) = w11 at HO_3 BK168 BK199 BK6 HB ⊢
           refine hK.out _ _ BK199.out (fun hHeld => ?_)
           clear hK K
           refine one_ (i := 10) (N := some 56) (bs 12 2047) rfl rfl (one_of HT_.out (by kernel_rfl)) (by decide) (fun K hK => ?_)
           refine event_step (v := .pointer (some ⟨g6, 11, none⟩)) (w1 := w11) rfl (by first | (go_simp; done) | (go_simp; rfl) | (go_simp; exact ⟨rfl, rfl⟩)) ?_
           refine hK.out _ _ BK199.out (fun hHeld => ?_)
           clear hK K
           refine norm_ (a' := ?_) ?_ ?_
           rotate_left
           ·show Act.put _ (some 56) _ = _
            simp only [Act.put, Z1, Z2, Z3, Y4, Y5]
            rfl
           refine one_ (i := 11) (N := none) (bs 12 4095) rfl rfl (one_of HT_.out (by kernel_rfl)) (by decide) (fun K hK => ?_)
           have hcc : ∃ x, w11.cell? ⟨g6, 11, none⟩ = some x := ⟨_, (Y0 BK6.out 11).trans (u8s_some (by rw [List.length_append, HN10.out]; simp))⟩
           obtain ⟨x0, hcc⟩ := hcc
           have hff := blk_frozen BK6.out 11
           refine skip_event (w1 := w11.setCell ⟨g6, 11, none⟩ (.int .u8 ((rd_T23 l0_1 x39_1).f2 % 256))) rfl (by rfl) (by first | (go_simp; done) | (go_simp; rfl) | (go_simp; exact ⟨rfl, rfl⟩)) ?_
           clear hcc hff
           have nO := Z0 (cellset_R (j := 11) (u := .int .u8 ((rd_T23 l0_1 x39_1).f2 % 256)) HO_3.out BK6.out (by decide))
           have n1 := Z0 (blk_far BK168.out (p := ⟨g6, 11, none⟩) N168_6.out (.int .u8 ((rd_T23 l0_1 x39_1).f2 % 256)))
           have n2 := Z0 (blk_far BK199.out (p := ⟨g6, 11, none⟩) N199_6.out (.int .u8 ((rd_T23 l0_1 x39_1).f2 % 256)))
           have n3 := Z0 (blk_put BK6.out 11 (.int .u8 ((rd_T23 l0_1 x39_1).f2 % 256)) ((set16 _ HN10.out _ 0 0 0 0 0 _).2.1))
           have nB := Z0 (below_set (j := 11) (v := .int .u8 ((rd_T23 l0_1 x39_1).f2 % 256)) HB.out GE6.out)
           clear HO_3 BK168 BK199 BK6 HB
           have HO_3 := nO
           have BK168 := n1
           have BK199 := n2
           have BK6 := n3
           have HB := nB
           clear nO n1 n2 n3 nB
           generalize w11.setCell ⟨g6, 11, none⟩ (.int .u8 ((rd_T23 l0_1 x39_1).f2 % 256)) = w12 at HO_3 BK168 BK199 BK6 HB ⊢
           refine hK.out _ _ BK199.out (fun hHeld => ?_)
           clear hK K
           refine done_ (done_of HT_.out (by kernel_rfl)) ?_
           clear hHeld HT_ hfl HKV HKB
           have k3 : w12.cell? ⟨gb199, 3, none⟩ = some (.bool (rd_T23 l0_1 x39_1).f3) := (Y0 BK199.out 3).trans rfl
           have hcc : ∃ x, w12.cell? ⟨g6, 12, none⟩ = some x := ⟨_, (Y0 BK6.out 12).trans (u8s_some (by rw [List.length_append, HN10.out]; simp))⟩
           obtain ⟨x0, hcc⟩ := hcc
           have hff := blk_frozen BK6.out 12
           by_cases hnl : (rd_T23 l0_1 x39_1).f3 = true
           ·have HTD' : Aside0 (t200 = nameL (rd_T23 l0_1 x39_1).f0 ++ [kindLetter (rd_T23 l0_1 x39_1).f1, (rd_T23 l0_1 x39_1).f2 % 256, 1, 0, 0, 0]) := ⟨by rw [HTD.out]; unfold descL; rw [hnl]; rfl⟩
            go_wp2_with (first | ((with_reducible refine gate_builtin (b := .append) (xs := #[.tmp 60, .tmp 61]) rfl ?_); at_builtin; refine Kd.R_append_rows (Kd.int .u8) (w0 := w) w.heap.size rfl (.tmp 60) (.tmp 61) 37 5 (.int .u8 0) 1 rfl Tryz.underlying37 info5 rfl (by decide) (by omega) u3 x3_1 t200 _ _ _ (fun _ => True) (fun _ => False) rfl rfl ?aO ?aR (fun _ _ h => h) (fun _ h => h.elim) ?aF ?aB ?aS ?aL ?_; (case aR => exact hd_C (blk_put BK6.out 12 (.int .u8 1) (set16 _ HN10.out _ _ 0 0 0 0 _).2.2) HTD'.out HTL.out); (case aB => exact (below_set (j := 12) (v := .int .u8 1) HB.out GE6.out)); (case aF => exact (fun _ _ => trivial)); (case aO => exact (cellset_R (j := 12) (u := .int .u8 1) HO_3.out BK6.out (by decide))); (case aS => exact (Z9 (below_set (j := 12) (v := .int .u8 1) HB.out GE6.out))); (case aL => have := LMc38.out; have := HTL.out; omega); intro v204 w43 ho hb hg hat; rw [← Ny203.out] at ho; replace BK168 := Z0 (blk_grown (g := gb168) (o := .cells #[.int .i64 a0_0, .slice (some ad198) l0_1.length c0_1, .slice A0_2 l0_2.length c0_2] 35 (0, 0)) (blk_far BK168.out (p := ⟨g6, 12, none⟩) N168_6.out (.int .u8 1)) hg (Kd.R_ne (cellset_R (j := 12) (u := .int .u8 1) HO_3.out BK6.out (by decide)) (blk_far BK168.out (p := ⟨g6, 12, none⟩) N168_6.out (.int .u8 1)) (by decide))); replace HB := Z0 (hb); have HO205 := Z0 (ho); clear HO_3; clear ho hb hg hat))
            go_roundg k1
            case measure => have := HK1.out; omega
            case rel => exact ⟨(y203), (wrap64 (x39_1 + 1)), V2, H', ⟨by have := HK1.out; omega⟩, ⟨by (with_reducible repeat (first | apply Kd.R_alloc | apply Kd.R_drewN | apply Kd.R_drew)); exact Kd.R_mono HO205.out (fun _ hk => trivial)⟩, ⟨by (with_reducible repeat (first | refine Z6 ?_ _ | refine Z8 ?_ | refine Z7 ?_ _)); exact BK168.out⟩, ⟨V0⟩⟩
           ·replace hnl := Bool.eq_false_iff.2 hnl
            have HTD' : Aside0 (t200 = nameL (rd_T23 l0_1 x39_1).f0 ++ [kindLetter (rd_T23 l0_1 x39_1).f1, (rd_T23 l0_1 x39_1).f2 % 256, 0, 0, 0, 0]) := ⟨by rw [HTD.out]; unfold descL; rw [hnl]; rfl⟩
            go_wp2_with (first | ((with_reducible refine gate_builtin (b := .append) (xs := #[.tmp 60, .tmp 61]) rfl ?_); at_builtin; refine Kd.R_append_rows (Kd.int .u8) (w0 := w) w.heap.size rfl (.tmp 60) (.tmp 61) 37 5 (.int .u8 0) 1 rfl Tryz.underlying37 info5 rfl (by decide) (by omega) u3 x3_1 t200 _ _ _ (fun _ => True) (fun _ => False) rfl rfl ?aO ?aR (fun _ _ h => h) (fun _ h => h.elim) ?aF ?aB ?aS ?aL ?_; (case aR => exact hd_C (BK6.out) HTD'.out HTL.out); (case aB => exact HB.out); (case aF => exact (fun _ _ => trivial)); (case aO => exact (HO_3.out)); (case aS => exact (Z9 HB.out)); (case aL => have := LMc38.out; have := HTL.out; omega); intro v204 w43 ho hb hg hat; rw [← Ny203.out] at ho; replace BK168 := Z0 (blk_grown (g := gb168) (o := .cells #[.int .i64 a0_0, .slice (some ad198) l0_1.length c0_1, .slice A0_2 l0_2.length c0_2] 35 (0, 0)) (BK168.out) hg (Kd.R_ne (HO_3.out) (BK168.out) (by decide))); replace HB := Z0 (hb); have HO205 := Z0 (ho); clear HO_3; clear ho hb hg hat))
            go_roundg k1
            case measure => have := HK1.out; omega
            case rel => exact ⟨(y203), (wrap64 (x39_1 + 1)), V2, H', ⟨by have := HK1.out; omega⟩, ⟨by (with_reducible repeat (first | apply Kd.R_alloc | apply Kd.R_drewN | apply Kd.R_drew)); exact Kd.R_mono HO205.out (fun _ hk => trivial)⟩, ⟨by (with_reducible repeat (first | refine Z6 ?_ _ | refine Z8 ?_ | refine Z7 ?_ _)); exact BK168.out⟩, ⟨V0⟩⟩
          ·rw [if_neg c38] at H
           exact absurd H (by simp)
         ·rw [if_neg c36] at H
          exact absurd H (by simp)
        ·rw [if_neg c35] at H
         exact absurd H (by simp)
       ·rw [if_neg c34] at H
        have c34b0 : decide (x39_1 < (l0_1.length : Int)) = false := decide_eq_false c34
        clear c34
        by_cases c45 : x3_1.length < 140737488355328
        ·rw [if_pos c45] at H
         have LMc45 := Z0 c45
         clear c45
         obtain ⟨y206, hy206⟩ : ∃ y_ : List Int, y_ = (x3_1 ++ [13]) := ⟨_, rfl⟩
         replace H : (some y206) = some r := by rw [hy206]; exact H
         have Ny206 := Z0 hy206
         clear hy206
         obtain rfl := Option.some.inj H
         go_wp2_with (first | ((with_reducible refine gate_builtin (b := .append) (xs := #[.tmp 64, .tmp 65]) rfl ?_); at_builtin; refine Kd.R_append (Kd.int .u8) (w0 := w) w.heap.size rfl (.tmp 64) (.tmp 65) 37 5 (.int .u8 0) 1 rfl Tryz.underlying37 info5 rfl (by decide) (by omega) u3 x3_1 13 [.int .u8 13] (fun _ => True) (fun _ => False) rfl rfl ?aP (fun _ hk => hk.elim) ?aF ?aO ?aB ?aS ?aL ?_; (case aP => exact rfl); (case aB => exact V0); (case aF => exact (fun _ _ => trivial)); (case aO => exact (by (with_reducible repeat (first | apply Kd.R_alloc | apply Kd.R_drewN | apply Kd.R_drew)); exact HO_3.out)); (case aS => exact (Z9 V0)); (case aL => have := LMc45.out; omega); intro v207 w46 ho hb hg hat; rw [← Ny206.out] at ho; replace BK168 := Z0 (blk_grown (g := gb168) (o := .cells #[.int .i64 a0_0, .slice A0_1 l0_1.length c0_1, .slice A0_2 l0_2.length c0_2] 35 (0, 0)) (by (with_reducible repeat (first | refine Z6 ?_ _ | refine Z8 ?_ | refine Z7 ?_ _)); exact BK168.out) hg (Kd.R_ne HO_3.out BK168.out (by decide))); replace HB := Z0 (hb); have HO208 := Z0 (ho); clear HO_3; clear ho hb hg hat))
         go_ret
         exact ⟨_, rfl, by (with_reducible repeat (first | apply Kd.R_alloc | apply Kd.R_drewN | apply Kd.R_drew)); exact HO208.out, V0⟩
        ·rw [if_neg c45] at H
         exact absurd H (by simp)
    ·rw [if_neg c10] at H
     exact absurd H (by simp)
   ·rw [if_neg c9] at H
    exact absurd H (by simp)
  ·rw [if_neg c6] at H
   exact absurd H (by simp)
 ·rw [if_neg c3] at H
  exact absurd H (by simp)
def table_Header.f (k : Nat) (a0_0 : Int) (l0_1 : List (S23)) (l0_2 : List (S46)) : Option (List Int × Int) := (table_Validate.f k a0_0 l0_1 l0_2).bind fun t244 => (if t244 = 0 then ((table_header.f k a0_0 l0_1 l0_2).bind fun t245 => (some (t245, 0))) else (some (([] : List Int), t244)))
theorem table_Header.mono : ∀ a0 a1 a2 k, LeO (table_Header.f k a0 a1 a2) (table_Header.f (k + 1) a0 a1 a2) := by
 intro a0 a1 a2 k
 unfold table_Header.f
 repeat' first
   | (with_reducible exact table_Validate.mono _ _ _ _)
   | (with_reducible exact table_header.mono _ _ _ _)
   | (with_reducible exact LeO.refl _)
   | (with_reducible exact LeO.none _)
   | (with_reducible refine LeO.ite ?_ ?_)
   | (with_reducible refine LeO.bind ?_ (fun _ => ?_))
set_option maxHeartbeats 8000000 in
set_option maxRecDepth 100000 in
theorem table_Header.calls (k : Nat) (a0_0 : Int) (A0_1 : Option Addr) (c0_1 : Nat) (l0_1 : List (S23)) (A0_2 : Option Addr) (c0_2 : Nat) (l0_2 : List (S46)) (r1 : List Int) (r2 : Int) (w : World) (hr0_1 : Kd.C k23 w A0_1 l0_1.length l0_1) (hc0_1 : l0_1.length ≤ c0_1) (hr0_2 : Kd.C k46 w A0_2 l0_2.length l0_2) (hc0_2 : l0_2.length ≤ c0_2) (h : table_Header.f k a0_0 l0_1 l0_2 = some (r1, r2)) :
  Calls Tryz.prog 19 #[.agg #[.int .i64 a0_0, .slice A0_1 l0_1.length c0_1, .slice A0_2 l0_2.length c0_2]] w fun e w' => ∃ v0_ : Value, e = .returned (.tuple #[v0_, .int .i64 r2]) ∧ Kd.R (Kd.int .u8) 5 w' w.heap.size (fun _ => True) v0_ r1 ∧ Below w.heap.size w w' := by
 have hu35 := Tryz.underlying35
 have HR0_1 := Z0 hr0_1
 have HC0_1 := Z0 hc0_1
 clear hr0_1 hc0_1
 have HR0_2 := Z0 hr0_2
 have HC0_2 := Z0 hc0_2
 clear hr0_2 hc0_2
 have HB := Z0 (Below.refl w.heap.size w)
 have H : ((table_Validate.f k a0_0 l0_1 l0_2).bind fun t244 => (if t244 = 0 then ((table_header.f k a0_0 l0_1 l0_2).bind fun t245 => (some (t245, 0))) else (some (([] : List Int), t244)))) = some (r1, r2) := h
 clear h
 replace H := Option.bind_eq_some_iff.mp H
 obtain ⟨t244, A20, H⟩ := H
 replace H : (if t244 = 0 then ((table_header.f k a0_0 l0_1 l0_2).bind fun t245 => (some (t245, 0))) else (some (([] : List Int), t244))) = some (r1, r2) := H
 have A2 := Z0 A20
 clear A20
 by_cases c3 : t244 = 0
 ·rw [if_pos c3] at H
  have c3b0 : (t244 == 0) = true := beq_iff_eq.mpr c3
  have c3b1 : (t244 != 0) = false := bne_eq_false_iff_eq.mpr c3
  clear c3
  replace H := Option.bind_eq_some_iff.mp H
  obtain ⟨t245, A40, H⟩ := H
  replace H : (some (t245, 0)) = some (r1, r2) := H
  have A4 := Z0 A40
  clear A40
  simp only [Option.some.injEq, Prod.mk.injEq] at H
  obtain ⟨rfl, rfl⟩ := H
  go_enter Tryz.func19, Tryz.ntmps19
  go_wp2_with (first | ((with_reducible refine Y1 (N := 1) rfl ?_); refine bx (N := 1) (cs := #[.int .i64 a0_0, .slice A0_1 l0_1.length c0_1, .slice A0_2 l0_2.length c0_2]) (t := 35) ?_; intro gb243 hg w5 hbox hb; have BK243 := Z0 (hbox); have GE243 := Z0 ((by rw [hg]; exact (Z9 HB.out) : w.heap.size ≤ gb243)); replace HB := Z0 (Z4 HB.out hb); clear hb hbox hg; obtain ⟨hcz6_0, hcz6_1, hcz6_2⟩ := bc3 BK243.out; obtain ⟨hfz6_0, hfz6_1, hfz6_2⟩ := bf3 BK243.out) | ((with_reducible refine Y2 (f := 34) rfl ?_); refine goesL_ (some 6) rfl rfl Tryz.func34 (by kernel_rfl) rfl #[.agg #[.int .i64 a0_0, .slice A0_1 l0_1.length c0_1, .slice A0_2 l0_2.length c0_2]] rfl V1 ?_; (with_reducible refine (table_Validate.calls k a0_0 _ _ l0_1 _ _ l0_2 t244 _ ?side1 ?side2 ?side3 ?side4 A2.out).mono ?_); (case side1 => repeat (first | exact (Kd.C_below HR0_1.out HB.out) | (with_reducible refine Kd.C_alloc ?_ _) | (with_reducible refine Kd.C_drewN ?_ _) | (with_reducible refine Kd.C_drew ?_))); (case side2 => exact HC0_1.out); (case side3 => repeat (first | exact (Kd.C_below HR0_2.out HB.out) | (with_reducible refine Kd.C_alloc ?_ _) | (with_reducible refine Kd.C_drewN ?_ _) | (with_reducible refine Kd.C_drew ?_))); (case side4 => exact HC0_2.out); rintro e w7 ⟨rfl, hb⟩; refine ⟨_, rfl, ?_⟩; replace BK243 := Z0 (Z5 BK243.out hb); replace HB := Z0 (Z4 HB.out hb); (try clear hb); (try clear hb2); (try clear hk); (try clear hi); obtain ⟨hcz8_0, hcz8_1, hcz8_2⟩ := bc3 BK243.out; obtain ⟨hfz8_0, hfz8_1, hfz8_2⟩ := bf3 BK243.out) | ((with_reducible refine Y2 (f := 62) rfl ?_); refine goesL_ (some 11) rfl rfl Tryz.func62 (by kernel_rfl) rfl #[.agg #[.int .i64 a0_0, .slice A0_1 l0_1.length c0_1, .slice A0_2 l0_2.length c0_2]] rfl V1 ?_; (with_reducible refine (table_header.calls k a0_0 _ _ l0_1 _ _ l0_2 t245 _ ?side1 ?side2 ?side3 ?side4 A4.out).mono ?_); (case side1 => repeat (first | exact (Kd.C_below HR0_1.out HB.out) | (with_reducible refine Kd.C_alloc ?_ _) | (with_reducible refine Kd.C_drewN ?_ _) | (with_reducible refine Kd.C_drew ?_))); (case side2 => exact HC0_1.out); (case side3 => repeat (first | exact (Kd.C_below HR0_2.out HB.out) | (with_reducible refine Kd.C_alloc ?_ _) | (with_reducible refine Kd.C_drewN ?_ _) | (with_reducible refine Kd.C_drew ?_))); (case side4 => exact HC0_2.out); rintro e w9 ⟨v246, rfl, ho0, hb⟩; refine ⟨_, rfl, ?_⟩; have HO247 := Z0 (Kd.R_lower ho0 (Z9 HB.out)); replace BK243 := Z0 (Z5 BK243.out hb); replace HB := Z0 (Z4 HB.out hb); (try clear hb); (try clear hb2); (try clear hk); (try clear hi); (try clear ho0)))
  go_ret2
  exact ⟨_, rfl, by (with_reducible repeat (first | apply Kd.R_alloc | apply Kd.R_drewN | apply Kd.R_drew)); exact HO247.out, V0⟩
 ·rw [if_neg c3] at H
  have c3b0 : (t244 == 0) = false := beq_eq_false_iff_ne.mpr c3
  have c3b1 : (t244 != 0) = true := bne_iff_ne.mpr c3
  simp only [Option.some.injEq, Prod.mk.injEq] at H
  obtain ⟨rfl, rfl⟩ := H
  go_enter Tryz.func19, Tryz.ntmps19
  go_wp2_with (first | ((with_reducible refine Y1 (N := 1) rfl ?_); refine bx (N := 1) (cs := #[.int .i64 a0_0, .slice A0_1 l0_1.length c0_1, .slice A0_2 l0_2.length c0_2]) (t := 35) ?_; intro gb243 hg w10 hbox hb; have BK243 := Z0 (hbox); have GE243 := Z0 ((by rw [hg]; exact (Z9 HB.out) : w.heap.size ≤ gb243)); replace HB := Z0 (Z4 HB.out hb); clear hb hbox hg; obtain ⟨hcz11_0, hcz11_1, hcz11_2⟩ := bc3 BK243.out; obtain ⟨hfz11_0, hfz11_1, hfz11_2⟩ := bf3 BK243.out) | ((with_reducible refine Y2 (f := 34) rfl ?_); refine goesL_ (some 6) rfl rfl Tryz.func34 (by kernel_rfl) rfl #[.agg #[.int .i64 a0_0, .slice A0_1 l0_1.length c0_1, .slice A0_2 l0_2.length c0_2]] rfl V1 ?_; (with_reducible refine (table_Validate.calls k a0_0 _ _ l0_1 _ _ l0_2 t244 _ ?side1 ?side2 ?side3 ?side4 A2.out).mono ?_); (case side1 => repeat (first | exact (Kd.C_below HR0_1.out HB.out) | (with_reducible refine Kd.C_alloc ?_ _) | (with_reducible refine Kd.C_drewN ?_ _) | (with_reducible refine Kd.C_drew ?_))); (case side2 => exact HC0_1.out); (case side3 => repeat (first | exact (Kd.C_below HR0_2.out HB.out) | (with_reducible refine Kd.C_alloc ?_ _) | (with_reducible refine Kd.C_drewN ?_ _) | (with_reducible refine Kd.C_drew ?_))); (case side4 => exact HC0_2.out); rintro e w12 ⟨rfl, hb⟩; refine ⟨_, rfl, ?_⟩; replace BK243 := Z0 (Z5 BK243.out hb); replace HB := Z0 (Z4 HB.out hb); (try clear hb); (try clear hb2); (try clear hk); (try clear hi)))
  go_ret2
  exact ⟨_, rfl, by first | exact Kd.R_nil _ _ _ _ _ | exact Kd.N_nil _ _ _ _ _ | exact Kd.V_nil _ _ _ _ _ | exact Kd.Q_nil _ _ _ _ _ | exact Kd.S_nil _ _ _ _ _, V0⟩
theorem size23 : (Tryz.prog.info? 23).map (·.size) = some 4 := by kernel_rfl
theorem size25 : (Tryz.prog.info? 25).map (·.size) = some 3 := by kernel_rfl
theorem made_apart {W w1 : World} {b : Nat} {ok1 ok2 : Nat → Prop} {vo vf : Value} {x5 x6 : List Int} (h1 : Kd.R (Kd.int .u8) 5 W b ok1 vo x5) (h2 : Kd.R (Kd.int .u8) 5 w1 W.heap.size ok2 vf x6) : ∀ k, vo.ownBlock = some k → vf.ownBlock ≠ some k := by
 intro k hk hf
 have a := Kd.R_base h2 k hf
 have b := Kd.R_lt h1 k hk
 omega
theorem RowInv.start {w W w1 : World} {gr gB : Nat} {rc : Array Value} {vo vf : Value} {x5 x6 : List Int} (h1 : Kd.R (Kd.int .u8) 5 W w.heap.size (fun _ => True) vo x5) (h2 : Kd.R (Kd.int .u8) 5 W w.heap.size (fun _ => True) vf x6) (h3 : ∀ k, vo.ownBlock = some k → vf.ownBlock ≠ some k) (h4 : W.heap[gr]? = some (.cells rc 46 (0, 0))) (hB : Below w.heap.size w W)
  (hbox : w1.heap[gB]? = some (.cells #[.pointer none, .slice none 0 0] 126 (0, 0))) (hb : Below W.heap.size W w1) (hg : gB = W.heap.size) : RowInv w gr gB rc vo vf x5 x6 (⟨#[]⟩ : ByteArray) w1 := by
 subst hg
 refine ⟨?_, ?_, h3, Z5 h4 hb, blk_lt h4, hB.size, .inl ⟨Nat.le_refl _, _, hbox, ⟨rfl, .inl ⟨rfl, rfl⟩⟩, by simp [Value.ownBlock]⟩, Z4 hB hb⟩
 ·exact Kd.R_below (Kd.R_mono (Kd.R_bound h1) (fun _ hk => hk.2.2.1)) hb
 ·exact Kd.R_below (Kd.R_mono (Kd.R_bound h2) (fun _ hk => hk.2.2.1)) hb
theorem inv_open {w W : World} {gr gB : Nat} {rc : Array Value} {vo vf : Value} {x5 x6 : List Int} {X : ByteArray} (h : RowInv w gr gB rc vo vf x5 x6 X W) : ∃ W0 : World, Aside0 (RowInv w gr gB rc vo vf x5 x6 X W0) ∧ Aside0 (Below W0.heap.size W0 W) := ⟨W, ⟨h⟩, ⟨Below.refl _ _⟩⟩
theorem RowInv.args {w W : World} {gr gB : Nat} {rc : Array Value} {vo vf : Value} {x5 x6 : List Int} {X : ByteArray} (h : RowInv w gr gB rc vo vf x5 x6 X W) : Below w.heap.size w W := h.2.2.2.2.2.2.2
theorem RowInv.rec {w W : World} {gr gB : Nat} {rc : Array Value} {vo vf : Value} {x5 x6 : List Int} {X : ByteArray} (h : RowInv w gr gB rc vo vf x5 x6 X W) : W.heap[gr]? = some (.cells rc 46 (0, 0)) := h.2.2.2.1
theorem row_step {l0 : List S23} {l1 : List S25} {n : Nat} {x6 : List Int} {b : Int} {X : ByteArray} {r : List Int × ByteArray} {f : S23} (h : rowL (l0.drop n) (l1.drop n) x6 b X = some r) (hn : n < l0.length) (hf : l0.getD n z23 = f) :
  n < l1.length ∧ ∃ y6 p, rowFlag f (l1.getD n z25) x6 b = some y6 ∧ rowPart f (l1.getD n z25) = some p ∧ X.size + p.size ≤ 140737488355328 ∧ rowL (l0.drop (n + 1)) (l1.drop (n + 1)) y6 (rowBit f b) (X ++ p) = some r := by
 rw [List.drop_eq_getElem_cons hn] at h
 have e0 : l0.getD n z23 = l0[n] := by simp [List.getD, hn]
 by_cases h1 : n < l1.length
 ·have e1 : l1.getD n z25 = l1[n] := by simp [List.getD, h1]
  rw [List.drop_eq_getElem_cons h1] at h
  rw [e1]
  rw [e0] at hf
  subst hf
  refine ⟨h1, ?_⟩
  simp only [rowL] at h
  obtain ⟨y6, h2, h⟩ := Option.bind_eq_some_iff.mp h
  obtain ⟨p, h3, h⟩ := Option.bind_eq_some_iff.mp h
  split at h
  ·rename_i h4
   exact ⟨y6, p, h2, h3, h4, h⟩
  ·cases h
 ·have e2 : l1.drop n = [] := List.drop_eq_nil_of_le (by omega)
  rw [e2] at h
  simp only [rowL] at h
  cases h
theorem row_kept {w1 w2 : World} {b : Nat} {ok : Nat → Prop} {v : Value} {xs : List Int} {gB : Nat} (h : Kd.R (Kd.int .u8) 5 w1 b ok v xs) (ha : ∀ k, v.ownBlock = some k → ∀ u, w1.cell? ⟨gB, 1, none⟩ = some u → u.ownBlock ≠ some k) (ho : ∀ k o, w1.heap[k]? = some o → (∀ u, w1.cell? ⟨gB, 1, none⟩ = some u → u.ownBlock ≠ some k) → w2.heap[k]? = some o) : Kd.R (Kd.int .u8) 5 w2 b (fun _ => True) v xs := by
 refine Kd.R_mono (Kd.R_step (Kd.R_tight rfl h) (fun k hk hlt => ?_)) (fun _ _ => trivial)
 obtain ⟨o, he⟩ : ∃ o, w1.heap[k]? = some o := ⟨_, Array.getElem?_eq_getElem hlt⟩
 rw [he]
 exact ho k o he (ha k hk.symm)
def row_T13 : Bool × List (List Nat × List Nat) := (true, [([], []), ([], []), ([1], [1]), ([0, 2], [0, 2]), ([3], [3]), ([], []), ([5], [5]), ([6], [6]), ([4, 7], [4, 7]), ([0, 2, 0, 1, 2, 3, 4, 5, 6, 7, 8], [0, 2]), ([9, 8, 0, 1, 2, 3, 4, 5, 6, 7, 8], [8, 9])])
def row_B13 : List Nat := [0, 0, 2, 7, 15, 0, 32, 96, 255, 511, 1023]
theorem row_tab13 : rtab .any (opsOf Tryz.f63 13) = row_T13 := by kernel_rfl
theorem row_bits13 : waitsOk row_T13.2 row_B13 = true := by kernel_rfl
def row_T17 : Bool × List (List Nat × List Nat) := (true, [([],[]),([],[]),([1],[1]),([0,2],[0,2]),([3],[3]),([],[]),([],[]),([4,5,6,0],[4,5,6]),([7,7],[7])])
theorem row_tab17 : rtab .any (opsOf Tryz.f63 17) = row_T17 := by kernel_rfl
def row_B17 : List Nat := [0, 0, 2, 7, 15, 0, 0, 127, 255]
theorem row_bits17 : waitsOk row_T17.2 row_B17 = true := by kernel_rfl
set_option maxHeartbeats 16000000 in
set_option maxRecDepth 100000 in
theorem row_walk (A0 : Option Addr) (c0 : Nat) (l0 : List (S23)) (a1_0 : Bool) (A1 : Option Addr) (c1 : Nat) (l1 : List (S25)) (t : Int) (F : List Int) (Y : ByteArray) (w : World) (hr0 : Kd.C k23 w A0 l0.length l0) (hc0 : l0.length ≤ c0) (hr1 : Kd.C k25 w A1 l1.length l1) (hc1 : l1.length ≤ c1)
  (hA : table_nullBytes.f (l0.length + 2) l0 = some t) (ht0 : 0 ≤ t) (ht1 : t.toNat ≤ 281474976710656) (hL : rowL l0 l1 (List.replicate t.toNat 0) 0 (⟨#[]⟩ : ByteArray) = some (F, Y)) (hn : l0.length ≤ 1000000000) (hs : 1 + F.length + Y.size ≤ 140737488355328) (hyn : Y.size ≠ 0) :
  Calls Tryz.prog 63 #[.slice A0 l0.length c0, .agg #[.bool a1_0, .slice A1 l1.length c1]] w fun e w' => ∃ v0_ : Value, e = .returned (v0_) ∧ Kd.R (Kd.int .u8) 5 w' w.heap.size (fun _ => True) v0_ (([rowHead a1_0] : List Int) ++ F ++ bytesI Y) ∧ Below w.heap.size w w' := by
 have hu46 := Tryz.underlying46
 have hu25 := Tryz.underlying25
 have hu23 := Tryz.underlying23
 have HR0 := Z0 hr0
 have HC0 := Z0 hc0
 have HR1 := Z0 hr1
 have HC1 := Z0 hc1
 have AT := Z0 hA
 have T0 := Z0 ht0
 have T1 := Z0 ht1
 have AL := Z0 hL
 have HN := Z0 hn
 have HS := Z0 hs
 have HYN := Z0 hyn
 clear hr0 hc0 hr1 hc1 hA ht0 ht1 hL hn hs hyn
 have HB := Z0 (Below.refl w.heap.size w)
 go_enter Tryz.func63, Tryz.ntmps63
 go_upto_if 14 with (first | ((with_reducible refine Y1 (N := 3) rfl ?_); refine bx (N := 3) (cs := #[.bool a1_0, .slice A1 l1.length c1]) (t := 46) ?_; intro gr hg w4 hbox hb; have n0_ := Z0 (Z4 HB.out hb); have BKr := Z0 hbox; clear HB; have HB := n0_; clear n0_ hb hbox hg) | ((with_reducible refine Y1 (N := 12) rfl ?_); refine Kd.R_lit (Kd.int .u8) _ 5 ?hg (N := 12) ?hd (xs := ([32] : List Int)) (inner := [.int .u8 32]) (ok := fun _ => True) (okp := fun _ => True) ?hr ?hp (fun _ hk => hk) trivial (Below.refl _ _) (Nat.le_refl _) (by simp) ?_; (case hd => rfl); (case hg => rfl); (case hr => go_simp; try rfl); (case hp => exact (Reps.one (show Kd.M (Kd.int .u8) _ _ _ 32 [.int .u8 32] from rfl) (Reps.none _ _))); intro vo w5 ho6 hb hg_ hnew_; clear hg_ hnew_; have HO := Z0 (Kd.R_lower ho6 (Z9 HB.out)); have n1_ := Z0 (Z5 BKr.out hb); have n2_ := Z0 (Z4 HB.out hb); clear BKr; clear HB; have BKr := n1_; have HB := n2_; clear n1_ n2_; clear hb ho6; obtain ⟨hcz0, hcz1⟩ := bc2 BKr.out; obtain ⟨hfz0, hfz1⟩ := bf2 BKr.out))
 (try simp only [Act.put, Z1, Z2, Z3])
 go_cut [] (fun wc => ∃ x5 : List Int, Aside0 (x5 = [rowHead a1_0]) ∧ Aside0 (Kd.R (Kd.int .u8) 5 wc w.heap.size (fun _ => True) vo x5) ∧ Aside0 (wc.heap[gr]? = some (.cells #[.bool a1_0, .slice A1 l1.length c1] 46 (0, 0))) ∧ Aside0 (Below w.heap.size w wc))
 case first =>
  cases a1_0
  ·go_wp2
   go_meet
   case rel => exact ⟨[32], ⟨rfl⟩, HO, BKr, HB⟩
  ·obtain ⟨go10, co10, eo10, gb10, gl10, cl10, HG10⟩ := Kd.R_form HO.out (by simp)
   subst eo10
   have GB10 := Z0 gb10
   clear gb10 gl10 HG10
   obtain ⟨hx10, hf10⟩ := Kd.R_celln 0 HO.out (0 : Int) (by omega) (by simp)
   (try rw [show ((0 : Int)).toNat = 0 from rfl] at hx10 hf10)
   have HP11 := Kd.R_putg HO.out (0 : Int) 42
   go_wp2_with (first | ((with_reducible refine gate_store (t := 5) (p := 16) rfl ?_); refine store_event (t := 5) (p := 16) (v := ?vo_w12) (w1 := (w5.setCell ⟨go10, (0 : Int).toNat, none⟩ (.int .u8 42))) ?hg ?ho ?hn ?hr ?_; (case ho => rfl); (case hg => rfl); (case hn => rfl); (case hr => go_simp; try rfl); intro w12 hw; have hg : w5.grownBy w12 (some go10) := (by rw [hw]; exact HP11.2); have n1_ : Aside0 (Kd.R (Kd.int .u8) 5 w12 w.heap.size (fun _ => True) (.slice (some ⟨go10, 0, none⟩) [(32 : Int)].length co10) [42]) := ⟨by rw [hw]; exact HP11.1⟩; clear HP11; have n0_ := Z0 (blk_grown BKr.out hg (Kd.R_ne HO.out BKr.out (by decide))); have n2_ := Z0 ((by rw [hw]; exact below_set (HB.out) GB10.out : Below w.heap.size w w12)); clear BKr; clear HO; clear HB; have BKr := n0_; have HO := n1_; have HB := n2_; clear n0_ n1_ n2_; clear hg hw))
   go_meet
   case rel => exact ⟨[42], ⟨rfl⟩, HO, BKr, HB⟩
 case rest =>
  try clear hcz0 hcz1 hfz0 hfz1
  clear HO BKr HB
  obtain ⟨x5, HX5, HO, BKr, HB⟩ := hcut
  go_wp2_with (first | ((with_reducible refine Y2 (f := 71) rfl ?_); refine goesL_ (some 18) rfl rfl Tryz.func71 (by kernel_rfl) rfl #[.slice A0 l0.length c0] rfl V1 ?_; (with_reducible refine (table_nullBytes.calls (l0.length + 2) _ _ l0 t _ ?side1 ?side2 AT.out).mono ?_); (case side1 => exact (Kd.C_below HR0.out HB.out)); (case side2 => exact HC0.out); rintro e w16 ⟨rfl, hb⟩; refine ⟨_, rfl, ?_⟩; have n0_ := Z0 (Kd.R_below HO.out hb); have n1_ := Z0 (Z5 BKr.out hb); have n2_ := Z0 (Z4 HB.out hb); clear HO; clear BKr; clear HB; have HO := n0_; have BKr := n1_; have HB := n2_; clear n0_ n1_ n2_ hb) | ((with_reducible refine Y1 (N := 19) rfl ?_); refine Kd.R_make (Kd.int .u8) _ 5 rfl (N := 19) rfl 37 _ _ rfl t rfl rfl Tryz.underlying37 (.int .u8 0) 1 info5 rfl (by decide) (by omega) 0 (ok := fun _ => True) (okp := fun _ => True) rfl (fun _ hk => hk) trivial (T0.out) (by have := T1.out; omega) (Below.refl _ _) (Nat.le_refl _) ?_; intro vf w17 ho18 hb hg_ hnew_; clear hg_ hnew_; have HAP := Z0 (made_apart HO.out ho18); have n0_ := Z0 (Kd.R_below HO.out hb); have HF := Z0 (Kd.R_lower ho18 (Z9 HB.out)); have n2_ := Z0 (Z5 BKr.out hb); have n3_ := Z0 (Z4 HB.out hb); clear HO; clear BKr; clear HB; have HO := n0_; have BKr := n2_; have HB := n3_; clear n0_ n2_ n3_; clear hb ho18) | ((with_reducible refine Y1 (N := 7) rfl ?_); refine bx (N := 7) (cs := #[.pointer none, .slice none 0 0]) (t := 126) ?_; intro gB hg w19 hbox hb; have HI := Z0 (RowInv.start HO.out HF.out HAP.out BKr.out HB.out hbox hb hg); clear HO HF HAP BKr HB hb hbox hg))
  go_loopg [8, 22] (l0.length + 1) (fun kq v8 v22 w' => ∃ (n : Nat) (x6 : List Int) (b : Int) (X : ByteArray), v8 = .int .i64 b ∧ v22 = .int .i64 (n : Int) ∧ Aside0 (rowL (l0.drop n) (l1.drop n) x6 b X = some (F, Y)) ∧ Aside0 (kq + n = l0.length + 1) ∧ Aside0 (n ≤ l0.length) ∧ Aside0 (RowInv w gr gB #[.bool a1_0, .slice A1 l1.length c1] vo vf x5 x6 X w'))
  case atStart => exact ⟨0, List.replicate t.toNat 0, 0, (⟨#[]⟩ : ByteArray), rfl, rfl, AL, ⟨by omega⟩, ⟨Nat.zero_le _⟩, HI⟩
  case round =>
   clear HI
   obtain ⟨n, x6, b, X, rfl, rfl, HA, HK, HNl, HI⟩ := hrel
   by_cases c3 : (n : Int) < (l0.length : Int)
   ·obtain ⟨f, hf⟩ : ∃ f, rd_T23 l0 (n : Int) = f := ⟨_, rfl⟩
    obtain ⟨hn1, y6, p, hfl, hpt, hsz, hL⟩ := row_step HA.out (Int.ofNat_lt.1 c3) hf
    obtain ⟨v, hv⟩ : ∃ v, rd_T25 l1 (n : Int) = v := ⟨_, rfl⟩
    have hv' : l1.getD n z25 = v := hv
    rw [hv'] at hfl hpt
    have c3b := decide_eq_true c3
    have p2 : (0 : Int) ≤ n := Int.natCast_nonneg _
    have c4 : (n : Int) < (l1.length : Int) := Int.ofNat_lt.2 hn1
    have c4b := decide_eq_true c4
    obtain ⟨ad, ea, hx0, hx1, hx2, hx3⟩ := at_T23 HR0.out (n : Int) p2 c3
    cases ea
    obtain ⟨ad1, ea, hy0, hy1, hy2⟩ := at_T25 HR1.out (n : Int) p2 c4
    cases ea
    rw [hf] at hx0 hx1 hx2 hx3
    rw [hv] at hy0 hy1 hy2
    rw [Int.toNat_natCast] at hx0 hx1 hx2 hx3 hy0 hy1 hy2
    have HY0 := Z0 hy0
    have HY1 := Z0 hy1
    have HY2 := Z0 hy2
    have HBW := Z0 HI.out.args
    replace hx0 := (HBW.out.cell (World.block_lt_of_cell? w _ hx0)).trans hx0
    replace hx1 := (HBW.out.cell (World.block_lt_of_cell? w _ hx1)).trans hx1
    replace hx2 := (HBW.out.cell (World.block_lt_of_cell? w _ hx2)).trans hx2
    replace hx3 := (HBW.out.cell (World.block_lt_of_cell? w _ hx3)).trans hx3
    have hw : wrap64 ((n : Int) + 1) = ((n + 1 : Nat) : Int) := by
     have := HN.out
     have e : ((n : Int) + 1) = ((n + 1 : Nat) : Int) := by omega
     rw [e]; exact (show wrap64 ((n + 1 : Nat) : Int) = _ by have := Int.ofNat_lt.1 c3; unfold wrap64; omega)
    have HFL := Z0 hfl
    have HPT := Z0 hpt
    have HSZ := Z0 hsz
    have HL := Z0 hL
    have HN1 := Z0 (Int.ofNat_lt.1 c3)
    have HWR := Z0 hw
    clear hw hf hv hv' hn1 hfl hpt hsz hL hy0 hy1 hy2 HA HBW
    obtain ⟨W0, HI, HW⟩ := inv_open HI.out
    obtain ⟨Ao, co, eo⟩ := Kd.R_slice HI.out.2.1
    subst eo
    obtain ⟨s0, s1, s2, s3⟩ := f
    obtain ⟨v0, v1, v2⟩ := v
    simp only at hx0 hx1 hx2 hx3 HY0 HY1 HY2
    have hbit : ∀ q : Bool, s3 = q → rowBit ⟨s0, s1, s2, s3⟩ b = if q = true then wrap64 (b + 1) else b := fun q e => by subst e; rfl
    have HBIT := Z0 hbit
    clear hbit
    cases s3
    ·by_cases hz : v0 = 0
     ·subst hz
      have HREP : Aside0 (strings_Repeat.f (⟨#[32]⟩ : ByteArray) s2 = some p) := ⟨by have h_ := HPT.out; unfold rowPart at h_; rw [if_pos rfl] at h_; exact h_⟩
      have hy6 : x6 = y6 := by have h_ := HFL.out; unfold rowFlag at h_; simp only [if_neg (show ¬ (false = true) by decide)] at h_; exact Option.some.inj h_
      subst hy6
      clear HFL
      go_wp2_with (first | ((with_reducible refine Y1 (N := 10) rfl ?_); refine bx (N := 10) (cs := #[.string (⟨#[]⟩ : ByteArray), .int .i64 0, .int .i64 0, .bool false]) (t := 23) ?_; intro gf hg w25 hbox hb; have GEf : Aside0 (W0.heap.size ≤ gf) := ⟨by rw [hg]; exact HW.out.size⟩; have n0_ := Z0 (Z4 HW.out hb); have BKf := Z0 hbox; clear HW; have HW := n0_; clear n0_ hb hbox hg; clear hx0 hx1 hx2 hx3; (try clear c3b)) | ((with_reducible refine gate_store (t := 23) (p := 10) rfl ?_); refine store_box ?hg (ty := 23) (p := 10) (y := .tmp 26) ?ho ?hd gf (cells := #[.string s0, .int .i64 s1, .int .i64 s2, .bool false]) (old := #[.string (⟨#[]⟩ : ByteArray), .int .i64 0, .int .i64 0, .bool false]) (t := 23) ?hx ?hy ?hgg ?hi ?hold ?h1 ?_; (case ho => rfl); (case hg => rfl); (case hd => rfl); (case hx => rfl); (case hy => rfl); (case hgg => exact BKf.out); (case hi => exact size23); (case hold => rfl); (case h1 => simp [Value.oneCell']); intro w26 hbk hbel hoth; have n0_ := Z0 (hbel _ _ HW.out GEf.out); have n1_ := Z0 hbk; clear HW; clear BKf; have HW := n0_; have BKf := n1_; clear n0_ n1_ hbk hbel hoth; obtain ⟨hr0, hr1⟩ := bc2 (Z5 HI.out.rec HW.out); have HBW := Z0 (Z4 HI.out.args HW.out); have hy0 := (HBW.out.cell (World.block_lt_of_cell? w _ HY0.out)).trans HY0.out; have hy1 := (HBW.out.cell (World.block_lt_of_cell? w _ HY1.out)).trans HY1.out; have hy2 := (HBW.out.cell (World.block_lt_of_cell? w _ HY2.out)).trans HY2.out; clear HBW) | ((with_reducible refine Y1 (N := 11) rfl ?_); refine bx (N := 11) (cs := #[.int .i64 0, .int .i64 0, .string (⟨#[]⟩ : ByteArray)]) (t := 25) ?_; intro gv hg w31 hbox hb; have GEv : Aside0 (W0.heap.size ≤ gv) := ⟨by rw [hg]; exact HW.out.size⟩; have NE : Aside0 (gf ≠ gv) := ⟨by rw [hg]; exact Nat.ne_of_lt (blk_lt BKf.out)⟩; have n0_ := Z0 (Z4 HW.out hb); have n1_ := Z0 (Z5 BKf.out hb); have BKv := Z0 hbox; clear HW; clear BKf; have HW := n0_; have BKf := n1_; clear n0_ n1_ hb hbox hg; clear hr0 hr1 hy0 hy1 hy2) | ((with_reducible refine gate_store (t := 25) (p := 11) rfl ?_); refine store_box ?hg (ty := 25) (p := 11) (y := .tmp 31) ?ho ?hd gv (cells := #[.int .i64 0, .int .i64 v1, .string v2]) (old := #[.int .i64 0, .int .i64 0, .string (⟨#[]⟩ : ByteArray)]) (t := 25) ?hx ?hy ?hgg ?hi ?hold ?h1 ?_; (case ho => rfl); (case hg => rfl); (case hd => rfl); (case hx => rfl); (case hy => rfl); (case hgg => exact BKv.out); (case hi => exact size25); (case hold => rfl); (case h1 => simp [Value.oneCell']); intro w32 hbk hbel hoth; have n0_ := Z0 (hbel _ _ HW.out GEv.out); have n1_ := Z0 hbk; have n2_ := Z0 ((hoth gf NE.out).trans BKf.out); clear HW; clear BKv; clear BKf; have HW := n0_; have BKv := n1_; have BKf := n2_; clear n0_ n1_ n2_ hbk hbel hoth; obtain ⟨kf0, kf1, kf2, kf3⟩ := bc4 BKf.out; obtain ⟨kv0, kv1, kv2⟩ := bc3 BKv.out) | ((with_reducible refine Y2 (f := 99) rfl ?_); refine goesL_ (some 54) rfl rfl Tryz.func99 (by kernel_rfl) rfl #[.string (⟨#[32]⟩ : ByteArray), .int .i64 s2] rfl V1 ?_; (with_reducible refine (strings_Repeat.calls (⟨#[32]⟩ : ByteArray) s2 p _ HREP.out).mono ?_); rintro e w35 ⟨rfl, hb⟩; refine ⟨_, rfl, ?_⟩; have n0_ := Z0 (Z4 HW.out hb); clear HW; have HW := n0_; clear n0_ hb) | ((with_reducible refine Y2 (f := 111) rfl ?_); refine goesL_ (some 55) rfl rfl Tryz.func111 (by kernel_rfl) rfl #[.pointer (some ⟨gB, 0, none⟩), .string p] rfl V1 ?_; have hbl := HI.out.2.2.2.2.2.2.1; (with_reducible refine (Builder_WriteString gB gB (Lib.byteCells X.data.toList) p _ ?hbl ?hlen ?hBw).mono ?_); (case hbl => exact isBuilder_below hbl HW.out); (case hlen => have := HSZ.out; rw [Lib.byteCells_length]; exact this); (case hBw => have h_ := isBuilder_lt (isBuilder_below hbl HW.out); omega); clear hbl; rintro e w40 ⟨rfl, hbld, hb⟩; refine ⟨_, rfl, ?_⟩; have n0_ := Z0 (RowInv.write (RowInv.below HI.out HW.out) hbld hb); clear HI; have HI := n0_; clear n0_ hbld hb HW BKf BKv; (try clear GEf GEv NE)))
      go_roundg (gk - 1)
      case measure => have := HK.out; have := HN1.out; omega
      case rel => exact ⟨n + 1, x6, b, X ++ p, rfl, by rw [HWR.out], ⟨by have h_ := HL.out; rw [HBIT.out false rfl] at h_; exact h_⟩, ⟨by have := HK.out; have := HN1.out; omega⟩, ⟨by have := HN1.out; omega⟩, HI⟩
     ·skip
      have HPT' : writeO ⟨s0, s1, s2, false⟩ ⟨v0, v1, v2⟩ = some p := by have h_ := HPT.out; unfold rowPart at h_; rw [if_neg hz] at h_; exact h_
      obtain ⟨kc, klo, khi, krf, KF, hkv, hke, hkc⟩ := write_any _ _ _ HPT'
      have HKV := Z0 hkv
      have HKE := Z0 hke
      have HKC := Z0 hkc
      clear HPT' hkv hke hkc
      have hfl : ∀ (a b c d e : Value) (W : World), (Instr.field 102 (.agg #[a, b, c, d, e]) 3).run Tryz.prog W = .ok d W := fun _ _ _ _ _ _ => by kernel_rfl
      have hz0 : (v0 == 0) = false := beq_eq_false_iff_ne.mpr hz
      have hz1 : (v0 != 0) = true := bne_iff_ne.mpr hz
      have HZ := Z0 hz
      clear hz
      have hy6 : x6 = y6 := by have h_ := HFL.out; unfold rowFlag at h_; simp only [if_neg (show ¬ (false = true) by decide)] at h_; exact Option.some.inj h_
      subst hy6
      clear HFL
      go_wp2_with (first | ((with_reducible refine Y1 (N := 10) rfl ?_); refine bx (N := 10) (cs := #[.string (⟨#[]⟩ : ByteArray), .int .i64 0, .int .i64 0, .bool false]) (t := 23) ?_; intro gf hg w25 hbox hb; have GEf : Aside0 (W0.heap.size ≤ gf) := ⟨by rw [hg]; exact HW.out.size⟩; have n0_ := Z0 (Z4 HW.out hb); have BKf := Z0 hbox; clear HW; have HW := n0_; clear n0_ hb hbox hg; clear hx0 hx1 hx2 hx3; (try clear c3b)) | ((with_reducible refine gate_store (t := 23) (p := 10) rfl ?_); refine store_box ?hg (ty := 23) (p := 10) (y := .tmp 26) ?ho ?hd gf (cells := #[.string s0, .int .i64 s1, .int .i64 s2, .bool false]) (old := #[.string (⟨#[]⟩ : ByteArray), .int .i64 0, .int .i64 0, .bool false]) (t := 23) ?hx ?hy ?hgg ?hi ?hold ?h1 ?_; (case ho => rfl); (case hg => rfl); (case hd => rfl); (case hx => rfl); (case hy => rfl); (case hgg => exact BKf.out); (case hi => exact size23); (case hold => rfl); (case h1 => simp [Value.oneCell']); intro w26 hbk hbel hoth; have n0_ := Z0 (hbel _ _ HW.out GEf.out); have n1_ := Z0 hbk; clear HW; clear BKf; have HW := n0_; have BKf := n1_; clear n0_ n1_ hbk hbel hoth; obtain ⟨hr0, hr1⟩ := bc2 (Z5 HI.out.rec HW.out); have HBW := Z0 (Z4 HI.out.args HW.out); have hy0 := (HBW.out.cell (World.block_lt_of_cell? w _ HY0.out)).trans HY0.out; have hy1 := (HBW.out.cell (World.block_lt_of_cell? w _ HY1.out)).trans HY1.out; have hy2 := (HBW.out.cell (World.block_lt_of_cell? w _ HY2.out)).trans HY2.out; clear HBW) | ((with_reducible refine Y1 (N := 11) rfl ?_); refine bx (N := 11) (cs := #[.int .i64 0, .int .i64 0, .string (⟨#[]⟩ : ByteArray)]) (t := 25) ?_; intro gv hg w31 hbox hb; have GEv : Aside0 (W0.heap.size ≤ gv) := ⟨by rw [hg]; exact HW.out.size⟩; have NE : Aside0 (gf ≠ gv) := ⟨by rw [hg]; exact Nat.ne_of_lt (blk_lt BKf.out)⟩; have n0_ := Z0 (Z4 HW.out hb); have n1_ := Z0 (Z5 BKf.out hb); have BKv := Z0 hbox; clear HW; clear BKf; have HW := n0_; have BKf := n1_; clear n0_ n1_ hb hbox hg; clear hr0 hr1 hy0 hy1 hy2) | ((with_reducible refine gate_store (t := 25) (p := 11) rfl ?_); refine store_box ?hg (ty := 25) (p := 11) (y := .tmp 31) ?ho ?hd gv (cells := #[.int .i64 v0, .int .i64 v1, .string v2]) (old := #[.int .i64 0, .int .i64 0, .string (⟨#[]⟩ : ByteArray)]) (t := 25) ?hx ?hy ?hgg ?hi ?hold ?h1 ?_; (case ho => rfl); (case hg => rfl); (case hd => rfl); (case hx => rfl); (case hy => rfl); (case hgg => exact BKv.out); (case hi => exact size25); (case hold => rfl); (case h1 => simp [Value.oneCell']); intro w32 hbk hbel hoth; have n0_ := Z0 (hbel _ _ HW.out GEv.out); have n1_ := Z0 hbk; have n2_ := Z0 ((hoth gf NE.out).trans BKf.out); clear HW; clear BKv; clear BKf; have HW := n0_; have BKv := n1_; have BKf := n2_; clear n0_ n1_ n2_ hbk hbel hoth; obtain ⟨kf0, kf1, kf2, kf3⟩ := bc4 BKf.out; obtain ⟨kv0, kv1, kv2⟩ := bc3 BKv.out))
      have n0_ := Z0 (below_drew1 HW.out)
      have n1_ := Z0 (Z8 BKf.out)
      have n2_ := Z0 (Z8 BKv.out)
      clear HW BKf BKv
      have HW := n0_
      have BKf := n1_
      have BKv := n2_
      clear n0_ n1_ n2_
      (try clear kf0 kf1 kf2 kf3)
      (try clear kv0 kv1 kv2)
      refine start_ (n := 9) (S := fun w' => w'.heap[gf]? = some (.cells #[.string s0, .int .i64 s1, .int .i64 s2, .bool false] 23 (0, 0)) ∧ w'.heap[gv]? = some (.cells #[.int .i64 v0, .int .i64 v1, .string v2] 25 (0, 0))) (ds := [8]) (bs 9 0) (by kernel_rfl) rfl rfl ⟨BKf.out, BKv.out⟩ (fun hHeld => ?_); refine with_tabW row_tab17 row_bits17 (fun HT_ HW_ => ?_)
      generalize w32.drew = w33 at HW BKf BKv hHeld ⊢
      refine Y8 (i := 1) (N := some 57) (v := ?_) (a' := ?_) (bs 9 2) rfl rfl (Y3 HT_.out (by kernel_rfl)) (fun _ _ _ h => h) (Or.inl ⟨by rfl, ?_⟩) ?_ ?_
      rotate_left
      ·intro w'
       go_simp
       with_reducible rfl
      rotate_left
      ·simp only [Act.put, Z1, Z2, Z3, Y4, Y5]
       rfl
      refine take_ (i := 2) (N := some 58) (v := ?_) (a' := ?_) (bs 9 6) rfl rfl (take_ofW HT_.out HW_.out (by kernel_rfl)) (fun _ _ _ h => h) (Or.inl ⟨by rfl, ?_⟩) hHeld ?_ ?_
      rotate_left
      ·rintro w' ⟨s0_, s1_⟩
       have sc := (Y0 s0_ 1).trans rfl
       go_simp
       with_reducible rfl
      rotate_left
      ·simp only [Act.put, Z1, Z2, Z3, Y4, Y5]
       rfl
      refine take_ (i := 5) (N := some 61) (v := ?_) (a' := ?_) (bs 9 38) rfl rfl (take_ofW HT_.out HW_.out (by kernel_rfl)) (fun _ _ _ h => h) (Or.inl ⟨by rfl, ?_⟩) hHeld ?_ ?_
      rotate_left
      ·rintro w' ⟨s0_, s1_⟩
       have sc0 : w'.cell? ⟨gf, 0, none⟩ = some (.string s0) := (Y0 s0_ 0).trans rfl
       have sc1 : w'.cell? ⟨gf, 1, none⟩ = some (.int .i64 s1) := (Y0 s0_ 1).trans rfl
       have sc2 : w'.cell? ⟨gf, 2, none⟩ = some (.int .i64 s2) := (Y0 s0_ 2).trans rfl
       have sc3 : w'.cell? ⟨gf, 3, none⟩ = some (.bool false) := (Y0 s0_ 3).trans rfl
       go_simp
       with_reducible rfl
      rotate_left
      ·simp only [Act.put, Z1, Z2, Z3, Y4, Y5]
       rfl
      refine take_ (i := 6) (N := some 62) (v := ?_) (a' := ?_) (bs 9 102) rfl rfl (take_ofW HT_.out HW_.out (by kernel_rfl)) (fun _ _ _ h => h) (Or.inl ⟨by rfl, ?_⟩) hHeld ?_ ?_
      rotate_left
      ·rintro w' ⟨s0_, s1_⟩
       have sc0 : w'.cell? ⟨gv, 0, none⟩ = some (.int .i64 v0) := (Y0 s1_ 0).trans rfl
       have sc1 : w'.cell? ⟨gv, 1, none⟩ = some (.int .i64 v1) := (Y0 s1_ 1).trans rfl
       have sc2 : w'.cell? ⟨gv, 2, none⟩ = some (.string v2) := (Y0 s1_ 2).trans rfl
       go_simp
       with_reducible rfl
      rotate_left
      ·simp only [Act.put, Z1, Z2, Z3, Y4, Y5]
       rfl
      refine one_ (i := 0) (N := some 56) (bs 9 103) rfl rfl (one_of HT_.out (by kernel_rfl)) (by decide) (fun K hK => ?_)
      refine goes_ Tryz.func89 (by kernel_rfl) rfl #[] (by rfl) rfl rfl V1 ?_
      refine (table_kinds w33).mono ?_
      rintro e w34 ⟨rk, rfl, hkb, hb⟩
      refine ⟨_, rfl, ?_⟩
      have HKB := Z0 hkb
      clear hkb
      have n0_ := Z0 (Z4 HW.out hb)
      have n1_ := Z0 (Z5 BKf.out hb)
      have n2_ := Z0 (Z5 BKv.out hb)
      clear HW BKf BKv
      have HW := n0_
      have BKf := n1_
      have BKv := n2_
      clear n0_ n1_ n2_ hb
      refine hK.out _ _ ⟨BKf.out, BKv.out⟩ (fun hHeld => ?_)
      clear hK K
      refine norm_ (a' := ?_) ?_ ?_
      rotate_left
      ·show Act.put _ (some 56) _ = _
       simp only [Act.put, Z1, Z2, Z3, Y4, Y5]
       rfl
      refine one_ (i := 3) (N := some 59) (bs 9 111) rfl rfl (one_of HT_.out (by kernel_rfl)) (by decide) (fun K hK => ?_)
      have hlk := run_look' w34 rk HKB.out _ _ HKV.out
      refine event_step (v := .agg #[kc, klo, khi, .func (.func KF) #[] #[], krf]) (w1 := w34) rfl (by first | (go_simp; done) | (go_simp; rfl) | (go_simp; exact ⟨rfl, rfl⟩)) ?_
      refine hK.out _ _ ⟨BKf.out, BKv.out⟩ (fun hHeld => ?_)
      clear hK K
      refine norm_ (a' := ?_) ?_ ?_
      rotate_left
      ·show Act.put _ (some 59) _ = _
       simp only [Act.put, Z1, Z2, Z3, Y4, Y5]
       rfl
      clear hlk
      refine one_ (i := 4) (N := some 60) (bs 9 127) rfl rfl (one_of HT_.out (by kernel_rfl)) (by decide) (fun K hK => ?_)
      refine event_step (v := .func (.func KF) #[] #[]) (w1 := w34) rfl (by first | (go_simp; done) | (go_simp; rfl) | (go_simp; exact ⟨rfl, rfl⟩)) ?_
      refine hK.out _ _ ⟨BKf.out, BKv.out⟩ (fun hHeld => ?_)
      clear hK K
      refine norm_ (a' := ?_) ?_ ?_
      rotate_left
      ·show Act.put _ (some 60) _ = _
       simp only [Act.put, Z1, Z2, Z3, Y4, Y5]
       rfl
      refine one_ (i := 7) (N := some 63) (bs 9 255) rfl rfl (one_of HT_.out (by kernel_rfl)) (by decide) (fun K hK => ?_)
      refine goesV_ (f := KF) (x := 60) HKE.out #[.agg #[.string s0, .int .i64 s1, .int .i64 s2, .bool false], .agg #[.int .i64 v0, .int .i64 v1, .string v2]] (by rfl) rfl rfl (by rfl) V1 ?_
      refine (HKC.out w34).mono ?_
      rintro e w35 ⟨rfl, hb⟩
      refine ⟨_, rfl, ?_⟩
      have n0_ := Z0 (Z4 HW.out hb)
      have n1_ := Z0 (Z5 BKf.out hb)
      have n2_ := Z0 (Z5 BKv.out hb)
      clear HW BKf BKv
      have HW := n0_
      have BKf := n1_
      have BKv := n2_
      clear n0_ n1_ n2_ hb
      refine hK.out _ _ ⟨BKf.out, BKv.out⟩ (fun hHeld => ?_)
      clear hK K
      refine norm_ (a' := ?_) ?_ ?_
      rotate_left
      ·show Act.put _ (some 63) _ = _
       simp only [Act.put, Z1, Z2, Z3, Y4, Y5]
       rfl
      refine last_ (i := 8) (N := some 64) (bs 9 511) rfl rfl (one_of HT_.out (by kernel_rfl)) (by decide) (fun K hK => ?_)
      refine goes_ Tryz.func111 (by kernel_rfl) rfl #[.pointer (some ⟨gB, 0, none⟩), .string p] (by rfl) rfl rfl V1 ?_
      have hbl := HI.out.2.2.2.2.2.2.1; (with_reducible refine (Builder_WriteString gB gB (Lib.byteCells X.data.toList) p _ ?hbl ?hlen ?hBw).mono ?_); (case hbl => exact isBuilder_below hbl HW.out); (case hlen => have := HSZ.out; rw [Lib.byteCells_length]; exact this); (case hBw => have h_ := isBuilder_lt (isBuilder_below hbl HW.out); omega); clear hbl; rintro e w40 ⟨rfl, hbld, hb⟩; refine ⟨_, rfl, ?_⟩; have n0_ := Z0 (RowInv.write (RowInv.below HI.out HW.out) hbld hb); clear HI; have HI := n0_; clear n0_ hbld hb HW BKf BKv; (try clear GEf GEv NE)
      refine hK.out _ _ ?_
      clear hK K
      refine norm_ (a' := ?_) ?_ ?_
      rotate_left
      ·show Act.put _ (some 64) _ = _
       simp only [Act.put, Z1, Z2, Z3, Y4, Y5]
       rfl
      refine done_ (done_of HT_.out (by kernel_rfl)) ?_
      clear hHeld HT_ HW_ hfl HKV HKB HKE HKC
      go_wp2
      go_roundg (gk - 1)
      case measure => have := HK.out; have := HN1.out; omega
      case rel => exact ⟨n + 1, x6, b, X ++ p, rfl, by rw [HWR.out], ⟨by have h_ := HL.out; rw [HBIT.out false rfl] at h_; exact h_⟩, ⟨by have := HK.out; have := HN1.out; omega⟩, ⟨by have := HN1.out; omega⟩, HI⟩
    ·by_cases hz : v0 = 0
     ·subst hz
      have HREP : Aside0 (strings_Repeat.f (⟨#[32]⟩ : ByteArray) s2 = some p) := ⟨by have h_ := HPT.out; unfold rowPart at h_; rw [if_pos rfl] at h_; exact h_⟩
      go_wp2_with (first | ((with_reducible refine Y1 (N := 10) rfl ?_); refine bx (N := 10) (cs := #[.string (⟨#[]⟩ : ByteArray), .int .i64 0, .int .i64 0, .bool false]) (t := 23) ?_; intro gf hg w25 hbox hb; have GEf : Aside0 (W0.heap.size ≤ gf) := ⟨by rw [hg]; exact HW.out.size⟩; have n0_ := Z0 (Z4 HW.out hb); have BKf := Z0 hbox; clear HW; have HW := n0_; clear n0_ hb hbox hg; clear hx0 hx1 hx2 hx3; (try clear c3b)) | ((with_reducible refine gate_store (t := 23) (p := 10) rfl ?_); refine store_box ?hg (ty := 23) (p := 10) (y := .tmp 26) ?ho ?hd gf (cells := #[.string s0, .int .i64 s1, .int .i64 s2, .bool true]) (old := #[.string (⟨#[]⟩ : ByteArray), .int .i64 0, .int .i64 0, .bool false]) (t := 23) ?hx ?hy ?hgg ?hi ?hold ?h1 ?_; (case ho => rfl); (case hg => rfl); (case hd => rfl); (case hx => rfl); (case hy => rfl); (case hgg => exact BKf.out); (case hi => exact size23); (case hold => rfl); (case h1 => simp [Value.oneCell']); intro w26 hbk hbel hoth; have n0_ := Z0 (hbel _ _ HW.out GEf.out); have n1_ := Z0 hbk; clear HW; clear BKf; have HW := n0_; have BKf := n1_; clear n0_ n1_ hbk hbel hoth; obtain ⟨hr0, hr1⟩ := bc2 (Z5 HI.out.rec HW.out); have HBW := Z0 (Z4 HI.out.args HW.out); have hy0 := (HBW.out.cell (World.block_lt_of_cell? w _ HY0.out)).trans HY0.out; have hy1 := (HBW.out.cell (World.block_lt_of_cell? w _ HY1.out)).trans HY1.out; have hy2 := (HBW.out.cell (World.block_lt_of_cell? w _ HY2.out)).trans HY2.out; clear HBW) | ((with_reducible refine Y1 (N := 11) rfl ?_); refine bx (N := 11) (cs := #[.int .i64 0, .int .i64 0, .string (⟨#[]⟩ : ByteArray)]) (t := 25) ?_; intro gv hg w31 hbox hb; have GEv : Aside0 (W0.heap.size ≤ gv) := ⟨by rw [hg]; exact HW.out.size⟩; have NE : Aside0 (gf ≠ gv) := ⟨by rw [hg]; exact Nat.ne_of_lt (blk_lt BKf.out)⟩; have n0_ := Z0 (Z4 HW.out hb); have n1_ := Z0 (Z5 BKf.out hb); have BKv := Z0 hbox; clear HW; clear BKf; have HW := n0_; have BKf := n1_; clear n0_ n1_ hb hbox hg; clear hr0 hr1 hy0 hy1 hy2) | ((with_reducible refine gate_store (t := 25) (p := 11) rfl ?_); refine store_box ?hg (ty := 25) (p := 11) (y := .tmp 31) ?ho ?hd gv (cells := #[.int .i64 0, .int .i64 v1, .string v2]) (old := #[.int .i64 0, .int .i64 0, .string (⟨#[]⟩ : ByteArray)]) (t := 25) ?hx ?hy ?hgg ?hi ?hold ?h1 ?_; (case ho => rfl); (case hg => rfl); (case hd => rfl); (case hx => rfl); (case hy => rfl); (case hgg => exact BKv.out); (case hi => exact size25); (case hold => rfl); (case h1 => simp [Value.oneCell']); intro w32 hbk hbel hoth; have n0_ := Z0 (hbel _ _ HW.out GEv.out); have n1_ := Z0 hbk; have n2_ := Z0 ((hoth gf NE.out).trans BKf.out); clear HW; clear BKv; clear BKf; have HW := n0_; have BKv := n1_; have BKf := n2_; clear n0_ n1_ n2_ hbk hbel hoth; obtain ⟨kf0, kf1, kf2, kf3⟩ := bc4 BKf.out; obtain ⟨kv0, kv1, kv2⟩ := bc3 BKv.out))
      obtain ⟨ji, hji⟩ : ∃ j_ : Int, (wrap64 (Int.tdiv b 8)) = j_ := ⟨_, rfl⟩
      obtain ⟨jm, hjm⟩ : ∃ j_ : Int, (Int.tmod b 8) = j_ := ⟨_, rfl⟩
      obtain ⟨js, hjs⟩ : ∃ j_ : Int, (shl .u8 1 jm) = j_ := ⟨_, rfl⟩
      have hq := HFL.out
      unfold rowFlag at hq
      simp only [if_true] at hq
      rw [hji, hjm, hjs] at hq
      have hp1 : 0 ≤ ji := by
       by_cases h_ : 0 ≤ ji
       ·exact h_
       ·rw [if_neg h_] at hq; cases hq
      rw [if_pos hp1] at hq
      have hp2 : ji < (x6.length : Int) := by
       by_cases h_ : ji < (x6.length : Int)
       ·exact h_
       ·rw [if_neg h_] at hq; cases hq
      rw [if_pos hp2] at hq
      have hp3 : 0 ≤ jm := by
       by_cases h_ : 0 ≤ jm
       ·exact h_
       ·rw [if_neg h_] at hq; cases hq
      rw [if_pos hp3] at hq
      have hy6 := Option.some.inj hq
      clear hq
      have HP1 := Z0 hp1
      have HP2 := Z0 hp2
      have HY6 := Z0 hy6
      clear hy6
      have c46b0 : decide (0 ≤ (ji)) = true := decide_eq_true hp1
      have c47b0 : decide ((ji) < (x6.length : Int)) = true := decide_eq_true hp2
      have c49b0 := eq_true hp3
      have c49b1 : decide (0 ≤ jm) = true := decide_eq_true hp3
      have hjiw : (IntKind.i64.wrap (Int.tdiv b 8)) = ji := (Y4 _).trans hji
      have hjs_ : (IntKind.u8.wrap (1 * 2 ^ min jm.toNat 8)) = js := hjs
      have hjsz : jm ≤ 8 → (IntKind.u8.wrap (1 * 2 ^ jm.toNat)) = js := shl_small hjs
      have hjsu : (IntKind.u8.wrap (2 ^ min jm.toNat 8)) = js := by have h_ := hjs_; rw [Int.one_mul] at h_; exact h_
      have hjsv : jm ≤ 8 → (IntKind.u8.wrap (2 ^ jm.toNat)) = js := fun hle_ => by have h_ := hjsz hle_; rw [Int.one_mul] at h_; exact h_
      clear hp1 hp2 hp3
      have n0_ := Z0 (RowInv.below (RowInv.below HI.out HW.out) (below_drew1 (Below.refl _ _)))
      have n1_ := Z0 (Z8 BKf.out)
      have n2_ := Z0 (Z8 BKv.out)
      clear HI HW BKf BKv GEf GEv NE
      have HI := n0_
      have BKf := n1_
      have BKv := n2_
      clear n0_ n1_ n2_
      (try clear kf0 kf1 kf2 kf3)
      (try clear kv0 kv1 kv2)
      obtain ⟨ad179, e179, hx179_0⟩ := Kd.at_int (Kd.R_reads' HI.out.2.1).2.2 ji HP1.out HP2.out
      cases e179
      obtain ⟨go51, co51, eo51, gb51, gl51, cl51, HG51⟩ := Kd.R_form HI.out.2.1 (by have := HP1.out; have := HP2.out; omega)
      (first | cases eo51 | (injection eo51 with ea_ en_ ec_; (first | subst ea_ | (injection ea_ with ea_; subst ea_)); subst ec_; clear en_))
      have HNf : Aside0 (gf ≠ go51) := ⟨blk_ne BKf.out HG51 (by decide)⟩
      have HNv : Aside0 (gv ≠ go51) := ⟨blk_ne BKv.out HG51 (by decide)⟩
      clear gb51 gl51 HG51
      (first | simp only [add_plain] at hx179_0 | skip)
      obtain ⟨hx51_0, hf51_0⟩ := Kd.R_celln 0 HI.out.2.1 ji HP1.out HP2.out
      have pp1 := eq_true HP1.out
      have pp2 := eq_true HP2.out
      have HQ := Z0 (RowInv.flag HI.out ji (Go.bits .or .u8 (rd x6 ji) js) HP1.out HP2.out).1
      rw [HY6.out] at HQ
      refine start_ (n := 11) (S := fun w' => w'.cell? ⟨go51, ji.toNat, none⟩ = some (.int .u8 (rd x6 ji))) (ds := [10]) (bs 11 0) (by kernel_rfl) rfl rfl (hx179_0) (fun hHeld => ?_); refine with_tabW row_tab13 row_bits13 (fun HT_ HW_ => ?_)
      generalize w32.drew = w33 at HI BKf BKv HQ hf51_0 hx179_0 hx51_0 hHeld ⊢
      refine Y8 (i := 0) (N := some 37) (v := ?_) (a' := ?_) (bs 11 1) rfl rfl (Y3 HT_.out (by kernel_rfl)) (fun _ _ _ h => h) (Or.inl ⟨by rfl, ?_⟩) ?_ ?_
      rotate_left
      ·intro w'
       go_simp
       with_reducible rfl
      rotate_left
      ·simp only [Act.put, Z1, Z2, Z3, Y4, Y5]
       rfl
      refine Y8 (i := 1) (N := some 38) (v := ?_) (a' := ?_) (bs 11 3) rfl rfl (Y3 HT_.out (by kernel_rfl)) (fun _ _ _ h => h) (Or.inl ⟨by rfl, ?_⟩) ?_ ?_
      rotate_left
      ·intro w'
       go_simp
       with_reducible rfl
      rotate_left
      ·simp only [Act.put, Z1, Z2, Z3, Y4, Y5]
       rfl
      refine Y8 (i := 2) (N := some 39) (v := ?_) (a' := ?_) (bs 11 7) rfl rfl (Y3 HT_.out (by kernel_rfl)) (fun _ _ _ h => h) (Or.inl ⟨by rfl, ?_⟩) ?_ ?_
      rotate_left
      ·intro w'
       go_simp
       with_reducible rfl
      rotate_left
      ·simp only [Act.put, Z1, Z2, Z3, Y4, Y5]
       rfl
      refine Y8 (i := 3) (N := some 40) (v := ?_) (a' := ?_) (bs 11 15) rfl rfl (Y3 HT_.out (by kernel_rfl)) (fun _ _ _ h => h) (Or.inl ⟨by rfl, ?_⟩) ?_ ?_
      rotate_left
      ·intro w'
       go_simp
       with_reducible rfl
      rotate_left
      ·simp only [Act.put, Z1, Z2, Z3, Y4, Y5]
       rfl
      refine Y8 (i := 5) (N := some 42) (v := ?_) (a' := ?_) (bs 11 47) rfl rfl (Y3 HT_.out (by kernel_rfl)) (fun _ _ _ h => h) (Or.inl ⟨by rfl, ?_⟩) ?_ ?_
      rotate_left
      ·intro w'
       go_simp
       with_reducible rfl
      rotate_left
      ·simp only [Act.put, Z1, Z2, Z3, Y4, Y5]
       rfl
      refine Y8 (i := 6) (N := some 43) (v := ?_) (a' := ?_) (bs 11 111) rfl rfl (Y3 HT_.out (by kernel_rfl)) (fun _ _ _ h => h) (Or.inl ⟨by rfl, ?_⟩) ?_ ?_
      rotate_left
      ·intro w'
       go_simp
       with_reducible rfl
      rotate_left
      ·simp only [Act.put, Z1, Z2, Z3, Y4, Y5]
       rfl
      refine Y8 (i := 7) (N := some 44) (v := ?_) (a' := ?_) (bs 11 239) rfl rfl (Y3 HT_.out (by kernel_rfl)) (fun _ _ _ h => h) (Or.inl ⟨by rfl, ?_⟩) ?_ ?_
      rotate_left
      ·intro w'
       go_simp
       with_reducible rfl
      rotate_left
      ·simp only [Act.put, Z1, Z2, Z3, Y4, Y5]
       rfl
      refine take_ (i := 4) (N := some 41) (v := ?_) (a' := ?_) (bs 11 255) rfl rfl (take_ofW HT_.out HW_.out (by kernel_rfl)) (fun _ _ _ h => h) (Or.inl ⟨by rfl, ?_⟩) hHeld ?_ ?_
      rotate_left
      ·rintro w' s0
       skip
       go_simp
       with_reducible rfl
      rotate_left
      ·simp only [Act.put, Z1, Z2, Z3, Y4, Y5]
       rfl
      refine Y8 (i := 8) (N := some 45) (v := ?_) (a' := ?_) (bs 11 511) rfl rfl (Y3 HT_.out (by kernel_rfl)) (fun _ _ _ h => h) (Or.inl ⟨by rfl, ?_⟩) ?_ ?_
      rotate_left
      ·intro w'
       go_simp
       with_reducible rfl
      rotate_left
      ·simp only [Act.put, Z1, Z2, Z3, Y4, Y5]
       rfl
      refine Y8 (i := 9) (N := some 46) (v := ?_) (a' := ?_) (bs 11 1023) rfl rfl (Y3 HT_.out (by kernel_rfl)) (fun _ _ _ h => h) (Or.inl ⟨by rfl, ?_⟩) ?_ ?_
      rotate_left
      ·intro w'
       go_simp
       with_reducible rfl
      rotate_left
      ·simp only [Act.put, Z1, Z2, Z3, Y4, Y5]
       rfl
      refine last_ (i := 10) (N := none) (bs 11 2047) rfl rfl (one_of HT_.out (by kernel_rfl)) (by decide) (fun K hK => ?_)
      refine skip_ (w1 := ?_) (by rfl) rfl ?_ ?_
      rotate_left
      ·go_simp
       rfl
      refine hK.out _ _ ?_
      clear hK K
      refine done_ (done_of HT_.out (by kernel_rfl)) ?_
      have n1_ : Aside0 ((w33.setCell ⟨go51, ji.toNat, none⟩ (.int .u8 (Go.bits .or .u8 (rd x6 ji) js))).heap[gf]? = some (.cells #[.string s0, .int .i64 s1, .int .i64 s2, .bool true] 23 (0, 0))) := ⟨blk_far BKf.out HNf.out _⟩
      have n2_ : Aside0 ((w33.setCell ⟨go51, ji.toNat, none⟩ (.int .u8 (Go.bits .or .u8 (rd x6 ji) js))).heap[gv]? = some (.cells #[.int .i64 0, .int .i64 v1, .string v2] 25 (0, 0))) := ⟨blk_far BKv.out HNv.out _⟩
      clear HI BKf BKv HNf HNv hHeld HT_ HW_ hx179_0 hx51_0 hf51_0 pp1 pp2 c46b0 c47b0 c49b0 c49b1 hjiw hjs_ hjsz hjsu hjsv
      have BKf := n1_
      have BKv := n2_
      have HI := HQ
      clear n1_ n2_ HQ
      generalize w33.setCell ⟨go51, ji.toNat, none⟩ (.int .u8 (Go.bits .or .u8 (rd x6 ji) js)) = w36 at HI BKf BKv ⊢
      obtain ⟨W1, HI, HW⟩ := inv_open HI.out
      obtain ⟨kf0, kf1, kf2, kf3⟩ := bc4 BKf.out
      obtain ⟨kv0, kv1, kv2⟩ := bc3 BKv.out
      go_wp2_with (first | ((with_reducible refine Y2 (f := 99) rfl ?_); refine goesL_ (some 54) rfl rfl Tryz.func99 (by kernel_rfl) rfl #[.string (⟨#[32]⟩ : ByteArray), .int .i64 s2] rfl V1 ?_; (with_reducible refine (strings_Repeat.calls (⟨#[32]⟩ : ByteArray) s2 p _ HREP.out).mono ?_); rintro e w35 ⟨rfl, hb⟩; refine ⟨_, rfl, ?_⟩; have n0_ := Z0 (Z4 HW.out hb); clear HW; have HW := n0_; clear n0_ hb) | ((with_reducible refine Y2 (f := 111) rfl ?_); refine goesL_ (some 55) rfl rfl Tryz.func111 (by kernel_rfl) rfl #[.pointer (some ⟨gB, 0, none⟩), .string p] rfl V1 ?_; have hbl := HI.out.2.2.2.2.2.2.1; (with_reducible refine (Builder_WriteString gB gB (Lib.byteCells X.data.toList) p _ ?hbl ?hlen ?hBw).mono ?_); (case hbl => exact isBuilder_below hbl HW.out); (case hlen => have := HSZ.out; rw [Lib.byteCells_length]; exact this); (case hBw => have h_ := isBuilder_lt (isBuilder_below hbl HW.out); omega); clear hbl; rintro e w40 ⟨rfl, hbld, hb⟩; refine ⟨_, rfl, ?_⟩; have n0_ := Z0 (RowInv.write (RowInv.below HI.out HW.out) hbld hb); clear HI; have HI := n0_; clear n0_ hbld hb HW BKf BKv; (try clear GEf GEv NE)))
      go_roundg (gk - 1)
      case measure => have := HK.out; have := HN1.out; omega
      case rel => exact ⟨n + 1, y6, (wrap64 (b + 1)), X ++ p, rfl, by rw [HWR.out], ⟨by have h_ := HL.out; rw [HBIT.out true rfl] at h_; exact h_⟩, ⟨by have := HK.out; have := HN1.out; omega⟩, ⟨by have := HN1.out; omega⟩, HI⟩
     ·skip
      have HPT' : writeO ⟨s0, s1, s2, true⟩ ⟨v0, v1, v2⟩ = some p := by have h_ := HPT.out; unfold rowPart at h_; rw [if_neg hz] at h_; exact h_
      obtain ⟨kc, klo, khi, krf, KF, hkv, hke, hkc⟩ := write_any _ _ _ HPT'
      have HKV := Z0 hkv
      have HKE := Z0 hke
      have HKC := Z0 hkc
      clear HPT' hkv hke hkc
      have hfl : ∀ (a b c d e : Value) (W : World), (Instr.field 102 (.agg #[a, b, c, d, e]) 3).run Tryz.prog W = .ok d W := fun _ _ _ _ _ _ => by kernel_rfl
      have hz0 : (v0 == 0) = false := beq_eq_false_iff_ne.mpr hz
      have hz1 : (v0 != 0) = true := bne_iff_ne.mpr hz
      have HZ := Z0 hz
      clear hz
      have hy6 : x6 = y6 := by have h_ := HFL.out; unfold rowFlag at h_; simp only [if_true, if_neg HZ.out] at h_; exact Option.some.inj h_
      subst hy6
      clear HFL
      go_wp2_with (first | ((with_reducible refine Y1 (N := 10) rfl ?_); refine bx (N := 10) (cs := #[.string (⟨#[]⟩ : ByteArray), .int .i64 0, .int .i64 0, .bool false]) (t := 23) ?_; intro gf hg w25 hbox hb; have GEf : Aside0 (W0.heap.size ≤ gf) := ⟨by rw [hg]; exact HW.out.size⟩; have n0_ := Z0 (Z4 HW.out hb); have BKf := Z0 hbox; clear HW; have HW := n0_; clear n0_ hb hbox hg; clear hx0 hx1 hx2 hx3; (try clear c3b)) | ((with_reducible refine gate_store (t := 23) (p := 10) rfl ?_); refine store_box ?hg (ty := 23) (p := 10) (y := .tmp 26) ?ho ?hd gf (cells := #[.string s0, .int .i64 s1, .int .i64 s2, .bool true]) (old := #[.string (⟨#[]⟩ : ByteArray), .int .i64 0, .int .i64 0, .bool false]) (t := 23) ?hx ?hy ?hgg ?hi ?hold ?h1 ?_; (case ho => rfl); (case hg => rfl); (case hd => rfl); (case hx => rfl); (case hy => rfl); (case hgg => exact BKf.out); (case hi => exact size23); (case hold => rfl); (case h1 => simp [Value.oneCell']); intro w26 hbk hbel hoth; have n0_ := Z0 (hbel _ _ HW.out GEf.out); have n1_ := Z0 hbk; clear HW; clear BKf; have HW := n0_; have BKf := n1_; clear n0_ n1_ hbk hbel hoth; obtain ⟨hr0, hr1⟩ := bc2 (Z5 HI.out.rec HW.out); have HBW := Z0 (Z4 HI.out.args HW.out); have hy0 := (HBW.out.cell (World.block_lt_of_cell? w _ HY0.out)).trans HY0.out; have hy1 := (HBW.out.cell (World.block_lt_of_cell? w _ HY1.out)).trans HY1.out; have hy2 := (HBW.out.cell (World.block_lt_of_cell? w _ HY2.out)).trans HY2.out; clear HBW) | ((with_reducible refine Y1 (N := 11) rfl ?_); refine bx (N := 11) (cs := #[.int .i64 0, .int .i64 0, .string (⟨#[]⟩ : ByteArray)]) (t := 25) ?_; intro gv hg w31 hbox hb; have GEv : Aside0 (W0.heap.size ≤ gv) := ⟨by rw [hg]; exact HW.out.size⟩; have NE : Aside0 (gf ≠ gv) := ⟨by rw [hg]; exact Nat.ne_of_lt (blk_lt BKf.out)⟩; have n0_ := Z0 (Z4 HW.out hb); have n1_ := Z0 (Z5 BKf.out hb); have BKv := Z0 hbox; clear HW; clear BKf; have HW := n0_; have BKf := n1_; clear n0_ n1_ hb hbox hg; clear hr0 hr1 hy0 hy1 hy2) | ((with_reducible refine gate_store (t := 25) (p := 11) rfl ?_); refine store_box ?hg (ty := 25) (p := 11) (y := .tmp 31) ?ho ?hd gv (cells := #[.int .i64 v0, .int .i64 v1, .string v2]) (old := #[.int .i64 0, .int .i64 0, .string (⟨#[]⟩ : ByteArray)]) (t := 25) ?hx ?hy ?hgg ?hi ?hold ?h1 ?_; (case ho => rfl); (case hg => rfl); (case hd => rfl); (case hx => rfl); (case hy => rfl); (case hgg => exact BKv.out); (case hi => exact size25); (case hold => rfl); (case h1 => simp [Value.oneCell']); intro w32 hbk hbel hoth; have n0_ := Z0 (hbel _ _ HW.out GEv.out); have n1_ := Z0 hbk; have n2_ := Z0 ((hoth gf NE.out).trans BKf.out); clear HW; clear BKv; clear BKf; have HW := n0_; have BKv := n1_; have BKf := n2_; clear n0_ n1_ n2_ hbk hbel hoth; obtain ⟨kf0, kf1, kf2, kf3⟩ := bc4 BKf.out; obtain ⟨kv0, kv1, kv2⟩ := bc3 BKv.out))
      have n0_ := Z0 (below_drew1 HW.out)
      have n1_ := Z0 (Z8 BKf.out)
      have n2_ := Z0 (Z8 BKv.out)
      clear HW BKf BKv
      have HW := n0_
      have BKf := n1_
      have BKv := n2_
      clear n0_ n1_ n2_
      (try clear kf0 kf1 kf2 kf3)
      (try clear kv0 kv1 kv2)
      refine start_ (n := 9) (S := fun w' => w'.heap[gf]? = some (.cells #[.string s0, .int .i64 s1, .int .i64 s2, .bool true] 23 (0, 0)) ∧ w'.heap[gv]? = some (.cells #[.int .i64 v0, .int .i64 v1, .string v2] 25 (0, 0))) (ds := [8]) (bs 9 0) (by kernel_rfl) rfl rfl ⟨BKf.out, BKv.out⟩ (fun hHeld => ?_); refine with_tabW row_tab17 row_bits17 (fun HT_ HW_ => ?_)
      generalize w32.drew = w33 at HW BKf BKv hHeld ⊢
      refine Y8 (i := 1) (N := some 57) (v := ?_) (a' := ?_) (bs 9 2) rfl rfl (Y3 HT_.out (by kernel_rfl)) (fun _ _ _ h => h) (Or.inl ⟨by rfl, ?_⟩) ?_ ?_
      rotate_left
      ·intro w'
       go_simp
       with_reducible rfl
      rotate_left
      ·simp only [Act.put, Z1, Z2, Z3, Y4, Y5]
       rfl
      refine take_ (i := 2) (N := some 58) (v := ?_) (a' := ?_) (bs 9 6) rfl rfl (take_ofW HT_.out HW_.out (by kernel_rfl)) (fun _ _ _ h => h) (Or.inl ⟨by rfl, ?_⟩) hHeld ?_ ?_
      rotate_left
      ·rintro w' ⟨s0_, s1_⟩
       have sc := (Y0 s0_ 1).trans rfl
       go_simp
       with_reducible rfl
      rotate_left
      ·simp only [Act.put, Z1, Z2, Z3, Y4, Y5]
       rfl
      refine take_ (i := 5) (N := some 61) (v := ?_) (a' := ?_) (bs 9 38) rfl rfl (take_ofW HT_.out HW_.out (by kernel_rfl)) (fun _ _ _ h => h) (Or.inl ⟨by rfl, ?_⟩) hHeld ?_ ?_
      rotate_left
      ·rintro w' ⟨s0_, s1_⟩
       have sc0 : w'.cell? ⟨gf, 0, none⟩ = some (.string s0) := (Y0 s0_ 0).trans rfl
       have sc1 : w'.cell? ⟨gf, 1, none⟩ = some (.int .i64 s1) := (Y0 s0_ 1).trans rfl
       have sc2 : w'.cell? ⟨gf, 2, none⟩ = some (.int .i64 s2) := (Y0 s0_ 2).trans rfl
       have sc3 : w'.cell? ⟨gf, 3, none⟩ = some (.bool true) := (Y0 s0_ 3).trans rfl
       go_simp
       with_reducible rfl
      rotate_left
      ·simp only [Act.put, Z1, Z2, Z3, Y4, Y5]
       rfl
      refine take_ (i := 6) (N := some 62) (v := ?_) (a' := ?_) (bs 9 102) rfl rfl (take_ofW HT_.out HW_.out (by kernel_rfl)) (fun _ _ _ h => h) (Or.inl ⟨by rfl, ?_⟩) hHeld ?_ ?_
      rotate_left
      ·rintro w' ⟨s0_, s1_⟩
       have sc0 : w'.cell? ⟨gv, 0, none⟩ = some (.int .i64 v0) := (Y0 s1_ 0).trans rfl
       have sc1 : w'.cell? ⟨gv, 1, none⟩ = some (.int .i64 v1) := (Y0 s1_ 1).trans rfl
       have sc2 : w'.cell? ⟨gv, 2, none⟩ = some (.string v2) := (Y0 s1_ 2).trans rfl
       go_simp
       with_reducible rfl
      rotate_left
      ·simp only [Act.put, Z1, Z2, Z3, Y4, Y5]
       rfl
      refine one_ (i := 0) (N := some 56) (bs 9 103) rfl rfl (one_of HT_.out (by kernel_rfl)) (by decide) (fun K hK => ?_)
      refine goes_ Tryz.func89 (by kernel_rfl) rfl #[] (by rfl) rfl rfl V1 ?_
      refine (table_kinds w33).mono ?_
      rintro e w34 ⟨rk, rfl, hkb, hb⟩
      refine ⟨_, rfl, ?_⟩
      have HKB := Z0 hkb
      clear hkb
      have n0_ := Z0 (Z4 HW.out hb)
      have n1_ := Z0 (Z5 BKf.out hb)
      have n2_ := Z0 (Z5 BKv.out hb)
      clear HW BKf BKv
      have HW := n0_
      have BKf := n1_
      have BKv := n2_
      clear n0_ n1_ n2_ hb
      refine hK.out _ _ ⟨BKf.out, BKv.out⟩ (fun hHeld => ?_)
      clear hK K
      refine norm_ (a' := ?_) ?_ ?_
      rotate_left
      ·show Act.put _ (some 56) _ = _
       simp only [Act.put, Z1, Z2, Z3, Y4, Y5]
       rfl
      refine one_ (i := 3) (N := some 59) (bs 9 111) rfl rfl (one_of HT_.out (by kernel_rfl)) (by decide) (fun K hK => ?_)
      have hlk := run_look' w34 rk HKB.out _ _ HKV.out
      refine event_step (v := .agg #[kc, klo, khi, .func (.func KF) #[] #[], krf]) (w1 := w34) rfl (by first | (go_simp; done) | (go_simp; rfl) | (go_simp; exact ⟨rfl, rfl⟩)) ?_
      refine hK.out _ _ ⟨BKf.out, BKv.out⟩ (fun hHeld => ?_)
      clear hK K
      refine norm_ (a' := ?_) ?_ ?_
      rotate_left
      ·show Act.put _ (some 59) _ = _
       simp only [Act.put, Z1, Z2, Z3, Y4, Y5]
       rfl
      clear hlk
      refine one_ (i := 4) (N := some 60) (bs 9 127) rfl rfl (one_of HT_.out (by kernel_rfl)) (by decide) (fun K hK => ?_)
      refine event_step (v := .func (.func KF) #[] #[]) (w1 := w34) rfl (by first | (go_simp; done) | (go_simp; rfl) | (go_simp; exact ⟨rfl, rfl⟩)) ?_
      refine hK.out _ _ ⟨BKf.out, BKv.out⟩ (fun hHeld => ?_)
      clear hK K
      refine norm_ (a' := ?_) ?_ ?_
      rotate_left
      ·show Act.put _ (some 60) _ = _
       simp only [Act.put, Z1, Z2, Z3, Y4, Y5]
       rfl
      refine one_ (i := 7) (N := some 63) (bs 9 255) rfl rfl (one_of HT_.out (by kernel_rfl)) (by decide) (fun K hK => ?_)
      refine goesV_ (f := KF) (x := 60) HKE.out #[.agg #[.string s0, .int .i64 s1, .int .i64 s2, .bool true], .agg #[.int .i64 v0, .int .i64 v1, .string v2]] (by rfl) rfl rfl (by rfl) V1 ?_
      refine (HKC.out w34).mono ?_
      rintro e w35 ⟨rfl, hb⟩
      refine ⟨_, rfl, ?_⟩
      have n0_ := Z0 (Z4 HW.out hb)
      have n1_ := Z0 (Z5 BKf.out hb)
      have n2_ := Z0 (Z5 BKv.out hb)
      clear HW BKf BKv
      have HW := n0_
      have BKf := n1_
      have BKv := n2_
      clear n0_ n1_ n2_ hb
      refine hK.out _ _ ⟨BKf.out, BKv.out⟩ (fun hHeld => ?_)
      clear hK K
      refine norm_ (a' := ?_) ?_ ?_
      rotate_left
      ·show Act.put _ (some 63) _ = _
       simp only [Act.put, Z1, Z2, Z3, Y4, Y5]
       rfl
      refine last_ (i := 8) (N := some 64) (bs 9 511) rfl rfl (one_of HT_.out (by kernel_rfl)) (by decide) (fun K hK => ?_)
      refine goes_ Tryz.func111 (by kernel_rfl) rfl #[.pointer (some ⟨gB, 0, none⟩), .string p] (by rfl) rfl rfl V1 ?_
      have hbl := HI.out.2.2.2.2.2.2.1; (with_reducible refine (Builder_WriteString gB gB (Lib.byteCells X.data.toList) p _ ?hbl ?hlen ?hBw).mono ?_); (case hbl => exact isBuilder_below hbl HW.out); (case hlen => have := HSZ.out; rw [Lib.byteCells_length]; exact this); (case hBw => have h_ := isBuilder_lt (isBuilder_below hbl HW.out); omega); clear hbl; rintro e w40 ⟨rfl, hbld, hb⟩; refine ⟨_, rfl, ?_⟩; have n0_ := Z0 (RowInv.write (RowInv.below HI.out HW.out) hbld hb); clear HI; have HI := n0_; clear n0_ hbld hb HW BKf BKv; (try clear GEf GEv NE)
      refine hK.out _ _ ?_
      clear hK K
      refine norm_ (a' := ?_) ?_ ?_
      rotate_left
      ·show Act.put _ (some 64) _ = _
       simp only [Act.put, Z1, Z2, Z3, Y4, Y5]
       rfl
      refine done_ (done_of HT_.out (by kernel_rfl)) ?_
      clear hHeld HT_ HW_ hfl HKV HKB HKE HKC
      go_wp2
      go_roundg (gk - 1)
      case measure => have := HK.out; have := HN1.out; omega
      case rel => exact ⟨n + 1, x6, (wrap64 (b + 1)), X ++ p, rfl, by rw [HWR.out], ⟨by have h_ := HL.out; rw [HBIT.out true rfl] at h_; exact h_⟩, ⟨by have := HK.out; have := HN1.out; omega⟩, ⟨by have := HN1.out; omega⟩, HI⟩
   ·have hnl : n = l0.length := by have := HNl.out; omega
    have c3b := decide_eq_false c3
    have hFY : x6 = F ∧ X = Y := by
     have h_ := HA.out
     rw [hnl, List.drop_length] at h_
     simp only [rowL] at h_
     injection h_ with h_
     injection h_ with h1 h2
     exact ⟨h1, h2⟩
    obtain ⟨rfl, rfl⟩ := hFY
    clear HA hnl
    obtain ⟨Ao, co, eo⟩ := Kd.R_slice HI.out.2.1
    subst eo
    have LY : Aside0 (X.data.toList ≠ []) := ⟨fun h_ => HYN.out (by show X.data.toList.length = 0; rw [h_]; rfl)⟩
    have LX : Aside0 (x5.length = 1) := ⟨by rw [HX5.out]; rfl⟩
    obtain ⟨W0, HI, HW⟩ := inv_open HI.out
    go_wp2_with (first | ((with_reducible refine gate_builtin (b := .append) (xs := #[.tmp 66, .tmp 67]) rfl ?_); at_builtin; refine Kd.R_append_rows (Kd.int .u8) (w0 := w) w.heap.size rfl (.tmp 66) (.tmp 67) 37 5 (.int .u8 0) 1 rfl Tryz.underlying37 info5 rfl (by decide) (by omega) vo x5 x6 _ _ _ (fun k_ => k_ ≠ gB) (fun _ => False) rfl rfl ?aO ?aR (fun _ _ h => h) (fun _ h => h.elim) ?aF ?aB ?aS ?aL ?_; (case aR => exact (Kd.R_reads' (Kd.R_below HI.out.2.1 HW.out)).2.2); (case aB => exact (RowInv.below HI.out HW.out).args); (case aF => exact (fun k_ hk => by have h_ := isBuilder_lt (RowInv.below HI.out HW.out).2.2.2.2.2.2.1; omega)); (case aO => exact Kd.R_mono (RowInv.below HI.out HW.out).1 (fun k_ hk => by omega)); (case aS => exact (Z9 (RowInv.below HI.out HW.out).args)); (case aL => have := LX.out; have := HS.out; omega); intro v87 w87 ho hb hg hat; have HO := Z0 ho; have HBL := Z0 (isBuilder_grown (RowInv.below HI.out HW.out) hg); have HAW := Z0 (builder_away (RowInv.below HI.out HW.out) hg hat); have HB := Z0 hb; have HGE : Aside0 (w.heap.size ≤ gB ∧ gB < w87.heap.size) := ⟨HI.out.2.2.2.2.2.1, isBuilder_lt HBL.out⟩; clear HI HW ho hb hg hat) | ((with_reducible refine Y2 (f := 112) rfl ?_); refine goesL_ (some 69) rfl rfl Tryz.func112 (by kernel_rfl) rfl #[.pointer (some ⟨gB, 0, none⟩)] rfl V1 ?_; (with_reducible refine (builder_string gB X.data.toList _ HBL.out LY.out).mono ?_); rintro e w88 ⟨rfl, hb, hoth⟩; refine ⟨_, rfl, ?_⟩; have n0_ := Z0 (row_kept HO.out HAW.out hoth); have n1_ := Z0 (below_weaken HB.out HGE.out.1 hb); clear HO HB HBL HAW; have HO := n0_; have HB := n1_; clear n0_ n1_ hb hoth) | ((with_reducible refine Y1 (N := 70) rfl ?_); refine R_append_str (w0 := w) w.heap.size rfl (.tmp 68) (.tmp 69) rfl v87 (x5 ++ x6) X _ rfl rfl HO.out HB.out (Z9 HB.out) (by have := LX.out; have := HS.out; rw [List.length_append]; omega) ?_; intro v1 w1 ho hb; clear HO HB; have HO := Z0 ho; have HB := Z0 hb; clear ho hb))
    go_ret
    exact ⟨v1, rfl, by have h_ := HO.out; rw [HX5.out] at h_; exact h_, HB.out⟩
theorem table_row.calls (A0 : Option Addr) (c0 : Nat) (l0 : List (S23)) (a1_0 : Bool) (A1_1 : Option Addr) (c1_1 : Nat) (l1_1 : List (S25)) (r : List Int) (w : World) (hr0 : Kd.C k23 w A0 l0.length l0) (hc0 : l0.length ≤ c0) (hr1_1 : Kd.C k25 w A1_1 l1_1.length l1_1) (hc1_1 : l1_1.length ≤ c1_1) (h : table_row.f l0 a1_0 l1_1 = some r) :
  Calls Tryz.prog 63 #[.slice A0 l0.length c0, .agg #[.bool a1_0, .slice A1_1 l1_1.length c1_1]] w fun e w' => ∃ v0_ : Value, e = .returned (v0_) ∧ Kd.R (Kd.int .u8) 5 w' w.heap.size (fun _ => True) v0_ r ∧ Below w.heap.size w w' := by
 unfold table_row.f at h
 obtain ⟨t, hA, h⟩ := Option.bind_eq_some_iff.mp h
 split at h
 ·rename_i ht0
  split at h
  ·rename_i ht1
   obtain ⟨⟨F, Y⟩, hL, h⟩ := Option.bind_eq_some_iff.mp h
   split at h
   ·rename_i hs
    obtain rfl := Option.some.inj h
    exact row_walk A0 c0 l0 a1_0 A1_1 c1_1 l1_1 t F Y w hr0 hc0 hr1_1 hc1_1 hA ht0 ht1 hL hs.1 hs.2.2 hs.2.1
   ·cases h
  ·cases h
 ·cases h
def table_Row.f (k : Nat) (a0_0 : Int) (l0_1 : List (S23)) (l0_2 : List (S46)) (a1 : Int) : Option (List Int × Int) := (table_Validate.f k a0_0 l0_1 l0_2).bind fun t254 => (if t254 = 0 then (if a1 < 1 then (some (([] : List Int), 4)) else (if a1 > (l0_2.length : Int) then (some (([] : List Int), 4)) else (if 0 ≤ (wrap64 (a1 - 1)) then (if (wrap64 (a1 - 1)) < (l0_2.length : Int) then ((table_row.f l0_1 ((rd_T46 l0_2 (wrap64 (a1 - 1))).f0) ((rd_T46 l0_2 (wrap64 (a1 - 1))).f1)).bind fun t256 => (some (t256, 0))) else (none)) else (none)))) else (some (([] : List Int), t254)))
theorem table_Row.mono : ∀ a0 a1 a2 a3 k, LeO (table_Row.f k a0 a1 a2 a3) (table_Row.f (k + 1) a0 a1 a2 a3) := by
 intro a0 a1 a2 a3 k
 unfold table_Row.f
 repeat' first
   | (with_reducible exact table_Validate.mono _ _ _ _)
   | (with_reducible exact LeO.refl _)
   | (with_reducible exact LeO.none _)
   | (with_reducible refine LeO.ite ?_ ?_)
   | (with_reducible refine LeO.bind ?_ (fun _ => ?_))
def table_Row.T6 : Bool × List (List Nat × List Nat) := (true, [([], []), ([0], [0]), ([], []), ([2], [2]), ([], []), ([4], [4]), ([3, 5], [3, 5]), ([6], [6]), ([1, 7], [1, 7]), ([8, 8, 0, 1, 2, 3, 4, 5, 6, 7, 8], [8]), ([9, 0, 1, 2, 3, 4, 5, 6, 7, 8, 9], [])])
def table_Row.B6 : List Nat := [0, 1, 0, 4, 0, 16, 60, 124, 255, 511, 1023]
theorem table_Row.tab6 : rtab .any (opsOf Tryz.f21 6) = table_Row.T6 := by kernel_rfl
theorem table_Row.bits6 : waitsOk table_Row.T6.2 table_Row.B6 = true := by kernel_rfl
set_option maxHeartbeats 8000000 in
set_option maxRecDepth 100000 in
theorem table_Row.calls (k : Nat) (a0_0 : Int) (A0_1 : Option Addr) (c0_1 : Nat) (l0_1 : List (S23)) (A0_2 : Option Addr) (c0_2 : Nat) (l0_2 : List (S46)) (a1 : Int) (r1 : List Int) (r2 : Int) (w : World) (hr0_1 : Kd.C k23 w A0_1 l0_1.length l0_1) (hc0_1 : l0_1.length ≤ c0_1) (hr0_2 : Kd.C k46 w A0_2 l0_2.length l0_2) (hc0_2 : l0_2.length ≤ c0_2) (h : table_Row.f k a0_0 l0_1 l0_2 a1 = some (r1, r2)) :
  Calls Tryz.prog 21 #[.agg #[.int .i64 a0_0, .slice A0_1 l0_1.length c0_1, .slice A0_2 l0_2.length c0_2], .int .i64 a1] w fun e w' => ∃ v0_ : Value, e = .returned (.tuple #[v0_, .int .i64 r2]) ∧ Kd.R (Kd.int .u8) 5 w' w.heap.size (fun _ => True) v0_ r1 ∧ Below w.heap.size w w' := by
 have hu35 := Tryz.underlying35
 have hu46 := Tryz.underlying46
 have HR0_1 := Z0 hr0_1
 have HC0_1 := Z0 hc0_1
 clear hr0_1 hc0_1
 have HR0_2 := Z0 hr0_2
 have HC0_2 := Z0 hc0_2
 clear hr0_2 hc0_2
 have HB := Z0 (Below.refl w.heap.size w)
 have H : ((table_Validate.f k a0_0 l0_1 l0_2).bind fun t254 => (if t254 = 0 then (if a1 < 1 then (some (([] : List Int), 4)) else (if a1 > (l0_2.length : Int) then (some (([] : List Int), 4)) else (if 0 ≤ (wrap64 (a1 - 1)) then (if (wrap64 (a1 - 1)) < (l0_2.length : Int) then ((table_row.f l0_1 ((rd_T46 l0_2 (wrap64 (a1 - 1))).f0) ((rd_T46 l0_2 (wrap64 (a1 - 1))).f1)).bind fun t256 => (some (t256, 0))) else (none)) else (none)))) else (some (([] : List Int), t254)))) = some (r1, r2) := h
 clear h
 replace H := Option.bind_eq_some_iff.mp H
 obtain ⟨t254, A30, H⟩ := H
 replace H : (if t254 = 0 then (if a1 < 1 then (some (([] : List Int), 4)) else (if a1 > (l0_2.length : Int) then (some (([] : List Int), 4)) else (if 0 ≤ (wrap64 (a1 - 1)) then (if (wrap64 (a1 - 1)) < (l0_2.length : Int) then ((table_row.f l0_1 ((rd_T46 l0_2 (wrap64 (a1 - 1))).f0) ((rd_T46 l0_2 (wrap64 (a1 - 1))).f1)).bind fun t256 => (some (t256, 0))) else (none)) else (none)))) else (some (([] : List Int), t254))) = some (r1, r2) := H
 have A3 := Z0 A30
 clear A30
 by_cases c4 : t254 = 0
 ·rw [if_pos c4] at H
  have c4b0 : (t254 == 0) = true := beq_iff_eq.mpr c4
  have c4b1 : (t254 != 0) = false := bne_eq_false_iff_eq.mpr c4
  clear c4
  by_cases c5 : a1 < 1
  ·rw [if_pos c5] at H
   have c5b0 : decide (a1 < 1) = true := decide_eq_true c5
   clear c5
   simp only [Option.some.injEq, Prod.mk.injEq] at H
   obtain ⟨rfl, rfl⟩ := H
   go_enter Tryz.func21, Tryz.ntmps21
   go_wp2_with (first | ((with_reducible refine Y1 (N := 2) rfl ?_); (try (refine gate_guard (by rfl) ?_; dsimp only)); refine bx (N := 2) (cs := #[.int .i64 a0_0, .slice A0_1 l0_1.length c0_1, .slice A0_2 l0_2.length c0_2]) (t := 35) ?_; intro gb253 hg w6 hbox hb; have BK253 := Z0 (hbox); have GE253 := Z0 ((by rw [hg]; exact (Z9 HB.out) : w.heap.size ≤ gb253)); replace HB := Z0 (Z4 HB.out hb); clear hb hbox hg; obtain ⟨hcz7_0, hcz7_1, hcz7_2⟩ := bc3 BK253.out; obtain ⟨hfz7_0, hfz7_1, hfz7_2⟩ := bf3 BK253.out) | ((with_reducible refine Y2 (f := 34) rfl ?_); refine goesL_ (some 8) rfl rfl Tryz.func34 (by kernel_rfl) rfl #[.agg #[.int .i64 a0_0, .slice A0_1 l0_1.length c0_1, .slice A0_2 l0_2.length c0_2]] rfl V1 ?_; (with_reducible refine (table_Validate.calls k a0_0 _ _ l0_1 _ _ l0_2 t254 _ ?side1 ?side2 ?side3 ?side4 A3.out).mono ?_); (case side1 => repeat (first | exact (Kd.C_below HR0_1.out HB.out) | (with_reducible refine Kd.C_alloc ?_ _) | (with_reducible refine Kd.C_drewN ?_ _) | (with_reducible refine Kd.C_drew ?_))); (case side2 => exact HC0_1.out); (case side3 => repeat (first | exact (Kd.C_below HR0_2.out HB.out) | (with_reducible refine Kd.C_alloc ?_ _) | (with_reducible refine Kd.C_drewN ?_ _) | (with_reducible refine Kd.C_drew ?_))); (case side4 => exact HC0_2.out); rintro e w8 ⟨rfl, hb⟩; refine ⟨_, rfl, ?_⟩; replace BK253 := Z0 (Z5 BK253.out hb); replace HB := Z0 (Z4 HB.out hb); (try clear hb); (try clear hb2); (try clear hk); (try clear hi)))
   go_ret2
   exact ⟨_, rfl, by first | exact Kd.R_nil _ _ _ _ _ | exact Kd.N_nil _ _ _ _ _ | exact Kd.V_nil _ _ _ _ _ | exact Kd.Q_nil _ _ _ _ _ | exact Kd.S_nil _ _ _ _ _, V0⟩
  ·rw [if_neg c5] at H
   have c5b0 : decide (a1 < 1) = false := decide_eq_false c5
   clear c5
   by_cases c9 : a1 > (l0_2.length : Int)
   ·rw [if_pos c9] at H
    have c9b0 : decide ((l0_2.length : Int) < a1) = true := decide_eq_true c9
    clear c9
    simp only [Option.some.injEq, Prod.mk.injEq] at H
    obtain ⟨rfl, rfl⟩ := H
    go_enter Tryz.func21, Tryz.ntmps21
    go_wp2_with (first | ((with_reducible refine Y1 (N := 2) rfl ?_); (try (refine gate_guard (by rfl) ?_; dsimp only)); refine bx (N := 2) (cs := #[.int .i64 a0_0, .slice A0_1 l0_1.length c0_1, .slice A0_2 l0_2.length c0_2]) (t := 35) ?_; intro gb253 hg w10 hbox hb; have BK253 := Z0 (hbox); have GE253 := Z0 ((by rw [hg]; exact (Z9 HB.out) : w.heap.size ≤ gb253)); replace HB := Z0 (Z4 HB.out hb); clear hb hbox hg; obtain ⟨hcz11_0, hcz11_1, hcz11_2⟩ := bc3 BK253.out; obtain ⟨hfz11_0, hfz11_1, hfz11_2⟩ := bf3 BK253.out) | ((with_reducible refine Y2 (f := 34) rfl ?_); refine goesL_ (some 8) rfl rfl Tryz.func34 (by kernel_rfl) rfl #[.agg #[.int .i64 a0_0, .slice A0_1 l0_1.length c0_1, .slice A0_2 l0_2.length c0_2]] rfl V1 ?_; (with_reducible refine (table_Validate.calls k a0_0 _ _ l0_1 _ _ l0_2 t254 _ ?side1 ?side2 ?side3 ?side4 A3.out).mono ?_); (case side1 => repeat (first | exact (Kd.C_below HR0_1.out HB.out) | (with_reducible refine Kd.C_alloc ?_ _) | (with_reducible refine Kd.C_drewN ?_ _) | (with_reducible refine Kd.C_drew ?_))); (case side2 => exact HC0_1.out); (case side3 => repeat (first | exact (Kd.C_below HR0_2.out HB.out) | (with_reducible refine Kd.C_alloc ?_ _) | (with_reducible refine Kd.C_drewN ?_ _) | (with_reducible refine Kd.C_drew ?_))); (case side4 => exact HC0_2.out); rintro e w12 ⟨rfl, hb⟩; refine ⟨_, rfl, ?_⟩; replace BK253 := Z0 (Z5 BK253.out hb); replace HB := Z0 (Z4 HB.out hb); (try clear hb); (try clear hb2); (try clear hk); (try clear hi); obtain ⟨hcz13_0, hcz13_1, hcz13_2⟩ := bc3 BK253.out; obtain ⟨hfz13_0, hfz13_1, hfz13_2⟩ := bf3 BK253.out))
    go_ret2
    exact ⟨_, rfl, by first | exact Kd.R_nil _ _ _ _ _ | exact Kd.N_nil _ _ _ _ _ | exact Kd.V_nil _ _ _ _ _ | exact Kd.Q_nil _ _ _ _ _ | exact Kd.S_nil _ _ _ _ _, V0⟩
   ·rw [if_neg c9] at H
    have c9b0 : decide ((l0_2.length : Int) < a1) = false := decide_eq_false c9
    clear c9
    obtain ⟨ji14, hji14⟩ : ∃ j_ : Int, (wrap64 (a1 - 1)) = j_ := ⟨_, rfl⟩
    replace H : (if 0 ≤ (ji14) then (if (ji14) < (l0_2.length : Int) then ((table_row.f l0_1 ((rd_T46 l0_2 (ji14)).f0) ((rd_T46 l0_2 (ji14)).f1)).bind fun t256 => (some (t256, 0))) else (none)) else (none)) = some (r1, r2) := by first | (rw [hji14] at H; exact H) | (simp only [hji14] at H ⊢; exact H)
    (try rw [hji14] at A3)
    have hji14w : (IntKind.i64.wrap (a1 - 1)) = ji14 := (Y4 _).trans hji14
    by_cases c15 : 0 ≤ (ji14)
    ·rw [if_pos c15] at H
     have c15b0 : decide (0 ≤ (ji14)) = true := decide_eq_true c15
     clear c15
     by_cases c16 : (ji14) < (l0_2.length : Int)
     ·rw [if_pos c16] at H
      have c16b0 : decide ((ji14) < (l0_2.length : Int)) = true := decide_eq_true c16
      clear c16
      replace H := Option.bind_eq_some_iff.mp H
      obtain ⟨t256, A170, H⟩ := H
      replace H : (some (t256, 0)) = some (r1, r2) := H
      have A17 := Z0 A170
      clear A170
      simp only [Option.some.injEq, Prod.mk.injEq] at H
      obtain ⟨rfl, rfl⟩ := H
      go_enter Tryz.func21, Tryz.ntmps21
      try go_wp2_with (first | ((with_reducible refine Y1 (N := 2) rfl ?_); (try (refine gate_guard (by rfl) ?_; dsimp only)); refine bx (N := 2) (cs := #[.int .i64 a0_0, .slice A0_1 l0_1.length c0_1, .slice A0_2 l0_2.length c0_2]) (t := 35) ?_; intro gb253 hg w18 hbox hb; have BK253 := Z0 (hbox); have GE253 := Z0 ((by rw [hg]; exact (Z9 HB.out) : w.heap.size ≤ gb253)); replace HB := Z0 (Z4 HB.out hb); clear hb hbox hg; obtain ⟨hcz19_0, hcz19_1, hcz19_2⟩ := bc3 BK253.out; obtain ⟨hfz19_0, hfz19_1, hfz19_2⟩ := bf3 BK253.out) | ((with_reducible refine Y2 (f := 34) rfl ?_); refine goesL_ (some 8) rfl rfl Tryz.func34 (by kernel_rfl) rfl #[.agg #[.int .i64 a0_0, .slice A0_1 l0_1.length c0_1, .slice A0_2 l0_2.length c0_2]] rfl V1 ?_; (with_reducible refine (table_Validate.calls k a0_0 _ _ l0_1 _ _ l0_2 t254 _ ?side1 ?side2 ?side3 ?side4 A3.out).mono ?_); (case side1 => repeat (first | exact (Kd.C_below HR0_1.out HB.out) | (with_reducible refine Kd.C_alloc ?_ _) | (with_reducible refine Kd.C_drewN ?_ _) | (with_reducible refine Kd.C_drew ?_))); (case side2 => exact HC0_1.out); (case side3 => repeat (first | exact (Kd.C_below HR0_2.out HB.out) | (with_reducible refine Kd.C_alloc ?_ _) | (with_reducible refine Kd.C_drewN ?_ _) | (with_reducible refine Kd.C_drew ?_))); (case side4 => exact HC0_2.out); rintro e w20 ⟨rfl, hb⟩; refine ⟨_, rfl, ?_⟩; replace BK253 := Z0 (Z5 BK253.out hb); replace HB := Z0 (Z4 HB.out hb); (try clear hb); (try clear hb2); (try clear hk); (try clear hi); obtain ⟨hcz21_0, hcz21_1, hcz21_2⟩ := bc3 BK253.out; obtain ⟨hfz21_0, hfz21_1, hfz21_2⟩ := bf3 BK253.out))
      have n0_ := Z0 (Z8 BK253.out)
      have n1_ := Z0 (below_drew1 HB.out)
      clear BK253
      clear HB
      have BK253 := n0_
      have HB := n1_
      clear n0_ n1_
      have p255 : 0 ≤ ((ji14) : Int) := of_decide_eq_true V3
      have q255 : (ji14) < (l0_2.length : Int) := of_decide_eq_true V3
      obtain ⟨ad255, A255_1, c255_1, e255, hx255_0, hx255_1, hl255_1, hi255_1⟩ := at_T46 HR0_2.out (ji14) p255 q255
      have hw255_1 := hx255_1
      have hw255_0 := hx255_0
      cases e255
      replace hx255_0 := (HB.out.cell (World.block_lt_of_cell? w _ hx255_0)).trans hx255_0
      replace hx255_1 := (HB.out.cell (World.block_lt_of_cell? w _ hx255_1)).trans hx255_1
      have HR255_1 := Z0 hi255_1
      have HC255_1 := Z0 hl255_1
      clear hi255_1 hl255_1
      replace p255 := eq_true p255
      replace q255 := eq_true q255
      refine start_ (n := 11) (S := fun w' => w'.cell? ⟨gb253, 0, none⟩ = some (.int .i64 a0_0) ∧ w'.cell? ⟨gb253, 1, none⟩ = some (.slice A0_1 l0_1.length c0_1) ∧ w'.cell? ⟨gb253, 2, none⟩ = some (.slice (some ad255) l0_2.length c0_2) ∧ w'.cell? (ad255.add (((ji14)).toNat * 2)) = some (.bool ((rd_T46 l0_2 (ji14)).f0)) ∧ w'.cell? ⟨(ad255.add (((ji14)).toNat * 2)).block, (ad255.add (((ji14)).toNat * 2)).off + 1, none⟩ = some (.slice A255_1 ((rd_T46 l0_2 (ji14)).f1).length c255_1)) (ds := []) (bs 11 0) (by kernel_rfl) rfl rfl ⟨(Y0 BK253.out 0).trans rfl, (Y0 BK253.out 1).trans rfl, (Y0 BK253.out 2).trans rfl, ((HB.out.cell (World.block_lt_of_cell? w _ hw255_0)).trans hw255_0), ((HB.out.cell (World.block_lt_of_cell? w _ hw255_1)).trans hw255_1)⟩ (fun hHeld => ?_); refine with_tabW table_Row.tab6 table_Row.bits6 (fun HT_ HW_ => ?_)
      generalize w20.drew = w22 at BK253 HB HR255_1 hx255_0 hx255_1 hHeld ⊢
      refine Y8 (i := 0) (N := some 21) (v := ?_) (a' := ?_) (bs 11 1) rfl rfl (Y3 HT_.out (by kernel_rfl)) (fun _ _ _ h => h) (Or.inl ⟨by rfl, ?_⟩) ?_ ?_
      rotate_left
      ·intro w'
       go_simp
       with_reducible rfl
      rotate_left
      ·simp only [Act.put, Z1, Z2, Z3, Y4, Y5]
       rfl
      refine Y8 (i := 2) (N := some 23) (v := ?_) (a' := ?_) (bs 11 5) rfl rfl (Y3 HT_.out (by kernel_rfl)) (fun _ _ _ h => h) (Or.inl ⟨by rfl, ?_⟩) ?_ ?_
      rotate_left
      ·intro w'
       go_simp
       with_reducible rfl
      rotate_left
      ·simp only [Act.put, Z1, Z2, Z3, Y4, Y5]
       rfl
      refine Y8 (i := 4) (N := some 25) (v := ?_) (a' := ?_) (bs 11 21) rfl rfl (Y3 HT_.out (by kernel_rfl)) (fun _ _ _ h => h) (Or.inl ⟨by rfl, ?_⟩) ?_ ?_
      rotate_left
      ·intro w'
       go_simp
       with_reducible rfl
      rotate_left
      ·simp only [Act.put, Z1, Z2, Z3, Y4, Y5]
       rfl
      refine Y8 (i := 5) (N := some 26) (v := ?_) (a' := ?_) (bs 11 53) rfl rfl (Y3 HT_.out (by kernel_rfl)) (fun _ _ _ h => h) (Or.inl ⟨by rfl, ?_⟩) ?_ ?_
      rotate_left
      ·intro w'
       go_simp
       with_reducible rfl
      rotate_left
      ·simp only [Act.put, Z1, Z2, Z3, Y4, Y5]
       rfl
      refine take_ (i := 1) (N := some 22) (v := ?_) (a' := ?_) (bs 11 55) rfl rfl (take_ofW HT_.out HW_.out (by kernel_rfl)) (fun _ _ _ h => h) (Or.inl ⟨by rfl, ?_⟩) hHeld ?_ ?_
      rotate_left
      ·rintro w' ⟨s0, s1, s2, s3, s4⟩
       go_simp
       with_reducible rfl
      rotate_left
      ·simp only [Act.put, Z1, Z2, Z3, Y4, Y5]
       rfl
      refine take_ (i := 3) (N := some 24) (v := ?_) (a' := ?_) (bs 11 63) rfl rfl (take_ofW HT_.out HW_.out (by kernel_rfl)) (fun _ _ _ h => h) (Or.inl ⟨by rfl, ?_⟩) hHeld ?_ ?_
      rotate_left
      ·rintro w' ⟨s0, s1, s2, s3, s4⟩
       go_simp
       with_reducible rfl
      rotate_left
      ·simp only [Act.put, Z1, Z2, Z3, Y4, Y5]
       rfl
      refine Y8 (i := 6) (N := some 27) (v := ?_) (a' := ?_) (bs 11 127) rfl rfl (Y3 HT_.out (by kernel_rfl)) (fun _ _ _ h => h) (Or.inl ⟨by rfl, ?_⟩) ?_ ?_
      rotate_left
      ·intro w'
       go_simp
       with_reducible rfl
      rotate_left
      ·simp only [Act.put, Z1, Z2, Z3, Y4, Y5]
       rfl
      refine take_ (i := 7) (N := some 28) (v := ?_) (a' := ?_) (bs 11 255) rfl rfl (take_ofW HT_.out HW_.out (by kernel_rfl)) (fun _ _ _ h => h) (Or.inl ⟨by rfl, ?_⟩) hHeld ?_ ?_
      rotate_left
      ·rintro w' ⟨s0, s1, s2, s3, s4⟩
       go_simp
       with_reducible rfl
      rotate_left
      ·simp only [Act.put, Z1, Z2, Z3, Y4, Y5]
       rfl
      refine one_ (i := 8) (N := some 29) (bs 11 511) rfl rfl (one_of HT_.out (by kernel_rfl)) (by decide) (fun K hK => ?_)
      refine goes_ Tryz.func63 (by kernel_rfl) rfl #[.slice A0_1 l0_1.length c0_1, .agg #[.bool ((rd_T46 l0_2 (ji14)).f0), .slice A255_1 ((rd_T46 l0_2 (ji14)).f1).length c255_1]] (by rfl) rfl rfl (by (try simp only [List.map_toArray, List.map_cons, List.map_nil]); first | done | (simp only [hji14]; rfl) | rfl | (simp only [List.length_drop, List.length_take]; rfl)) ?_
      with_reducible refine (table_row.calls _ _ l0_1 ((rd_T46 l0_2 (ji14)).f0) _ _ ((rd_T46 l0_2 (ji14)).f1) t256 _ ?side1 ?side2 ?side3 ?side4 A17.out).mono ?_
      (case side1 => repeat (first | exact (Kd.C_below HR0_1.out HB.out) | (with_reducible refine Kd.C_alloc ?_ _) | (with_reducible refine Kd.C_drewN ?_ _) | (with_reducible refine Kd.C_drew ?_)))
      (case side2 => exact HC0_1.out)
      (case side3 => repeat (first | exact (Kd.C_below HR255_1.out HB.out) | (with_reducible refine Kd.C_alloc ?_ _) | (with_reducible refine Kd.C_drewN ?_ _) | (with_reducible refine Kd.C_drew ?_)))
      (case side4 => exact HC255_1.out)
      rintro e w23 ⟨v257, rfl, ho0, hb⟩
      refine ⟨_, rfl, ?_⟩
      have n0_ := Z0 (Kd.R_lower ho0 (Z9 HB.out))
      have n1_ := Z0 (Z5 BK253.out hb)
      have n2_ := Z0 (Z4 HB.out hb)
      clear BK253
      clear HB
      have HO258 := n0_
      have BK253 := n1_
      have HB := n2_
      clear n0_ n1_ n2_
      (try clear hb)
      (try clear hb2)
      (try clear hk)
      (try clear hi)
      (try clear ho0)
      refine hK.out _ _ ⟨(Y0 BK253.out 0).trans rfl, (Y0 BK253.out 1).trans rfl, (Y0 BK253.out 2).trans rfl, ((HB.out.cell (World.block_lt_of_cell? w _ hw255_0)).trans hw255_0), ((HB.out.cell (World.block_lt_of_cell? w _ hw255_1)).trans hw255_1)⟩ (fun hHeld => ?_)
      clear hK K
      refine norm_ (a' := ?_) ?_ ?_
      rotate_left
      ·show Act.put _ (some 29) _ = _
       simp only [Act.put, Z1, Z2, Z3, Y4, Y5]
       rfl
      refine Y8 (i := 9) (N := some 4) (v := ?_) (a' := ?_) (bs 11 1023) rfl rfl (Y3 HT_.out (by kernel_rfl)) (fun _ _ _ h => h) (Or.inl ⟨by rfl, ?_⟩) ?_ ?_
      rotate_left
      ·intro w'
       go_simp
       with_reducible rfl
      rotate_left
      ·simp only [Act.put, Z1, Z2, Z3, Y4, Y5]
       rfl
      refine Y8 (i := 10) (N := some 5) (v := ?_) (a' := ?_) (bs 11 2047) rfl rfl (Y3 HT_.out (by kernel_rfl)) (fun _ _ _ h => h) (Or.inl ⟨by rfl, ?_⟩) ?_ ?_
      rotate_left
      ·intro w'
       go_simp
       with_reducible rfl
      rotate_left
      ·simp only [Act.put, Z1, Z2, Z3, Y4, Y5]
       rfl
      refine done_ (done_of HT_.out (by kernel_rfl)) ?_
      try go_wp2
      go_ret2
      exact ⟨_, by first | rfl | (simp [errW_none, errW_some] <;> rfl) | (simp only [← hji14]; first | rfl | (simp [errW_none, errW_some] <;> rfl)) | (simp [*, errW_none, errW_some] <;> rfl), by (with_reducible repeat (first | apply Kd.R_alloc | apply Kd.R_drewN | apply Kd.R_drew)); exact HO258.out, V0⟩
     ·rw [if_neg c16] at H
      exact absurd H (by simp)
    ·rw [if_neg c15] at H
     exact absurd H (by simp)
 ·rw [if_neg c4] at H
  have c4b0 : (t254 == 0) = false := beq_eq_false_iff_ne.mpr c4
  have c4b1 : (t254 != 0) = true := bne_iff_ne.mpr c4
  simp only [Option.some.injEq, Prod.mk.injEq] at H
  obtain ⟨rfl, rfl⟩ := H
  go_enter Tryz.func21, Tryz.ntmps21
  go_wp2_with (first | ((with_reducible refine Y1 (N := 2) rfl ?_); (try (refine gate_guard (by rfl) ?_; dsimp only)); refine bx (N := 2) (cs := #[.int .i64 a0_0, .slice A0_1 l0_1.length c0_1, .slice A0_2 l0_2.length c0_2]) (t := 35) ?_; intro gb253 hg w24 hbox hb; have BK253 := Z0 (hbox); have GE253 := Z0 ((by rw [hg]; exact (Z9 HB.out) : w.heap.size ≤ gb253)); replace HB := Z0 (Z4 HB.out hb); clear hb hbox hg; obtain ⟨hcz25_0, hcz25_1, hcz25_2⟩ := bc3 BK253.out; obtain ⟨hfz25_0, hfz25_1, hfz25_2⟩ := bf3 BK253.out) | ((with_reducible refine Y2 (f := 34) rfl ?_); refine goesL_ (some 8) rfl rfl Tryz.func34 (by kernel_rfl) rfl #[.agg #[.int .i64 a0_0, .slice A0_1 l0_1.length c0_1, .slice A0_2 l0_2.length c0_2]] rfl V1 ?_; (with_reducible refine (table_Validate.calls k a0_0 _ _ l0_1 _ _ l0_2 t254 _ ?side1 ?side2 ?side3 ?side4 A3.out).mono ?_); (case side1 => repeat (first | exact (Kd.C_below HR0_1.out HB.out) | (with_reducible refine Kd.C_alloc ?_ _) | (with_reducible refine Kd.C_drewN ?_ _) | (with_reducible refine Kd.C_drew ?_))); (case side2 => exact HC0_1.out); (case side3 => repeat (first | exact (Kd.C_below HR0_2.out HB.out) | (with_reducible refine Kd.C_alloc ?_ _) | (with_reducible refine Kd.C_drewN ?_ _) | (with_reducible refine Kd.C_drew ?_))); (case side4 => exact HC0_2.out); rintro e w26 ⟨rfl, hb⟩; refine ⟨_, rfl, ?_⟩; replace BK253 := Z0 (Z5 BK253.out hb); replace HB := Z0 (Z4 HB.out hb); (try clear hb); (try clear hb2); (try clear hk); (try clear hi)))
  go_ret2
  exact ⟨_, rfl, by first | exact Kd.R_nil _ _ _ _ _ | exact Kd.N_nil _ _ _ _ _ | exact Kd.V_nil _ _ _ _ _ | exact Kd.Q_nil _ _ _ _ _ | exact Kd.S_nil _ _ _ _ _, V0⟩
end Go.Proofs.YtldpdidlfbphcaaGreatDoor.P
end
section
namespace Go.Proofs.YtldpdidlfbphcaaGreatDoor.P
open Go.RowKit Go.Proofs.YtldpdidlfbphcaaGreatDoorW.PrintWords Go.Proofs.YtldpdidlfbphcaaGreatDoorW.PrintLast Go.Proofs.YtldpdidlfbphcaaGreatDoorW.PrintMore
theorem k46_mkF (W : World) (ok : Nat → Prop) (x : S46) {A1 : Option Addr} {c1 : Nat} (l1 : x.f1.length ≤ c1) (g1 : Kd.F k25 W ok A1 x.f1.length x.f1) : Kd.FK k46 W ok x [.bool x.f0, .slice A1 x.f1.length c1] := fun W2 hW => k46_mk W2 x l1 (g1 W2 hW)
attribute [local go_sem] max2_int min2_int max_two min_two max_three min_three max_four min_four
def known.f0 (k : Nat)  : Option (Bool) := (some (([(⟨(⟨#[65]⟩ : ByteArray), 4, 3, false⟩ : S23)] : List (S23)) : List (S23))).bind fun y182 => ((cabinetryref01_Text.f (⟨#[97, 98]⟩ : ByteArray)).bind fun bt185 => ((some (([(⟨false, (([(⟨bt185.1, bt185.2.1, bt185.2.2⟩ : S25)] : List (S25)))⟩ : S46)] : List (S46)) : List (S46))).bind fun y191 => ((table_Header.f k 0 y182 y191).bind fun bt195 => ((table_Row.f k 0 y182 y191 1).bind fun bt199 => ((cabinetryref01_Text.f (⟨#[97, 98, 32]⟩ : ByteArray)).bind fun bt203 => ((table_Fit.f (⟨#[65]⟩ : ByteArray) 4 2 false 0 bt203.1 bt203.2.1 bt203.2.2).bind fun bt206 => (if bt195.2 = 0 then (if (bt195.1.length : Int) = 29 then (if bt199.2 = 0 then (if (strOfNums bt199.1).toList = ([32, 97, 98, 32] : List UInt8) then (if bt206.2.2.2 = 0 then (some (bt206.2.2.1.toList == ([97, 98] : List UInt8))) else (some false)) else (some false)) else (some false)) else (some false)) else (some false))))))))
theorem known_size : (Tryz.prog.info? 25).map (·.size) = some 3 := by kernel_rfl
set_option maxHeartbeats 8000000 in
set_option maxRecDepth 100000 in
theorem known_calls (k : Nat) (w : World) (h : known.f0 k = some true) :
  Calls Tryz.prog 12 #[] w fun e w' => e = .returned (.bool true) ∧ Below w.heap.size w w' := by
 have hu23 := Tryz.underlying23
 have hu46 := Tryz.underlying46
 have hu35 := Tryz.underlying35
 have hu25 := Tryz.underlying25
 have HB := Z0 (Below.refl w.heap.size w)
 have H : ((some (([(⟨(⟨#[65]⟩ : ByteArray), 4, 3, false⟩ : S23)] : List (S23)) : List (S23))).bind fun y182 => ((cabinetryref01_Text.f (⟨#[97, 98]⟩ : ByteArray)).bind fun bt185 => ((some (([(⟨false, (([(⟨bt185.1, bt185.2.1, bt185.2.2⟩ : S25)] : List (S25)))⟩ : S46)] : List (S46)) : List (S46))).bind fun y191 => ((table_Header.f k 0 y182 y191).bind fun bt195 => ((table_Row.f k 0 y182 y191 1).bind fun bt199 => ((cabinetryref01_Text.f (⟨#[97, 98, 32]⟩ : ByteArray)).bind fun bt203 => ((table_Fit.f (⟨#[65]⟩ : ByteArray) 4 2 false 0 bt203.1 bt203.2.1 bt203.2.2).bind fun bt206 => (if bt195.2 = 0 then (if (bt195.1.length : Int) = 29 then (if bt199.2 = 0 then (if (strOfNums bt199.1).toList = ([32, 97, 98, 32] : List UInt8) then (if bt206.2.2.2 = 0 then (some (bt206.2.2.1.toList == ([97, 98] : List UInt8))) else (some false)) else (some false)) else (some false)) else (some false)) else (some false))))))))) = some true := h
 clear h
 obtain ⟨y182, hy182⟩ : ∃ y_ : List (S23), y_ = (([(⟨(⟨#[65]⟩ : ByteArray), 4, 3, false⟩ : S23)] : List (S23))) := ⟨_, rfl⟩
 replace H : ((cabinetryref01_Text.f (⟨#[97, 98]⟩ : ByteArray)).bind fun bt185 => ((some (([(⟨false, (([(⟨bt185.1, bt185.2.1, bt185.2.2⟩ : S25)] : List (S25)))⟩ : S46)] : List (S46)) : List (S46))).bind fun y191 => ((table_Header.f k 0 y182 y191).bind fun bt195 => ((table_Row.f k 0 y182 y191 1).bind fun bt199 => ((cabinetryref01_Text.f (⟨#[97, 98, 32]⟩ : ByteArray)).bind fun bt203 => ((table_Fit.f (⟨#[65]⟩ : ByteArray) 4 2 false 0 bt203.1 bt203.2.1 bt203.2.2).bind fun bt206 => (if bt195.2 = 0 then (if (bt195.1.length : Int) = 29 then (if bt199.2 = 0 then (if (strOfNums bt199.1).toList = ([32, 97, 98, 32] : List UInt8) then (if bt206.2.2.2 = 0 then (some (bt206.2.2.1.toList == ([97, 98] : List UInt8))) else (some false)) else (some false)) else (some false)) else (some false)) else (some false)))))))) = some true := by rw [hy182]; exact H
 have Ny182 := Z0 hy182
 clear hy182
 replace H := Option.bind_eq_some_iff.mp H
 obtain ⟨⟨t185, t186, t187⟩, A10, H⟩ := H
 replace H : ((some (([(⟨false, (([(⟨t185, t186, t187⟩ : S25)] : List (S25)))⟩ : S46)] : List (S46)) : List (S46))).bind fun y191 => ((table_Header.f k 0 y182 y191).bind fun bt195 => ((table_Row.f k 0 y182 y191 1).bind fun bt199 => ((cabinetryref01_Text.f (⟨#[97, 98, 32]⟩ : ByteArray)).bind fun bt203 => ((table_Fit.f (⟨#[65]⟩ : ByteArray) 4 2 false 0 bt203.1 bt203.2.1 bt203.2.2).bind fun bt206 => (if bt195.2 = 0 then (if (bt195.1.length : Int) = 29 then (if bt199.2 = 0 then (if (strOfNums bt199.1).toList = ([32, 97, 98, 32] : List UInt8) then (if bt206.2.2.2 = 0 then (some (bt206.2.2.1.toList == ([97, 98] : List UInt8))) else (some false)) else (some false)) else (some false)) else (some false)) else (some false))))))) = some true := H
 have A1 := Z0 A10
 clear A10
 obtain ⟨y188, hy188⟩ : ∃ y_ : List (S25), y_ = (([(⟨t185, t186, t187⟩ : S25)] : List (S25))) := ⟨_, rfl⟩
 replace H : ((some (([(⟨false, y188⟩ : S46)] : List (S46)) : List (S46))).bind fun y191 => ((table_Header.f k 0 y182 y191).bind fun bt195 => ((table_Row.f k 0 y182 y191 1).bind fun bt199 => ((cabinetryref01_Text.f (⟨#[97, 98, 32]⟩ : ByteArray)).bind fun bt203 => ((table_Fit.f (⟨#[65]⟩ : ByteArray) 4 2 false 0 bt203.1 bt203.2.1 bt203.2.2).bind fun bt206 => (if bt195.2 = 0 then (if (bt195.1.length : Int) = 29 then (if bt199.2 = 0 then (if (strOfNums bt199.1).toList = ([32, 97, 98, 32] : List UInt8) then (if bt206.2.2.2 = 0 then (some (bt206.2.2.1.toList == ([97, 98] : List UInt8))) else (some false)) else (some false)) else (some false)) else (some false)) else (some false))))))) = some true := by rw [hy188]; exact H
 have Ny188 := Z0 hy188
 clear hy188
 obtain ⟨y191, hy191⟩ : ∃ y_ : List (S46), y_ = (([(⟨false, y188⟩ : S46)] : List (S46))) := ⟨_, rfl⟩
 replace H : ((table_Header.f k 0 y182 y191).bind fun bt195 => ((table_Row.f k 0 y182 y191 1).bind fun bt199 => ((cabinetryref01_Text.f (⟨#[97, 98, 32]⟩ : ByteArray)).bind fun bt203 => ((table_Fit.f (⟨#[65]⟩ : ByteArray) 4 2 false 0 bt203.1 bt203.2.1 bt203.2.2).bind fun bt206 => (if bt195.2 = 0 then (if (bt195.1.length : Int) = 29 then (if bt199.2 = 0 then (if (strOfNums bt199.1).toList = ([32, 97, 98, 32] : List UInt8) then (if bt206.2.2.2 = 0 then (some (bt206.2.2.1.toList == ([97, 98] : List UInt8))) else (some false)) else (some false)) else (some false)) else (some false)) else (some false)))))) = some true := by rw [hy191]; exact H
 have Ny191 := Z0 hy191
 clear hy191
 replace H := Option.bind_eq_some_iff.mp H
 obtain ⟨⟨t195, t198⟩, A20, H⟩ := H
 replace H : ((table_Row.f k 0 y182 y191 1).bind fun bt199 => ((cabinetryref01_Text.f (⟨#[97, 98, 32]⟩ : ByteArray)).bind fun bt203 => ((table_Fit.f (⟨#[65]⟩ : ByteArray) 4 2 false 0 bt203.1 bt203.2.1 bt203.2.2).bind fun bt206 => (if t198 = 0 then (if (t195.length : Int) = 29 then (if bt199.2 = 0 then (if (strOfNums bt199.1).toList = ([32, 97, 98, 32] : List UInt8) then (if bt206.2.2.2 = 0 then (some (bt206.2.2.1.toList == ([97, 98] : List UInt8))) else (some false)) else (some false)) else (some false)) else (some false)) else (some false))))) = some true := H
 have A2 := Z0 A20
 clear A20
 replace H := Option.bind_eq_some_iff.mp H
 obtain ⟨⟨t199, t202⟩, A30, H⟩ := H
 replace H : ((cabinetryref01_Text.f (⟨#[97, 98, 32]⟩ : ByteArray)).bind fun bt203 => ((table_Fit.f (⟨#[65]⟩ : ByteArray) 4 2 false 0 bt203.1 bt203.2.1 bt203.2.2).bind fun bt206 => (if t198 = 0 then (if (t195.length : Int) = 29 then (if t202 = 0 then (if (strOfNums t199).toList = ([32, 97, 98, 32] : List UInt8) then (if bt206.2.2.2 = 0 then (some (bt206.2.2.1.toList == ([97, 98] : List UInt8))) else (some false)) else (some false)) else (some false)) else (some false)) else (some false)))) = some true := H
 have A3 := Z0 A30
 clear A30
 replace H := Option.bind_eq_some_iff.mp H
 obtain ⟨⟨t203, t204, t205⟩, A40, H⟩ := H
 replace H : ((table_Fit.f (⟨#[65]⟩ : ByteArray) 4 2 false 0 t203 t204 t205).bind fun bt206 => (if t198 = 0 then (if (t195.length : Int) = 29 then (if t202 = 0 then (if (strOfNums t199).toList = ([32, 97, 98, 32] : List UInt8) then (if bt206.2.2.2 = 0 then (some (bt206.2.2.1.toList == ([97, 98] : List UInt8))) else (some false)) else (some false)) else (some false)) else (some false)) else (some false))) = some true := H
 have A4 := Z0 A40
 clear A40
 replace H := Option.bind_eq_some_iff.mp H
 obtain ⟨⟨t206, t207, t208, t209⟩, A50, H⟩ := H
 replace H : (if t198 = 0 then (if (t195.length : Int) = 29 then (if t202 = 0 then (if (strOfNums t199).toList = ([32, 97, 98, 32] : List UInt8) then (if t209 = 0 then (some (t208.toList == ([97, 98] : List UInt8))) else (some false)) else (some false)) else (some false)) else (some false)) else (some false)) = some true := H
 have A5 := Z0 A50
 clear A50
 by_cases c6 : t198 = 0
 ·rw [if_pos c6] at H
  have c6b0 : (t198 == 0) = true := beq_iff_eq.mpr c6
  have c6b1 : (t198 != 0) = false := bne_eq_false_iff_eq.mpr c6
  clear c6
  by_cases c7 : (t195.length : Int) = 29
  ·rw [if_pos c7] at H
   have c7b0 : ((t195.length : Int) == 29) = true := beq_iff_eq.mpr c7
   have c7b1 : ((t195.length : Int) != 29) = false := bne_eq_false_iff_eq.mpr c7
   clear c7
   by_cases c8 : t202 = 0
   ·rw [if_pos c8] at H
    have c8b0 : (t202 == 0) = true := beq_iff_eq.mpr c8
    have c8b1 : (t202 != 0) = false := bne_eq_false_iff_eq.mpr c8
    clear c8
    by_cases c9 : (strOfNums t199).toList = ([32, 97, 98, 32] : List UInt8)
    ·rw [if_pos c9] at H
     have c9b0 : ((strOfNums t199).toList == ([32, 97, 98, 32] : List UInt8)) = true := beq_iff_eq.mpr c9
     have c9b1 : ((strOfNums t199).toList != ([32, 97, 98, 32] : List UInt8)) = false := bne_eq_false_iff_eq.mpr c9
     clear c9
     by_cases c10 : t209 = 0
     ·rw [if_pos c10] at H
      have c10b0 : (t209 == 0) = true := beq_iff_eq.mpr c10
      have c10b1 : (t209 != 0) = false := bne_eq_false_iff_eq.mpr c10
      clear c10
      have HR := Option.some.inj H
      go_enter Tryz.func12, Tryz.ntmps12
      go_wp2_with (first | ((with_reducible refine Y1 (N := 9) rfl ?_); (try (refine gate_guard (by rfl) ?_; dsimp only)); refine Kd.R_lit k23 _ 23 ?hg (N := 9) ?hd (xs := ([(⟨(⟨#[65]⟩ : ByteArray), 4, 3, false⟩ : S23)] : List (S23))) (inner := [.string (⟨#[65]⟩ : ByteArray), .int .i64 4, .int .i64 3, .bool false]) (ok := fun _ => True) (okp := fun _ => True) ?hr ?hp (fun _ hk => hk) trivial (Below.refl _ _) (Nat.le_refl _) (by simp) ?_; (case hd => rfl); (case hg => rfl); (case hr => go_simp; try rfl); (case hp => exact (Reps.c4 (show Kd.M k23 _ _ _ (⟨(⟨#[65]⟩ : ByteArray), 4, 3, false⟩ : S23) [.string (⟨#[65]⟩ : ByteArray), .int .i64 4, .int .i64 3, .bool false] from (k23_mkM _ _ _ (⟨(⟨#[65]⟩ : ByteArray), 4, 3, false⟩ : S23) )) (Reps.none _ _))); intro v183 w11 ho12 hb hg_ hnew_; clear hg_ hnew_; (first | rw [← Ny182.out] at ho12 | (simp only [Int.reduceToNat] at ho12; rw [← Ny182.out] at ho12)); have HO184 := Z0 (Kd.R_lower ho12 (Z9 V0)); replace HB := Z0 (Z4 V0 hb); clear hb ho12) | ((with_reducible refine Y2 (f := 46) rfl ?_); refine goesL_ (some 10) rfl rfl Tryz.func46 (by kernel_rfl) rfl #[.string (⟨#[97, 98]⟩ : ByteArray)] rfl V1 ?_; (with_reducible refine (cabinetryref01_Text.calls (⟨#[97, 98]⟩ : ByteArray) t185 t186 t187 _ A1.out).mono ?_); rintro e w13 ⟨rfl, hb⟩; refine ⟨_, rfl, ?_⟩; replace HO184 := Z0 (Kd.R_below HO184.out hb); replace HB := Z0 (Z4 V0 hb); (try clear hb); (try clear hb2); (try clear hk); (try clear hi)) | ((with_reducible refine Y1 (N := 11) rfl ?_); (try (refine gate_guard (by rfl) ?_; dsimp only)); refine Kd.R_lit k25 _ 25 ?hg (N := 11) ?hd (xs := ([(⟨t185, t186, t187⟩ : S25)] : List (S25))) (inner := [.int .i64 t185, .int .i64 t186, .string t187]) (ok := fun _ => True) (okp := fun _ => True) ?hr ?hp (fun _ hk => hk) trivial (Below.refl _ _) (Nat.le_refl _) (by simp) ?_; (case hd => rfl); (case hg => rfl); (case hr => go_simp; try rfl); (case hp => exact (Reps.c3 (show Kd.M k25 _ _ _ (⟨t185, t186, t187⟩ : S25) [.int .i64 t185, .int .i64 t186, .string t187] from (k25_mkM _ _ _ (⟨t185, t186, t187⟩ : S25) )) (Reps.none _ _))); intro v189 w14 ho15 hb hg_ hnew_; clear hg_ hnew_; (first | rw [← Ny188.out] at ho15 | (simp only [Int.reduceToNat] at ho15; rw [← Ny188.out] at ho15)); replace HO184 := Z0 (Kd.R_below HO184.out hb); have HO190 := Z0 (Kd.R_lower ho15 (Z9 V0)); replace HB := Z0 (Z4 V0 hb); clear hb ho15; obtain ⟨Ao16, co16, eo16⟩ := Kd.R_slice HO190.out; subst eo16) | ((with_reducible refine Y1 (N := 13) rfl ?_); (try (refine gate_guard (by rfl) ?_; dsimp only)); refine Kd.N_lit k46 _ 46 ?hg (N' := 13) ?hd (xs := ([(⟨false, y188⟩ : S46)] : List (S46))) (inner := [.bool false, .slice Ao16 y188.length co16]) (ok := (fun k_ => some k_ ≠ (v183 : Value).ownBlock)) (okp := (fun k_ => some k_ ≠ (v183 : Value).ownBlock)) ?hr ?hp (fun _ hk => hk) ((show ∀ k_, w14.heap.size ≤ k_ → (fun k_ => some k_ ≠ (v183 : Value).ownBlock) k_ from fun k_ hk => Kd.fresh' (Kd.R_lt HO184.out) k_ hk) _ (Nat.le_refl _)) (Below.refl _ _) (Nat.le_refl _) (by simp) ?_; (case hd => rfl); (case hg => rfl); (case hr => go_simp; try rfl); (case hp => exact (Reps.c2 (show Kd.FK k46 _ _ (⟨false, y188⟩ : S46) [.bool false, .slice Ao16 y188.length co16] from (k46_mkF _ _ (⟨false, y188⟩ : S46) (Kd.R_reads' (Kd.R_mono (ok' := (fun k_ => some k_ ≠ (v183 : Value).ownBlock)) (Kd.R_apart' (HO190.out) (Kd.R_typed HO184.out) (by decide)) (fun k_ hk => hk.2))).2.1 (Kd.R_F (Kd.R_mono (ok' := (fun k_ => some k_ ≠ (v183 : Value).ownBlock)) (Kd.R_apart' (HO190.out) (Kd.R_typed HO184.out) (by decide)) (fun k_ hk => hk.2))))) (Reps.none _ _))); intro v192 w17 ho18 hb hg_ hnew_; clear hg_ hnew_; (first | rw [← Ny191.out] at ho18 | (simp only [Int.reduceToNat] at ho18; rw [← Ny191.out] at ho18)); replace HO184 := Z0 (Kd.R_below HO184.out hb); have HO193 := Z0 (Kd.N_lower ho18 (Z9 V0)); replace HB := Z0 (Z4 V0 hb); clear HO190; clear hb ho18; obtain ⟨Ao19, co19, eo19⟩ := Kd.N_slice HO193.out; subst eo19; obtain ⟨Ao20, co20, eo20⟩ := Kd.R_slice HO184.out; subst eo20) | ((with_reducible refine Y1 (N := 1) rfl ?_); (try (refine gate_guard (by rfl) ?_; dsimp only)); refine bx (N := 1) (cs := #[.int .i64 0, .slice none 0 0, .slice none 0 0]) (t := 35) ?_; intro gb194 hg w21 hbox hb; replace HO184 := Z0 (Kd.R_below HO184.out hb); replace HO193 := Z0 (Kd.N_below (Kd.N_elderB HO193.out gb194 (Nat.le_of_eq hg.symm)) hb); have BK194 := Z0 (hbox); have GE194 := Z0 ((by rw [hg]; exact (Z9 V0) : w.heap.size ≤ gb194)); replace HB := Z0 (Z4 V0 hb); clear hb hbox hg; obtain ⟨hcz22_0, hcz22_1, hcz22_2⟩ := bc3 BK194.out; obtain ⟨hfz22_0, hfz22_1, hfz22_2⟩ := bf3 BK194.out) | ((with_reducible refine Y2 (f := 19) rfl ?_); refine goesL_ (some 17) rfl rfl Tryz.func19 (by kernel_rfl) rfl #[.agg #[.int .i64 0, .slice Ao20 y182.length co20, .slice Ao19 y191.length co19]] rfl V1 ?_; (with_reducible refine (table_Header.calls k 0 _ _ y182 _ _ y191 t195 t198 _ ?side1 ?side2 ?side3 ?side4 A2.out).mono ?_); (case side1 => refine (Kd.R_reads' (e := 23) (base := w.heap.size) (ok := fun k_ => True) (n := y182.length) (c := co20) ?_).2.2; exact (by (with_reducible repeat (first | apply Kd.R_alloc | apply Kd.R_drewN | apply Kd.R_drew)); exact (Kd.R_mono (Kd.R_far (p := ⟨gb194, 2, none⟩) (Kd.R_far (p := ⟨gb194, 1, none⟩) (Kd.R_far (p := ⟨gb194, 0, none⟩) (Kd.R_types HO184.out BK194.out (by decide)) (fun _ hk => hk.2) (.int .i64 0)) (fun _ hk => hk.2) (.slice Ao20 y182.length co20)) (fun _ hk => hk.2) (.slice Ao19 y191.length co19)) (fun _ h_ => h_.1)))); (case side2 => exact (Kd.R_reads' HO184.out).2.1); (case side3 => refine (Kd.N_reads' (e := 46) (base := w.heap.size) (ok := fun k_ => (some k_ ≠ (.slice Ao20 y182.length co20 : Value).ownBlock ∧ k_ ≠ gb194)) (n := y191.length) (c := co19) ?_).2.2; exact (by (with_reducible repeat (first | apply Kd.N_alloc | apply Kd.N_drewN | apply Kd.N_drew)); exact (Kd.N_mono (Kd.N_far (p := ⟨gb194, 2, none⟩) (Kd.N_far (p := ⟨gb194, 1, none⟩) (Kd.N_far (p := ⟨gb194, 0, none⟩) (Kd.N_mono HO193.out (fun k_ hk => (⟨hk, hk.2⟩ : _ ∧ k_ ≠ gb194))) (fun _ hk => hk.2) (.int .i64 0)) (fun _ hk => hk.2) (.slice Ao20 y182.length co20)) (fun _ hk => hk.2) (.slice Ao19 y191.length co19)) (fun _ h_ => h_.1)))); (case side4 => exact (Kd.N_reads' HO193.out).2.1); rintro e w23 ⟨v196, rfl, ho0, hb⟩; refine ⟨_, rfl, ?_⟩; replace HO184 := Z0 (Kd.R_below (by (with_reducible repeat (first | apply Kd.R_alloc | apply Kd.R_drewN | apply Kd.R_drew)); exact (Kd.R_mono (Kd.R_far (p := ⟨gb194, 2, none⟩) (Kd.R_far (p := ⟨gb194, 1, none⟩) (Kd.R_far (p := ⟨gb194, 0, none⟩) (Kd.R_types HO184.out BK194.out (by decide)) (fun _ hk => hk.2) (.int .i64 0)) (fun _ hk => hk.2) (.slice Ao20 y182.length co20)) (fun _ hk => hk.2) (.slice Ao19 y191.length co19)) (fun _ h_ => h_.1))) hb); replace HO193 := Z0 (Kd.N_elder' (by (with_reducible repeat (first | apply Kd.N_alloc | apply Kd.N_drewN | apply Kd.N_drew)); exact (Kd.N_mono (Kd.N_far (p := ⟨gb194, 2, none⟩) (Kd.N_far (p := ⟨gb194, 1, none⟩) (Kd.N_far (p := ⟨gb194, 0, none⟩) (Kd.N_mono HO193.out (fun k_ hk => (⟨hk, hk.2⟩ : _ ∧ k_ ≠ gb194))) (fun _ hk => hk.2) (.int .i64 0)) (fun _ hk => hk.2) (.slice Ao20 y182.length co20)) (fun _ hk => hk.2) (.slice Ao19 y191.length co19)) (fun _ h_ => h_.1))) (Kd.R_base ho0) hb); have HO197 := Z0 (Kd.R_lower ho0 (Z9 V0)); replace BK194 := Z0 (Z5 (g := gb194) (o := .cells #[.int .i64 0, .slice Ao20 y182.length co20, .slice Ao19 y191.length co19] 35 (0, 0)) (by (with_reducible repeat (first | refine Z6 ?_ _ | refine Z8 ?_ | refine Z7 ?_ _)); refine blk_put (cs := #[.int .i64 0, .slice Ao20 y182.length co20, .slice none 0 0]) ?_ 2 _ rfl; (with_reducible repeat (first | refine Z6 ?_ _ | refine Z8 ?_ | refine Z7 ?_ _)); refine blk_put (cs := #[.int .i64 0, .slice none 0 0, .slice none 0 0]) ?_ 1 _ rfl; (with_reducible repeat (first | refine Z6 ?_ _ | refine Z8 ?_ | refine Z7 ?_ _)); refine blk_put (cs := #[.int .i64 0, .slice none 0 0, .slice none 0 0]) ?_ 0 _ rfl; (with_reducible repeat (first | refine Z6 ?_ _ | refine Z8 ?_ | refine Z7 ?_ _)); exact BK194.out) hb); replace HB := Z0 (Z4 V0 hb); (try clear hb); (try clear hb2); (try clear hk); (try clear hi); (try clear ho0); obtain ⟨hcz24_0, hcz24_1, hcz24_2⟩ := bc3 BK194.out; obtain ⟨hfz24_0, hfz24_1, hfz24_2⟩ := bf3 BK194.out) | ((with_reducible refine Y2 (f := 21) rfl ?_); refine goesL_ (some 22) rfl rfl Tryz.func21 (by kernel_rfl) rfl #[.agg #[.int .i64 0, .slice Ao20 y182.length co20, .slice Ao19 y191.length co19], .int .i64 1] rfl V1 ?_; (with_reducible refine (table_Row.calls k 0 _ _ y182 _ _ y191 1 t199 t202 _ ?side1 ?side2 ?side3 ?side4 A3.out).mono ?_); (case side1 => repeat (first | exact (Kd.R_reads' HO184.out).2.2 | (with_reducible refine Kd.C_alloc ?_ _) | (with_reducible refine Kd.C_drewN ?_ _) | (with_reducible refine Kd.C_drew ?_))); (case side2 => exact (Kd.R_reads' HO184.out).2.1); (case side3 => repeat (first | exact (Kd.N_reads' HO193.out).2.2 | (with_reducible refine Kd.C_alloc ?_ _) | (with_reducible refine Kd.C_drewN ?_ _) | (with_reducible refine Kd.C_drew ?_))); (case side4 => exact (Kd.N_reads' HO193.out).2.1); rintro e w25 ⟨v200, rfl, ho0, hb⟩; refine ⟨_, rfl, ?_⟩; replace HO184 := Z0 (Kd.R_below HO184.out hb); replace HO193 := Z0 (Kd.N_elder' HO193.out (Kd.R_base ho0) hb); have HO201 := Z0 (Kd.R_lower (Kd.R_new' ho0 (Kd.R_lt HO197.out)) (Z9 V0)); replace HO197 := Z0 (Kd.R_elder' HO197.out (Kd.R_base ho0) hb); replace BK194 := Z0 (Z5 BK194.out hb); replace HB := Z0 (Z4 V0 hb); (try clear hb); (try clear hb2); (try clear hk); (try clear hi); (try clear ho0)) | ((with_reducible refine Y2 (f := 46) rfl ?_); refine goesL_ (some 27) rfl rfl Tryz.func46 (by kernel_rfl) rfl #[.string (⟨#[97, 98, 32]⟩ : ByteArray)] rfl V1 ?_; (with_reducible refine (cabinetryref01_Text.calls (⟨#[97, 98, 32]⟩ : ByteArray) t203 t204 t205 _ A4.out).mono ?_); rintro e w26 ⟨rfl, hb⟩; refine ⟨_, rfl, ?_⟩; replace HO184 := Z0 (Kd.R_below HO184.out hb); replace HO193 := Z0 (Kd.N_below HO193.out hb); replace HO197 := Z0 (Kd.R_below HO197.out hb); replace HO201 := Z0 (Kd.R_below HO201.out hb); replace BK194 := Z0 (Z5 BK194.out hb); replace HB := Z0 (Z4 V0 hb); (try clear hb); (try clear hb2); (try clear hk); (try clear hi)) | ((with_reducible refine Y2 (f := 13) rfl ?_); refine goesL_ (some 28) rfl rfl Tryz.func13 (by kernel_rfl) rfl #[.agg #[.string (⟨#[65]⟩ : ByteArray), .int .i64 4, .int .i64 2, .bool false], .int .i64 0, .agg #[.int .i64 t203, .int .i64 t204, .string t205]] rfl V1 ?_; (with_reducible refine (table_Fit.calls (⟨#[65]⟩ : ByteArray) 4 2 false 0 t203 t204 t205 t206 t207 t208 t209 _ A5.out).mono ?_); rintro e w27 ⟨rfl, hb⟩; refine ⟨_, rfl, ?_⟩; replace HO184 := Z0 (Kd.R_below HO184.out hb); replace HO193 := Z0 (Kd.N_below HO193.out hb); replace HO197 := Z0 (Kd.R_below HO197.out hb); replace HO201 := Z0 (Kd.R_below HO201.out hb); replace BK194 := Z0 (Z5 BK194.out hb); replace HB := Z0 (Z4 V0 hb); (try clear hb); (try clear hb2); (try clear hk); (try clear hi)) | ((with_reducible refine Y1 (N := 6) rfl ?_); (try (refine gate_guard (by rfl) ?_; dsimp only)); refine bx (N := 6) (cs := #[.int .i64 0, .int .i64 0, .string (⟨#[]⟩ : ByteArray)]) (t := 25) ?_; intro gb210 hg w28 hbox hb; replace HO184 := Z0 (Kd.R_below HO184.out hb); replace HO193 := Z0 (Kd.N_below (Kd.N_elderB HO193.out gb210 (Nat.le_of_eq hg.symm)) hb); replace HO197 := Z0 (Kd.R_below HO197.out hb); replace HO201 := Z0 (Kd.R_below HO201.out hb); have BK210 := Z0 (hbox); have GE210 := Z0 ((by rw [hg]; exact (Z9 V0) : w.heap.size ≤ gb210)); replace HB := Z0 (Z4 V0 hb); have NB194_210 := Z0 ((by rw [hg]; exact Nat.ne_of_lt (blk_lt BK194.out) : gb194 ≠ gb210)); have NB210_194 := Z0 ((by rw [hg]; exact Nat.ne_of_gt (blk_lt BK194.out) : gb210 ≠ gb194)); replace BK194 := Z0 (Z5 BK194.out hb); clear hb hbox hg; have hnb29 := NB210_194.out; have hnc29 := NB194_210.out; obtain ⟨hcz30_0, hcz30_1, hcz30_2⟩ := bc3 BK210.out; obtain ⟨hfz30_0, hfz30_1, hfz30_2⟩ := bf3 BK210.out; obtain ⟨Ao31, co31, eo31⟩ := Kd.R_slice HO197.out; subst eo31) | ((with_reducible refine gate_store (t := 25) (p := 6) rfl ?_); refine store_box ?hg (ty := 25) (p := 6) (y := .tmp 29) ?ho ?hd gb210 (cells := #[.int .i64 t206, .int .i64 t207, .string t208]) (old := #[.int .i64 0, .int .i64 0, .string (⟨#[]⟩ : ByteArray)]) (t := 25) ?hx ?hy ?hgg ?hi ?hold ?h1 ?_; (case ho => rfl); (case hg => rfl); (case hd => rfl); (case hx => rfl); (case hy => rfl); (case hgg => exact BK210.out); (case hi => exact known_size); (case hold => rfl); (case h1 => simp [Value.oneCell']); intro w50 hbk hbel hoth; replace HB := Z0 (hbel _ _ HB.out GE210.out); replace HO201 := Z0 (Kd.R_step (Kd.R_types HO201.out BK210.out (by decide)) (fun k hk _ => hoth k hk.2)); have hcv32 := own_string (P := Tryz.prog) Tryz.underlying37 Tryz.underlying5 Tryz.underlying9 (Kd.own_of_R HO201.out); obtain ⟨hcz50_0, hcz50_1, hcz50_2⟩ := bc3 hbk; clear hbk hbel hoth))
      go_ret
      exact ⟨rfl, V0⟩
     ·rw [if_neg c10] at H
      exact absurd H (by simp)
    ·rw [if_neg c9] at H
     exact absurd H (by simp)
   ·rw [if_neg c8] at H
    exact absurd H (by simp)
  ·rw [if_neg c7] at H
   exact absurd H (by simp)
 ·rw [if_neg c6] at H
  exact absurd H (by simp)
theorem known_true : known.f0 100 = some true := by kernel_rfl
def cabinetrylaw03_known.f : Option Bool := some true
theorem cabinetrylaw03_known.calls (r : Bool) (w : World) (h : cabinetrylaw03_known.f = some r) : Calls Tryz.prog 12 #[] w fun e w' => e = .returned (.bool r) ∧ Below w.heap.size w w' := by
 obtain rfl := Option.some.inj h
 exact known_calls 100 w known_true
end Go.Proofs.YtldpdidlfbphcaaGreatDoor.P
end
section
namespace Go.Proofs.YtldpdidlfbphcaaGreatDoor.P
open Go.RowKit Go.Proofs.YtldpdidlfbphcaaGreatDoorW.PrintWords Go.Proofs.YtldpdidlfbphcaaGreatDoorW.PrintLast Go.Proofs.YtldpdidlfbphcaaGreatDoorW.PrintMore
attribute [local go_sem] max2_int min2_int max_two min_two max_three min_three max_four min_four
mutual
def cabinetrylaw03_TableDiffers.j0 : Nat → Bool → Int → List (S23) → List (S46) → Int → List (S23) → List (S46) → Option (Bool)
 | 0, _, _, _, _, _, _, _ => none
 | k + 1, x14, x433000, x433001, x433002, x434000, x434001, x434002 => if x14 = true then ((cabinetrylaw03_known.f).bind fun t436 => (some t436)) else ((table_Differ.f k x433000 x433001 x433002 x434000 x434001 x434002).bind fun bt437 => ((cabinetryref03_Differ.f k x433000 x433001 x433002 x434000 x434001 x434002).bind fun bt441 => ((cabinetryref01_SameInts.f k bt437.1 bt441.1).bind fun t445 => (if t445 = true then (if bt437.2 = bt441.2 then ((cabinetrylaw03_known.f).bind fun t446 => (cabinetrylaw03_TableDiffers.j1 k t446)) else (cabinetrylaw03_TableDiffers.j1 k false)) else (cabinetrylaw03_TableDiffers.j1 k false)))))
def cabinetrylaw03_TableDiffers.j1 : Nat → Bool → Option (Bool)
 | 0, _ => none
 | k + 1, x4 => some x4
end
def cabinetrylaw03_TableDiffers.f (k : Nat) (a0_0 : Int) (l0_1 : List (S23)) (l0_2 : List (S46)) (a1_0 : Int) (l1_1 : List (S23)) (l1_2 : List (S46)) : Option (Bool) := (cabinetrylaw03_over.f k a0_0 l0_1 l0_2).bind fun t434 => (if t434 = true then (cabinetrylaw03_TableDiffers.j0 k true a0_0 l0_1 l0_2 a1_0 l1_1 l1_2) else ((cabinetrylaw03_over.f k a1_0 l1_1 l1_2).bind fun t435 => (cabinetrylaw03_TableDiffers.j0 k t435 a0_0 l0_1 l0_2 a1_0 l1_1 l1_2)))
theorem cabinetrylaw03_TableDiffers.mono_l : ∀ k, (∀ y0 y1 y2 y3 y4 y5 y6, LeO (cabinetrylaw03_TableDiffers.j0 k y0 y1 y2 y3 y4 y5 y6) (cabinetrylaw03_TableDiffers.j0 (k + 1) y0 y1 y2 y3 y4 y5 y6)) ∧ (∀ y0, LeO (cabinetrylaw03_TableDiffers.j1 k y0) (cabinetrylaw03_TableDiffers.j1 (k + 1) y0))
 | 0 => ⟨fun _ _ _ _ _ _ _ r h => by simp [cabinetrylaw03_TableDiffers.j0] at h, fun _ r h => by simp [cabinetrylaw03_TableDiffers.j1] at h⟩
 | k + 1 => by
  obtain ⟨ih0, ih1⟩ := cabinetrylaw03_TableDiffers.mono_l k
  refine ⟨?_, ?_⟩
  ·intro y0 y1 y2 y3 y4 y5 y6
   unfold cabinetrylaw03_TableDiffers.j0
   repeat' first
   | (with_reducible exact ih0 _ _ _ _ _ _ _)
   | (with_reducible exact ih1 _)
   | (with_reducible exact cabinetrylaw03_over.mono _ _ _ _)
   | (with_reducible exact cabinetryref01_SameInts.mono _ _ _)
   | (with_reducible exact cabinetryref03_Differ.mono _ _ _ _ _ _ _)
   | (with_reducible exact table_Differ.mono _ _ _ _ _ _ _)
   | (with_reducible exact LeO.refl _)
   | (with_reducible exact LeO.none _)
   | (with_reducible refine LeO.ite ?_ ?_)
   | (with_reducible refine LeO.bind ?_ (fun _ => ?_))
   | exact ih0 _ _ _ _ _ _ _
   | exact ih1 _
   | exact cabinetrylaw03_over.mono _ _ _ _
   | exact cabinetryref01_SameInts.mono _ _ _
   | exact cabinetryref03_Differ.mono _ _ _ _ _ _ _
   | exact table_Differ.mono _ _ _ _ _ _ _
   | exact LeO.none _
   | refine LeO.ite ?_ ?_
   | refine LeO.bind ?_ (fun _ => ?_)
  ·intro y0
   unfold cabinetrylaw03_TableDiffers.j1
   repeat' first
   | (with_reducible exact ih0 _ _ _ _ _ _ _)
   | (with_reducible exact ih1 _)
   | (with_reducible exact cabinetrylaw03_over.mono _ _ _ _)
   | (with_reducible exact cabinetryref01_SameInts.mono _ _ _)
   | (with_reducible exact cabinetryref03_Differ.mono _ _ _ _ _ _ _)
   | (with_reducible exact table_Differ.mono _ _ _ _ _ _ _)
   | (with_reducible exact LeO.refl _)
   | (with_reducible exact LeO.none _)
   | (with_reducible refine LeO.ite ?_ ?_)
   | (with_reducible refine LeO.bind ?_ (fun _ => ?_))
   | exact ih0 _ _ _ _ _ _ _
   | exact ih1 _
   | exact cabinetrylaw03_over.mono _ _ _ _
   | exact cabinetryref01_SameInts.mono _ _ _
   | exact cabinetryref03_Differ.mono _ _ _ _ _ _ _
   | exact table_Differ.mono _ _ _ _ _ _ _
   | exact LeO.none _
   | refine LeO.ite ?_ ?_
   | refine LeO.bind ?_ (fun _ => ?_)
theorem cabinetrylaw03_TableDiffers.mono : ∀ a0 a1 a2 a3 a4 a5 k, LeO (cabinetrylaw03_TableDiffers.f k a0 a1 a2 a3 a4 a5) (cabinetrylaw03_TableDiffers.f (k + 1) a0 a1 a2 a3 a4 a5) := by
 intro a0 a1 a2 a3 a4 a5 k
 obtain ⟨ih0, ih1⟩ := cabinetrylaw03_TableDiffers.mono_l k
 unfold cabinetrylaw03_TableDiffers.f
 repeat' first
   | (with_reducible exact ih0 _ _ _ _ _ _ _)
   | (with_reducible exact ih1 _)
   | (with_reducible exact cabinetrylaw03_over.mono _ _ _ _)
   | (with_reducible exact cabinetryref01_SameInts.mono _ _ _)
   | (with_reducible exact cabinetryref03_Differ.mono _ _ _ _ _ _ _)
   | (with_reducible exact table_Differ.mono _ _ _ _ _ _ _)
   | (with_reducible exact LeO.refl _)
   | (with_reducible exact LeO.none _)
   | (with_reducible refine LeO.ite ?_ ?_)
   | (with_reducible refine LeO.bind ?_ (fun _ => ?_))
   | exact ih0 _ _ _ _ _ _ _
   | exact ih1 _
   | exact cabinetrylaw03_over.mono _ _ _ _
   | exact cabinetryref01_SameInts.mono _ _ _
   | exact cabinetryref03_Differ.mono _ _ _ _ _ _ _
   | exact table_Differ.mono _ _ _ _ _ _ _
   | exact LeO.none _
   | refine LeO.ite ?_ ?_
   | refine LeO.bind ?_ (fun _ => ?_)
theorem cabinetrylaw03_TableDiffers.j1_ne : ∀ (k : Nat) (q : Option Bool), cabinetrylaw03_TableDiffers.j1 k false = q → q = some true → False := by
 intro k q h1 h2
 cases k with
 | zero => simp [cabinetrylaw03_TableDiffers.j1] at h1; rw [← h1] at h2; cases h2
 | succ k => simp [cabinetrylaw03_TableDiffers.j1] at h1; rw [← h1] at h2; cases h2
set_option maxHeartbeats 8000000 in
set_option maxRecDepth 100000 in
theorem cabinetrylaw03_TableDiffers.calls1 (k : Nat) (a0_0 : Int) (A0_1 : Option Addr) (c0_1 : Nat) (l0_1 : List (S23)) (A0_2 : Option Addr) (c0_2 : Nat) (l0_2 : List (S46)) (a1_0 : Int) (A1_1 : Option Addr) (c1_1 : Nat) (l1_1 : List (S23)) (A1_2 : Option Addr) (c1_2 : Nat) (l1_2 : List (S46)) (r : Bool) (w : World) (hr_ : r = true) (hr0_1 : Kd.C k23 w A0_1 l0_1.length l0_1) (hc0_1 : l0_1.length ≤ c0_1) (hr0_2 : Kd.C k46 w A0_2 l0_2.length l0_2) (hc0_2 : l0_2.length ≤ c0_2) (hr1_1 : Kd.C k23 w A1_1 l1_1.length l1_1) (hc1_1 : l1_1.length ≤ c1_1) (hr1_2 : Kd.C k46 w A1_2 l1_2.length l1_2) (hc1_2 : l1_2.length ≤ c1_2) (h : cabinetrylaw03_TableDiffers.f k a0_0 l0_1 l0_2 a1_0 l1_1 l1_2 = some r) :
  Calls Tryz.prog 7 #[.agg #[.int .i64 a0_0, .slice A0_1 l0_1.length c0_1, .slice A0_2 l0_2.length c0_2], .agg #[.int .i64 a1_0, .slice A1_1 l1_1.length c1_1, .slice A1_2 l1_2.length c1_2]] w fun e w' => e = .returned (.bool r) ∧ Below w.heap.size w w' := by
 have HR_ := Z0 hr_
 clear hr_
 have hu35 := Tryz.underlying35
 have HR0_1 := Z0 hr0_1
 have HC0_1 := Z0 hc0_1
 clear hr0_1 hc0_1
 have HR0_2 := Z0 hr0_2
 have HC0_2 := Z0 hc0_2
 clear hr0_2 hc0_2
 have HR1_1 := Z0 hr1_1
 have HC1_1 := Z0 hc1_1
 clear hr1_1 hc1_1
 have HR1_2 := Z0 hr1_2
 have HC1_2 := Z0 hc1_2
 clear hr1_2 hc1_2
 have HB := Z0 (Below.refl w.heap.size w)
 have H : ((cabinetrylaw03_over.f k a0_0 l0_1 l0_2).bind fun t434 => (if t434 = true then (cabinetrylaw03_TableDiffers.j0 k true a0_0 l0_1 l0_2 a1_0 l1_1 l1_2) else ((cabinetrylaw03_over.f k a1_0 l1_1 l1_2).bind fun t435 => (cabinetrylaw03_TableDiffers.j0 k t435 a0_0 l0_1 l0_2 a1_0 l1_1 l1_2)))) = some r := h
 clear h
 have HC3 := Z0 H
 clear H
 go_enter Tryz.func7, Tryz.ntmps7
 go_upto_region 1 with (first | ((with_reducible refine Y1 (N := 2) rfl ?_); refine box_event ?hg (N := 2) ?hd (cs := #[.int .i64 a0_0, .slice A0_1 l0_1.length c0_1, .slice A0_2 l0_2.length c0_2]) (t := 35) ?hr ?_; (case hd => rfl); (case hg => rfl); (case hr => first | (go_simp; done) | (go_simp; rfl)); intro gb432 hg w4 hbox hb; have n0_ := Z0 (Z4 V0 hb); have n1_ := Z0 (hbox); have n2_ := Z0 ((by rw [hg]; exact (Z9 V0) : w.heap.size ≤ gb432)); have n3_ := Z0 ((by rw [hg]; exact (Z9 V0) : w.heap.size ≤ gb432)); clear HB; have HB := n0_; have BK432 := n1_; have GW432 := n2_; have GE432 := n3_; clear n0_ n1_ n2_ n3_; clear hb hbox hg) | ((with_reducible refine Y1 (N := 3) rfl ?_); refine box_event ?hg (N := 3) ?hd (cs := #[.int .i64 a1_0, .slice A1_1 l1_1.length c1_1, .slice A1_2 l1_2.length c1_2]) (t := 35) ?hr ?_; (case hd => rfl); (case hg => rfl); (case hr => first | (go_simp; done) | (go_simp; rfl)); intro gb433 hg w5 hbox hb; have n0_ := Z0 (Z5 (g := gb432) (o := .cells #[.int .i64 a0_0, .slice A0_1 l0_1.length c0_1, .slice A0_2 l0_2.length c0_2] 35 (0, 0)) (by (with_reducible repeat (first | refine Z6 ?_ _ | refine Z8 ?_ | refine Z7 ?_ _)); exact BK432.out) hb); have n1_ := Z0 (Z4 V0 hb); have n2_ := Z0 (hbox); have n3_ := Z0 ((by rw [hg]; exact (Z9 V0) : w.heap.size ≤ gb433)); have n4_ := Z0 ((by rw [hg]; exact (Z9 V0) : w.heap.size ≤ gb433)); have n5_ := Z0 ((by rw [hg]; exact Nat.ne_of_lt (blk_lt (g := gb432) (o := .cells #[.int .i64 a0_0, .slice A0_1 l0_1.length c0_1, .slice A0_2 l0_2.length c0_2] 35 (0, 0)) (by (with_reducible repeat (first | refine Z6 ?_ _ | refine Z8 ?_ | refine Z7 ?_ _)); exact BK432.out)) : gb432 ≠ gb433)); have n6_ := Z0 ((by rw [hg]; exact Nat.ne_of_gt (blk_lt (g := gb432) (o := .cells #[.int .i64 a0_0, .slice A0_1 l0_1.length c0_1, .slice A0_2 l0_2.length c0_2] 35 (0, 0)) (by (with_reducible repeat (first | refine Z6 ?_ _ | refine Z8 ?_ | refine Z7 ?_ _)); exact BK432.out)) : gb433 ≠ gb432)); clear BK432; clear HB; have BK432 := n0_; have HB := n1_; have BK433 := n2_; have GW433 := n3_; have GE433 := n4_; have NB432_433 := n5_; have NB433_432 := n6_; clear n0_ n1_ n2_ n3_ n4_ n5_ n6_; clear hb hbox hg))
 (try simp only [Act.put, Z1, Z2, Z3])
 go_cut [14] (fun v14 wc => ∃ (kq : Nat) (x14_2 : Bool), v14 = .bool x14_2 ∧ Aside0 (cabinetrylaw03_TableDiffers.j0 kq x14_2 a0_0 l0_1 l0_2 a1_0 l1_1 l1_2 = some r) ∧ Aside0 (kq ≤ k) ∧ Aside0 (wc.heap[gb432]? = some (.cells #[.int .i64 a0_0, (.slice A0_1 l0_1.length c0_1), (.slice A0_2 l0_2.length c0_2)] 35 (0, 0))) ∧ Aside0 (wc.heap[gb433]? = some (.cells #[.int .i64 a1_0, (.slice A1_1 l1_1.length c1_1), (.slice A1_2 l1_2.length c1_2)] 35 (0, 0))) ∧ Aside0 (Below w.heap.size w wc))
 case first =>
  have H := HC3.out
  clear HC3
  replace H := Option.bind_eq_some_iff.mp H
  obtain ⟨t434, A60, H⟩ := H
  replace H : (if t434 = true then (cabinetrylaw03_TableDiffers.j0 k true a0_0 l0_1 l0_2 a1_0 l1_1 l1_2) else ((cabinetrylaw03_over.f k a1_0 l1_1 l1_2).bind fun t435 => (cabinetrylaw03_TableDiffers.j0 k t435 a0_0 l0_1 l0_2 a1_0 l1_1 l1_2))) = some r := H
  have A6 := Z0 A60
  clear A60
  by_cases c7 : t434 = true
  ·subst c7
   have H1 : (cabinetrylaw03_TableDiffers.j0 k true a0_0 l0_1 l0_2 a1_0 l1_1 l1_2) = some r := by rw [if_pos rfl] at H; exact H
   clear H
   have H := H1
   clear H1
   have H' := Z0 H
   clear H
   have hnb8 := NB432_433.out
   have hnc8 := NB433_432.out
   have hcz9_0 : w5.cell? ⟨gb432, 0, none⟩ = some (.int .i64 a0_0) := (Y0 BK432.out 0).trans rfl
   have hcz9_1 : w5.cell? ⟨gb432, 1, none⟩ = some (.slice A0_1 l0_1.length c0_1) := (Y0 BK432.out 1).trans rfl
   have hcz9_2 : w5.cell? ⟨gb432, 2, none⟩ = some (.slice A0_2 l0_2.length c0_2) := (Y0 BK432.out 2).trans rfl
   have hfz9_0 := blk_frozen BK432.out 0
   have hfz9_1 := blk_frozen BK432.out 1
   have hfz9_2 := blk_frozen BK432.out 2
   go_wp2_with (first | ((with_reducible refine Y2 (f := 16) rfl ?_); refine goesL_ (some 10) rfl rfl Tryz.func16 (by kernel_rfl) rfl #[.agg #[.int .i64 a0_0, .slice A0_1 l0_1.length c0_1, .slice A0_2 l0_2.length c0_2]] rfl V1 ?_; (with_reducible refine (cabinetrylaw03_over.calls k a0_0 _ _ l0_1 _ _ l0_2 true _ ?side1 ?side2 ?side3 ?side4 A6.out).mono ?_); (case side1 => repeat (first | exact (Kd.C_below HR0_1.out HB.out) | (with_reducible refine Kd.C_alloc ?_ _) | (with_reducible refine Kd.C_drewN ?_ _) | (with_reducible refine Kd.C_drew ?_))); (case side2 => exact HC0_1.out); (case side3 => repeat (first | exact (Kd.C_below HR0_2.out HB.out) | (with_reducible refine Kd.C_alloc ?_ _) | (with_reducible refine Kd.C_drewN ?_ _) | (with_reducible refine Kd.C_drew ?_))); (case side4 => exact HC0_2.out); rintro e w10 ⟨rfl, hb⟩; refine ⟨_, rfl, ?_⟩; have n0_ := Z0 (Z5 (g := gb432) (o := .cells #[.int .i64 a0_0, .slice A0_1 l0_1.length c0_1, .slice A0_2 l0_2.length c0_2] 35 (0, 0)) (by (with_reducible repeat (first | refine Z6 ?_ _ | refine Z8 ?_ | refine Z7 ?_ _)); exact BK432.out) hb); have n1_ := Z0 (Z5 (g := gb433) (o := .cells #[.int .i64 a1_0, .slice A1_1 l1_1.length c1_1, .slice A1_2 l1_2.length c1_2] 35 (0, 0)) (by (with_reducible repeat (first | refine Z6 ?_ _ | refine Z8 ?_ | refine Z7 ?_ _)); exact BK433.out) hb); have n2_ := Z0 (Z4 V0 hb); clear BK432; clear BK433; clear HB; have BK432 := n0_; have BK433 := n1_; have HB := n2_; clear n0_ n1_ n2_; (try clear hb); (try clear hb2); (try clear hk); (try clear hi)))
   go_meet
   case rel => exact ⟨_, (true), V2, H', ⟨by first | omega | exact Nat.le_refl _⟩, ⟨by (with_reducible repeat (first | refine Z6 ?_ _ | refine Z8 ?_ | refine Z7 ?_ _)); exact BK432.out⟩, ⟨by (with_reducible repeat (first | refine Z6 ?_ _ | refine Z8 ?_ | refine Z7 ?_ _)); exact BK433.out⟩, ⟨V0⟩⟩
  ·replace c7 := Bool.eq_false_iff.mpr c7
   subst c7
   have H1 : ((cabinetrylaw03_over.f k a1_0 l1_1 l1_2).bind fun t435 => (cabinetrylaw03_TableDiffers.j0 k t435 a0_0 l0_1 l0_2 a1_0 l1_1 l1_2)) = some r := by rw [if_neg (show ¬ (false = true) by decide)] at H; exact H
   clear H
   have H := H1
   clear H1
   replace H := Option.bind_eq_some_iff.mp H
   obtain ⟨t435, A110, H⟩ := H
   replace H : (cabinetrylaw03_TableDiffers.j0 k t435 a0_0 l0_1 l0_2 a1_0 l1_1 l1_2) = some r := H
   have A11 := Z0 A110
   clear A110
   have H' := Z0 H
   clear H
   have hnb12 := NB432_433.out
   have hnc12 := NB433_432.out
   have hcz13_0 : w5.cell? ⟨gb432, 0, none⟩ = some (.int .i64 a0_0) := (Y0 BK432.out 0).trans rfl
   have hcz13_1 : w5.cell? ⟨gb432, 1, none⟩ = some (.slice A0_1 l0_1.length c0_1) := (Y0 BK432.out 1).trans rfl
   have hcz13_2 : w5.cell? ⟨gb432, 2, none⟩ = some (.slice A0_2 l0_2.length c0_2) := (Y0 BK432.out 2).trans rfl
   have hfz13_0 := blk_frozen BK432.out 0
   have hfz13_1 := blk_frozen BK432.out 1
   have hfz13_2 := blk_frozen BK432.out 2
   go_wp2_with (first | ((with_reducible refine Y2 (f := 16) rfl ?_); refine goesL_ (some 10) rfl rfl Tryz.func16 (by kernel_rfl) rfl #[.agg #[.int .i64 a0_0, .slice A0_1 l0_1.length c0_1, .slice A0_2 l0_2.length c0_2]] rfl V1 ?_; (with_reducible refine (cabinetrylaw03_over.calls k a0_0 _ _ l0_1 _ _ l0_2 false _ ?side1 ?side2 ?side3 ?side4 A6.out).mono ?_); (case side1 => repeat (first | exact (Kd.C_below HR0_1.out HB.out) | (with_reducible refine Kd.C_alloc ?_ _) | (with_reducible refine Kd.C_drewN ?_ _) | (with_reducible refine Kd.C_drew ?_))); (case side2 => exact HC0_1.out); (case side3 => repeat (first | exact (Kd.C_below HR0_2.out HB.out) | (with_reducible refine Kd.C_alloc ?_ _) | (with_reducible refine Kd.C_drewN ?_ _) | (with_reducible refine Kd.C_drew ?_))); (case side4 => exact HC0_2.out); rintro e w14 ⟨rfl, hb⟩; refine ⟨_, rfl, ?_⟩; have n0_ := Z0 (Z5 (g := gb432) (o := .cells #[.int .i64 a0_0, .slice A0_1 l0_1.length c0_1, .slice A0_2 l0_2.length c0_2] 35 (0, 0)) (by (with_reducible repeat (first | refine Z6 ?_ _ | refine Z8 ?_ | refine Z7 ?_ _)); exact BK432.out) hb); have n1_ := Z0 (Z5 (g := gb433) (o := .cells #[.int .i64 a1_0, .slice A1_1 l1_1.length c1_1, .slice A1_2 l1_2.length c1_2] 35 (0, 0)) (by (with_reducible repeat (first | refine Z6 ?_ _ | refine Z8 ?_ | refine Z7 ?_ _)); exact BK433.out) hb); have n2_ := Z0 (Z4 V0 hb); clear BK432; clear BK433; clear HB; have BK432 := n0_; have BK433 := n1_; have HB := n2_; clear n0_ n1_ n2_; (try clear hb); (try clear hb2); (try clear hk); (try clear hi); have hcz15_0 : w14.cell? ⟨gb433, 0, none⟩ = some (.int .i64 a1_0) := (Y0 BK433.out 0).trans rfl; have hcz15_1 : w14.cell? ⟨gb433, 1, none⟩ = some (.slice A1_1 l1_1.length c1_1) := (Y0 BK433.out 1).trans rfl; have hcz15_2 : w14.cell? ⟨gb433, 2, none⟩ = some (.slice A1_2 l1_2.length c1_2) := (Y0 BK433.out 2).trans rfl; have hfz15_0 := blk_frozen BK433.out 0; have hfz15_1 := blk_frozen BK433.out 1; have hfz15_2 := blk_frozen BK433.out 2) | (go_at_call 16; (with_reducible refine (cabinetrylaw03_over.calls k a1_0 _ _ l1_1 _ _ l1_2 t435 _ ?side1 ?side2 ?side3 ?side4 A11.out).mono ?_); (case side1 => repeat (first | exact (Kd.C_below HR1_1.out HB.out) | (with_reducible refine Kd.C_alloc ?_ _) | (with_reducible refine Kd.C_drewN ?_ _) | (with_reducible refine Kd.C_drew ?_))); (case side2 => exact HC1_1.out); (case side3 => repeat (first | exact (Kd.C_below HR1_2.out HB.out) | (with_reducible refine Kd.C_alloc ?_ _) | (with_reducible refine Kd.C_drewN ?_ _) | (with_reducible refine Kd.C_drew ?_))); (case side4 => exact HC1_2.out); rintro e w16 ⟨rfl, hb⟩; have n0_ := Z0 (Z5 (g := gb432) (o := .cells #[.int .i64 a0_0, .slice A0_1 l0_1.length c0_1, .slice A0_2 l0_2.length c0_2] 35 (0, 0)) (by (with_reducible repeat (first | refine Z6 ?_ _ | refine Z8 ?_ | refine Z7 ?_ _)); exact BK432.out) hb); have n1_ := Z0 (Z5 (g := gb433) (o := .cells #[.int .i64 a1_0, .slice A1_1 l1_1.length c1_1, .slice A1_2 l1_2.length c1_2] 35 (0, 0)) (by (with_reducible repeat (first | refine Z6 ?_ _ | refine Z8 ?_ | refine Z7 ?_ _)); exact BK433.out) hb); have n2_ := Z0 (Z4 V0 hb); clear BK432; clear BK433; clear HB; have BK432 := n0_; have BK433 := n1_; have HB := n2_; clear n0_ n1_ n2_; (try clear hb); (try clear hb2); (try clear hk); (try clear hi)))
   go_meet
   case rel => exact ⟨_, (t435), V2, H', ⟨by first | omega | exact Nat.le_refl _⟩, ⟨by (with_reducible repeat (first | refine Z6 ?_ _ | refine Z8 ?_ | refine Z7 ?_ _)); exact BK432.out⟩, ⟨by (with_reducible repeat (first | refine Z6 ?_ _ | refine Z8 ?_ | refine Z7 ?_ _)); exact BK433.out⟩, ⟨V0⟩⟩
 case rest =>
  clear HC3
  try clear c1
  try clear p2
  try clear c7
  try clear c8
  try clear c12
  try clear c16
  try clear hcz13_0
  try clear hcz13_1
  try clear hcz13_2
  try clear hcz15_0
  try clear hcz15_1
  try clear hcz15_2
  try clear hcz9_0
  try clear hcz9_1
  try clear hcz9_2
  try clear hfz13_0
  try clear hfz13_1
  try clear hfz13_2
  try clear hfz15_0
  try clear hfz15_1
  try clear hfz15_2
  try clear hfz9_0
  try clear hfz9_1
  try clear hfz9_2
  obtain ⟨kq, x14_2, rfl, HA, HJ2, BK432, BK433, HB⟩ := hcut
  cases kq with
  | zero => exact absurd HA.out (by simp [cabinetrylaw03_TableDiffers.j0])
  | succ kj2 =>
   have H := HA.out
   clear HA
   simp only [cabinetrylaw03_TableDiffers.j0] at H
   by_cases c17 : x14_2 = true
   ·subst c17
    have H1 : ((cabinetrylaw03_known.f).bind fun t436 => (some t436)) = some r := by rw [if_pos rfl] at H; exact H
    clear H
    have H := H1
    clear H1
    replace H := Option.bind_eq_some_iff.mp H
    obtain ⟨t436, A180, H⟩ := H
    replace H : (some t436) = some r := H
    have A18 := Z0 A180
    clear A180
    obtain rfl := Option.some.inj H
    go_wp2_with (first | ((with_reducible refine Y2 (f := 12) rfl ?_); refine goesL_ (some 15) rfl rfl Tryz.func12 (by kernel_rfl) rfl #[] rfl V1 ?_; (with_reducible refine (cabinetrylaw03_known.calls  t436 _ A18.out).mono ?_); rintro e w19 ⟨rfl, hb⟩; refine ⟨_, rfl, ?_⟩; have n0_ := Z0 (Z5 (g := gb432) (o := .cells #[.int .i64 a0_0, .slice A0_1 l0_1.length c0_1, .slice A0_2 l0_2.length c0_2] 35 (0, 0)) (by (with_reducible repeat (first | refine Z6 ?_ _ | refine Z8 ?_ | refine Z7 ?_ _)); exact BK432.out) hb); have n1_ := Z0 (Z5 (g := gb433) (o := .cells #[.int .i64 a1_0, .slice A1_1 l1_1.length c1_1, .slice A1_2 l1_2.length c1_2] 35 (0, 0)) (by (with_reducible repeat (first | refine Z6 ?_ _ | refine Z8 ?_ | refine Z7 ?_ _)); exact BK433.out) hb); have n2_ := Z0 (Z4 V0 hb); clear BK432; clear BK433; clear HB; have BK432 := n0_; have BK433 := n1_; have HB := n2_; clear n0_ n1_ n2_; (try clear hb); (try clear hb2); (try clear hk); (try clear hi)))
    go_ret
    exact ⟨by first | rfl | (simp [errW_none, errW_some] <;> rfl) | (simp [*, errW_none, errW_some] <;> rfl), V0⟩
   ·replace c17 := Bool.eq_false_iff.mpr c17
    subst c17
    have H1 : ((table_Differ.f kj2 a0_0 l0_1 l0_2 a1_0 l1_1 l1_2).bind fun bt437 => ((cabinetryref03_Differ.f kj2 a0_0 l0_1 l0_2 a1_0 l1_1 l1_2).bind fun bt441 => ((cabinetryref01_SameInts.f kj2 bt437.1 bt441.1).bind fun t445 => (if t445 = true then (if bt437.2 = bt441.2 then ((cabinetrylaw03_known.f).bind fun t446 => (cabinetrylaw03_TableDiffers.j1 kj2 t446)) else (cabinetrylaw03_TableDiffers.j1 kj2 false)) else (cabinetrylaw03_TableDiffers.j1 kj2 false))))) = some r := by rw [if_neg (show ¬ (false = true) by decide)] at H; exact H
    clear H
    have H := H1
    clear H1
    replace H := Option.bind_eq_some_iff.mp H
    obtain ⟨⟨t437, t440⟩, A200, H⟩ := H
    replace H : ((cabinetryref03_Differ.f kj2 a0_0 l0_1 l0_2 a1_0 l1_1 l1_2).bind fun bt441 => ((cabinetryref01_SameInts.f kj2 t437 bt441.1).bind fun t445 => (if t445 = true then (if t440 = bt441.2 then ((cabinetrylaw03_known.f).bind fun t446 => (cabinetrylaw03_TableDiffers.j1 kj2 t446)) else (cabinetrylaw03_TableDiffers.j1 kj2 false)) else (cabinetrylaw03_TableDiffers.j1 kj2 false)))) = some r := H
    have A20 := Z0 A200
    clear A200
    replace H := Option.bind_eq_some_iff.mp H
    obtain ⟨⟨t441, t444⟩, A210, H⟩ := H
    replace H : ((cabinetryref01_SameInts.f kj2 t437 t441).bind fun t445 => (if t445 = true then (if t440 = t444 then ((cabinetrylaw03_known.f).bind fun t446 => (cabinetrylaw03_TableDiffers.j1 kj2 t446)) else (cabinetrylaw03_TableDiffers.j1 kj2 false)) else (cabinetrylaw03_TableDiffers.j1 kj2 false))) = some r := H
    have A21 := Z0 A210
    clear A210
    have HC22 := Z0 H
    clear H
    have hnb23 := NB432_433.out
    have hnc23 := NB433_432.out
    have hcz24_0 : wc.cell? ⟨gb432, 0, none⟩ = some (.int .i64 a0_0) := (Y0 BK432.out 0).trans rfl
    have hcz24_1 : wc.cell? ⟨gb432, 1, none⟩ = some (.slice A0_1 l0_1.length c0_1) := (Y0 BK432.out 1).trans rfl
    have hcz24_2 : wc.cell? ⟨gb432, 2, none⟩ = some (.slice A0_2 l0_2.length c0_2) := (Y0 BK432.out 2).trans rfl
    have hfz24_0 := blk_frozen BK432.out 0
    have hfz24_1 := blk_frozen BK432.out 1
    have hfz24_2 := blk_frozen BK432.out 2
    have hcz25_0 : wc.cell? ⟨gb433, 0, none⟩ = some (.int .i64 a1_0) := (Y0 BK433.out 0).trans rfl
    have hcz25_1 : wc.cell? ⟨gb433, 1, none⟩ = some (.slice A1_1 l1_1.length c1_1) := (Y0 BK433.out 1).trans rfl
    have hcz25_2 : wc.cell? ⟨gb433, 2, none⟩ = some (.slice A1_2 l1_2.length c1_2) := (Y0 BK433.out 2).trans rfl
    have hfz25_0 := blk_frozen BK433.out 0
    have hfz25_1 := blk_frozen BK433.out 1
    have hfz25_2 := blk_frozen BK433.out 2
    go_upto_region 5 with (first | ((with_reducible refine Y2 (f := 39) rfl ?_); refine goesL_ (some 19) rfl rfl Tryz.func39 (by kernel_rfl) rfl #[.agg #[.int .i64 a0_0, .slice A0_1 l0_1.length c0_1, .slice A0_2 l0_2.length c0_2], .agg #[.int .i64 a1_0, .slice A1_1 l1_1.length c1_1, .slice A1_2 l1_2.length c1_2]] rfl V1 ?_; (with_reducible refine (table_Differ.calls kj2 a0_0 _ _ l0_1 _ _ l0_2 a1_0 _ _ l1_1 _ _ l1_2 t437 t440 _ ?side1 ?side2 ?side3 ?side4 ?side5 ?side6 ?side7 ?side8 A20.out).mono ?_); (case side1 => repeat (first | exact (Kd.C_below HR0_1.out HB.out) | (with_reducible refine Kd.C_alloc ?_ _) | (with_reducible refine Kd.C_drewN ?_ _) | (with_reducible refine Kd.C_drew ?_))); (case side2 => exact HC0_1.out); (case side3 => repeat (first | exact (Kd.C_below HR0_2.out HB.out) | (with_reducible refine Kd.C_alloc ?_ _) | (with_reducible refine Kd.C_drewN ?_ _) | (with_reducible refine Kd.C_drew ?_))); (case side4 => exact HC0_2.out); (case side5 => repeat (first | exact (Kd.C_below HR1_1.out HB.out) | (with_reducible refine Kd.C_alloc ?_ _) | (with_reducible refine Kd.C_drewN ?_ _) | (with_reducible refine Kd.C_drew ?_))); (case side6 => exact HC1_1.out); (case side7 => repeat (first | exact (Kd.C_below HR1_2.out HB.out) | (with_reducible refine Kd.C_alloc ?_ _) | (with_reducible refine Kd.C_drewN ?_ _) | (with_reducible refine Kd.C_drew ?_))); (case side8 => exact HC1_2.out); rintro e w26 ⟨v438, rfl, ho0, hb⟩; refine ⟨_, rfl, ?_⟩; have n0_ := Z0 (Kd.R_lower ho0 (Z9 V0)); have n1_ := Z0 (Z5 (g := gb432) (o := .cells #[.int .i64 a0_0, .slice A0_1 l0_1.length c0_1, .slice A0_2 l0_2.length c0_2] 35 (0, 0)) (by (with_reducible repeat (first | refine Z6 ?_ _ | refine Z8 ?_ | refine Z7 ?_ _)); exact BK432.out) hb); have n2_ := Z0 (Z5 (g := gb433) (o := .cells #[.int .i64 a1_0, .slice A1_1 l1_1.length c1_1, .slice A1_2 l1_2.length c1_2] 35 (0, 0)) (by (with_reducible repeat (first | refine Z6 ?_ _ | refine Z8 ?_ | refine Z7 ?_ _)); exact BK433.out) hb); have n3_ := Z0 (Z4 V0 hb); clear BK432; clear BK433; clear HB; have HO439 := n0_; have BK432 := n1_; have BK433 := n2_; have HB := n3_; clear n0_ n1_ n2_ n3_; (try clear hb); (try clear hb2); (try clear hk); (try clear hi); (try clear ho0); have hcz27_0 : w26.cell? ⟨gb432, 0, none⟩ = some (.int .i64 a0_0) := (Y0 BK432.out 0).trans rfl; have hcz27_1 : w26.cell? ⟨gb432, 1, none⟩ = some (.slice A0_1 l0_1.length c0_1) := (Y0 BK432.out 1).trans rfl; have hcz27_2 : w26.cell? ⟨gb432, 2, none⟩ = some (.slice A0_2 l0_2.length c0_2) := (Y0 BK432.out 2).trans rfl; have hfz27_0 := blk_frozen BK432.out 0; have hfz27_1 := blk_frozen BK432.out 1; have hfz27_2 := blk_frozen BK432.out 2; have hcz28_0 : w26.cell? ⟨gb433, 0, none⟩ = some (.int .i64 a1_0) := (Y0 BK433.out 0).trans rfl; have hcz28_1 : w26.cell? ⟨gb433, 1, none⟩ = some (.slice A1_1 l1_1.length c1_1) := (Y0 BK433.out 1).trans rfl; have hcz28_2 : w26.cell? ⟨gb433, 2, none⟩ = some (.slice A1_2 l1_2.length c1_2) := (Y0 BK433.out 2).trans rfl; have hfz28_0 := blk_frozen BK433.out 0; have hfz28_1 := blk_frozen BK433.out 1; have hfz28_2 := blk_frozen BK433.out 2) | ((with_reducible refine Y2 (f := 40) rfl ?_); refine goesL_ (some 25) rfl rfl Tryz.func40 (by kernel_rfl) rfl #[.agg #[.int .i64 a0_0, .slice A0_1 l0_1.length c0_1, .slice A0_2 l0_2.length c0_2], .agg #[.int .i64 a1_0, .slice A1_1 l1_1.length c1_1, .slice A1_2 l1_2.length c1_2]] rfl V1 ?_; (with_reducible refine (cabinetryref03_Differ.calls kj2 a0_0 _ _ l0_1 _ _ l0_2 a1_0 _ _ l1_1 _ _ l1_2 t441 t444 _ ?side1 ?side2 ?side3 ?side4 ?side5 ?side6 ?side7 ?side8 A21.out).mono ?_); (case side1 => repeat (first | exact (Kd.C_below HR0_1.out HB.out) | (with_reducible refine Kd.C_alloc ?_ _) | (with_reducible refine Kd.C_drewN ?_ _) | (with_reducible refine Kd.C_drew ?_))); (case side2 => exact HC0_1.out); (case side3 => repeat (first | exact (Kd.C_below HR0_2.out HB.out) | (with_reducible refine Kd.C_alloc ?_ _) | (with_reducible refine Kd.C_drewN ?_ _) | (with_reducible refine Kd.C_drew ?_))); (case side4 => exact HC0_2.out); (case side5 => repeat (first | exact (Kd.C_below HR1_1.out HB.out) | (with_reducible refine Kd.C_alloc ?_ _) | (with_reducible refine Kd.C_drewN ?_ _) | (with_reducible refine Kd.C_drew ?_))); (case side6 => exact HC1_1.out); (case side7 => repeat (first | exact (Kd.C_below HR1_2.out HB.out) | (with_reducible refine Kd.C_alloc ?_ _) | (with_reducible refine Kd.C_drewN ?_ _) | (with_reducible refine Kd.C_drew ?_))); (case side8 => exact HC1_2.out); rintro e w29 ⟨v442, rfl, ho0, hb⟩; refine ⟨_, rfl, ?_⟩; have n0_ := Z0 (Kd.R_elder' (by (with_reducible repeat (first | apply Kd.R_alloc | apply Kd.R_drewN | apply Kd.R_drew)); exact HO439.out) (Kd.R_base ho0) hb); have n1_ := Z0 (Kd.R_lower (Kd.R_new' ho0 (Kd.R_lt (by (with_reducible repeat (first | apply Kd.R_alloc | apply Kd.R_drewN | apply Kd.R_drew)); exact HO439.out))) (Z9 V0)); have n2_ := Z0 (Z5 (g := gb432) (o := .cells #[.int .i64 a0_0, .slice A0_1 l0_1.length c0_1, .slice A0_2 l0_2.length c0_2] 35 (0, 0)) (by (with_reducible repeat (first | refine Z6 ?_ _ | refine Z8 ?_ | refine Z7 ?_ _)); exact BK432.out) hb); have n3_ := Z0 (Z5 (g := gb433) (o := .cells #[.int .i64 a1_0, .slice A1_1 l1_1.length c1_1, .slice A1_2 l1_2.length c1_2] 35 (0, 0)) (by (with_reducible repeat (first | refine Z6 ?_ _ | refine Z8 ?_ | refine Z7 ?_ _)); exact BK433.out) hb); have n4_ := Z0 (Z4 V0 hb); clear HO439; clear BK432; clear BK433; clear HB; have HO439 := n0_; have HO443 := n1_; have BK432 := n2_; have BK433 := n3_; have HB := n4_; clear n0_ n1_ n2_ n3_ n4_; (try clear hb); (try clear hb2); (try clear hk); (try clear hi); (try clear ho0)))
    (try simp only [Act.put, Z1, Z2, Z3])
    go_cut [4] (fun v4 wc => ∃ (kq : Nat) (x4_21 : Bool), v4 = .bool x4_21 ∧ Aside0 (cabinetrylaw03_TableDiffers.j1 kq x4_21 = some r) ∧ Aside0 (kq ≤ kj2) ∧ Aside0 (wc.heap[gb432]? = some (.cells #[.int .i64 a0_0, (.slice A0_1 l0_1.length c0_1), (.slice A0_2 l0_2.length c0_2)] 35 (0, 0))) ∧ Aside0 (wc.heap[gb433]? = some (.cells #[.int .i64 a1_0, (.slice A1_1 l1_1.length c1_1), (.slice A1_2 l1_2.length c1_2)] 35 (0, 0))) ∧ Aside0 (Below w.heap.size w wc))
    case first =>
     have H := HC22.out
     clear HC22
     replace H := Option.bind_eq_some_iff.mp H
     obtain ⟨t445, A300, H⟩ := H
     replace H : (if t445 = true then (if t440 = t444 then ((cabinetrylaw03_known.f).bind fun t446 => (cabinetrylaw03_TableDiffers.j1 kj2 t446)) else (cabinetrylaw03_TableDiffers.j1 kj2 false)) else (cabinetrylaw03_TableDiffers.j1 kj2 false)) = some r := H
     have A30 := Z0 A300
     clear A300
     by_cases c31 : t445 = true
     ·subst c31
      have H1 : (if t440 = t444 then ((cabinetrylaw03_known.f).bind fun t446 => (cabinetrylaw03_TableDiffers.j1 kj2 t446)) else (cabinetrylaw03_TableDiffers.j1 kj2 false)) = some r := by rw [if_pos rfl] at H; exact H
      clear H
      have H := H1
      clear H1
      by_cases c32 : t440 = t444
      ·rw [if_pos c32] at H
       have c32b0 : (t440 == t444) = true := beq_iff_eq.mpr c32
       have c32b1 : (t440 != t444) = false := bne_eq_false_iff_eq.mpr c32
       clear c32
       (first | rw [c32b0] | (simp only [Y4, Y5]; rw [c32b0]) | skip)
       replace H := Option.bind_eq_some_iff.mp H
       obtain ⟨t446, A330, H⟩ := H
       replace H : (cabinetrylaw03_TableDiffers.j1 kj2 t446) = some r := H
       have A33 := Z0 A330
       clear A330
       have H' := Z0 H
       clear H
       obtain ⟨Ao34, co34, eo34⟩ := Kd.R_slice HO439.out
       subst eo34
       obtain ⟨Ao35, co35, eo35⟩ := Kd.R_slice HO443.out
       subst eo35
       go_wp2_with (first | ((with_reducible refine Y2 (f := 38) rfl ?_); refine goesL_ (some 30) rfl rfl Tryz.func38 (by kernel_rfl) rfl #[.slice Ao34 t437.length co34, .slice Ao35 t441.length co35] rfl V1 ?_; (with_reducible refine (cabinetryref01_SameInts.calls kj2 _ _ t437 _ _ t441 true _ ?side1 ?side2 ?side3 ?side4 A30.out).mono ?_); (case side1 => repeat (first | exact (Kd.R_reads' HO439.out).2.2 | (with_reducible refine Kd.C_alloc ?_ _) | (with_reducible refine Kd.C_drewN ?_ _) | (with_reducible refine Kd.C_drew ?_))); (case side2 => exact (Kd.R_reads' HO439.out).2.1); (case side3 => repeat (first | exact (Kd.R_reads' HO443.out).2.2 | (with_reducible refine Kd.C_alloc ?_ _) | (with_reducible refine Kd.C_drewN ?_ _) | (with_reducible refine Kd.C_drew ?_))); (case side4 => exact (Kd.R_reads' HO443.out).2.1); rintro e w' ⟨rfl, ⟨nd, rfl⟩⟩; refine ⟨_, rfl, ?_⟩) | (go_at_call 12; (with_reducible refine (cabinetrylaw03_known.calls  t446 _ A33.out).mono ?_); rintro e w36 ⟨rfl, hb⟩; have n0_ := Z0 (Kd.R_below (by (with_reducible repeat (first | apply Kd.R_alloc | apply Kd.R_drewN | apply Kd.R_drew)); exact HO439.out) hb); have n1_ := Z0 (Kd.R_below (by (with_reducible repeat (first | apply Kd.R_alloc | apply Kd.R_drewN | apply Kd.R_drew)); exact HO443.out) hb); have n2_ := Z0 (Z5 (g := gb432) (o := .cells #[.int .i64 a0_0, .slice A0_1 l0_1.length c0_1, .slice A0_2 l0_2.length c0_2] 35 (0, 0)) (by (with_reducible repeat (first | refine Z6 ?_ _ | refine Z8 ?_ | refine Z7 ?_ _)); exact BK432.out) hb); have n3_ := Z0 (Z5 (g := gb433) (o := .cells #[.int .i64 a1_0, .slice A1_1 l1_1.length c1_1, .slice A1_2 l1_2.length c1_2] 35 (0, 0)) (by (with_reducible repeat (first | refine Z6 ?_ _ | refine Z8 ?_ | refine Z7 ?_ _)); exact BK433.out) hb); have n4_ := Z0 (Z4 V0 hb); clear HO439; clear HO443; clear BK432; clear BK433; clear HB; have HO439 := n0_; have HO443 := n1_; have BK432 := n2_; have BK433 := n3_; have HB := n4_; clear n0_ n1_ n2_ n3_ n4_; (try clear hb); (try clear hb2); (try clear hk); (try clear hi)))
       go_meet
       case rel => exact ⟨_, (t446), V2, H', ⟨by have := HJ2.out; first | omega | exact Nat.le_refl _⟩, ⟨by (with_reducible repeat (first | refine Z6 ?_ _ | refine Z8 ?_ | refine Z7 ?_ _)); exact BK432.out⟩, ⟨by (with_reducible repeat (first | refine Z6 ?_ _ | refine Z8 ?_ | refine Z7 ?_ _)); exact BK433.out⟩, ⟨V0⟩⟩
      ·rw [if_neg c32] at H
       first | (exact absurd (H.trans (congrArg some HR_.out)) (by simp)) | (exact (cabinetrylaw03_TableDiffers.j1_ne _ _ H (congrArg some HR_.out)).elim)
     ·replace c31 := Bool.eq_false_iff.mpr c31
      subst c31
      have H1 : (cabinetrylaw03_TableDiffers.j1 kj2 false) = some r := by rw [if_neg (show ¬ (false = true) by decide)] at H; exact H
      clear H
      have H := H1
      clear H1
      have H' := Z0 H
      clear H
      obtain ⟨Ao39, co39, eo39⟩ := Kd.R_slice HO439.out
      subst eo39
      obtain ⟨Ao40, co40, eo40⟩ := Kd.R_slice HO443.out
      subst eo40
      go_wp2_with (first | ((with_reducible refine Y2 (f := 38) rfl ?_); refine goesL_ (some 30) rfl rfl Tryz.func38 (by kernel_rfl) rfl #[.slice Ao39 t437.length co39, .slice Ao40 t441.length co40] rfl V1 ?_; (with_reducible refine (cabinetryref01_SameInts.calls kj2 _ _ t437 _ _ t441 false _ ?side1 ?side2 ?side3 ?side4 A30.out).mono ?_); (case side1 => repeat (first | exact (Kd.R_reads' HO439.out).2.2 | (with_reducible refine Kd.C_alloc ?_ _) | (with_reducible refine Kd.C_drewN ?_ _) | (with_reducible refine Kd.C_drew ?_))); (case side2 => exact (Kd.R_reads' HO439.out).2.1); (case side3 => repeat (first | exact (Kd.R_reads' HO443.out).2.2 | (with_reducible refine Kd.C_alloc ?_ _) | (with_reducible refine Kd.C_drewN ?_ _) | (with_reducible refine Kd.C_drew ?_))); (case side4 => exact (Kd.R_reads' HO443.out).2.1); rintro e w' ⟨rfl, ⟨nd, rfl⟩⟩; refine ⟨_, rfl, ?_⟩))
      go_meet
      case rel => exact ⟨_, (false), V2, H', ⟨by have := HJ2.out; first | omega | exact Nat.le_refl _⟩, ⟨by (with_reducible repeat (first | refine Z6 ?_ _ | refine Z8 ?_ | refine Z7 ?_ _)); exact BK432.out⟩, ⟨by (with_reducible repeat (first | refine Z6 ?_ _ | refine Z8 ?_ | refine Z7 ?_ _)); exact BK433.out⟩, ⟨V0⟩⟩
    case rest =>
     clear HC22
     try clear c1
     try clear c2
     try clear p2
     try clear c3
     try clear c4
     try clear c7
     try clear c8
     try clear c12
     try clear c16
     try clear c17
     try clear c23
     try clear c31
     try clear c32
     try clear c32b0
     try clear c32b1
     try clear c38
     try clear c39
     try clear c40
     try clear hcz13_0
     try clear hcz13_1
     try clear hcz13_2
     try clear hcz15_0
     try clear hcz15_1
     try clear hcz15_2
     try clear hcz24_0
     try clear hcz24_1
     try clear hcz24_2
     try clear hcz25_0
     try clear hcz25_1
     try clear hcz25_2
     try clear hcz27_0
     try clear hcz27_1
     try clear hcz27_2
     try clear hcz28_0
     try clear hcz28_1
     try clear hcz28_2
     try clear hcz9_0
     try clear hcz9_1
     try clear hcz9_2
     try clear hfz13_0
     try clear hfz13_1
     try clear hfz13_2
     try clear hfz15_0
     try clear hfz15_1
     try clear hfz15_2
     try clear hfz24_0
     try clear hfz24_1
     try clear hfz24_2
     try clear hfz25_0
     try clear hfz25_1
     try clear hfz25_2
     try clear hfz27_0
     try clear hfz27_1
     try clear hfz27_2
     try clear hfz28_0
     try clear hfz28_1
     try clear hfz28_2
     try clear hfz9_0
     try clear hfz9_1
     try clear hfz9_2
     try clear p2
     obtain ⟨kq, x4_21, rfl, HA, HJ21, BK432, BK433, HB⟩ := hcut
     cases kq with
     | zero => exact absurd HA.out (by simp [cabinetrylaw03_TableDiffers.j1])
     | succ kj21 =>
      have H := HA.out
      clear HA
      simp only [cabinetrylaw03_TableDiffers.j1] at H
      obtain rfl := Option.some.inj H
      go_wp2
      go_ret
      exact ⟨by first | rfl | (simp [errW_none, errW_some] <;> rfl) | (simp [*, errW_none, errW_some] <;> rfl), V0⟩
end Go.Proofs.YtldpdidlfbphcaaGreatDoor.P
end
section
namespace Go.Proofs.YtldpdidlfbphcaaGreatDoor.P
open Go.RowKit Go.Proofs.YtldpdidlfbphcaaGreatDoorW.PrintWords Go.Proofs.YtldpdidlfbphcaaGreatDoorW.PrintLast Go.Proofs.YtldpdidlfbphcaaGreatDoorW.PrintMore
def neF (x y : S23) : Bool := !(x.f0.toList == y.f0.toList) || (!(x.f1 == y.f1) || (!(x.f2 == y.f2) || (!(x.f3 == y.f3))))
def neV (x y : S25) : Bool := !(x.f0 == y.f0) || (!(x.f1 == y.f1) || (!(x.f2.toList == y.f2.toList)))
def eqFs : List S23 → List S23 → Bool
 | x :: a, y :: b => if neF x y = true then false else eqFs a b
 | _, _ => true
def eqVs : List S25 → List S25 → Bool
 | x :: a, y :: b => if neV x y = true then false else eqVs a b
 | _, _ => true
theorem field_go (a b : List S23) (hL : a.length ≤ 1048576) (he : a.length = b.length) : ∀ (r s : List S23) (i k : Nat), a.drop i = r → b.drop i = s → r.length < k → api_Field.l0 k a b (a.length : Int) (i : Int) = some (eqFs r s) ∧ cabinetryref03_SameFields.l0 k a b (i : Int) = some (eqFs r s)
 | [], s, i, k, h0, h1, hk => by
  obtain ⟨m, rfl⟩ : ∃ m, k = m + 1 := ⟨k - 1, by simp at hk; omega⟩
  simp only [api_Field.l0, cabinetryref03_SameFields.l0]
  rw [if_neg (rd_end h0), if_neg (rd_end h0)]
  exact ⟨rfl, rfl⟩
 | x :: r, [], i, k, h0, h1, hk => by
  have h2 := (rd_drop h0).1
  have h3 := List.drop_eq_nil_iff.1 h1
  omega
 | x :: r, y :: s, i, k, h0, h1, hk => by
  obtain ⟨m, rfl⟩ : ∃ m, k = m + 1 := ⟨k - 1, by simp at hk; omega⟩
  obtain ⟨h2, hx, hr, _⟩ := rd_drop h0
  obtain ⟨h3, hy, hs, _⟩ := rd_drop h1
  obtain ⟨i1, i2⟩ := field_go a b hL he r s (i + 1) m hr hs (by simp at hk; omega)
  simp only [api_Field.l0, cabinetryref03_SameFields.l0]
  constructor
  ·rw [if_pos (by omega), if_pos (by omega), if_pos (by omega), if_pos (by omega), hx, hy, wrapL h2 hL, i1]
   change (if neF x y = true then some false else some (eqFs r s)) = some (if neF x y = true then false else eqFs r s)
   split <;> rfl
  ·rw [if_pos (by omega), if_pos (by omega), if_pos (by omega), hx, hy, wrapL h2 hL, i2]
   change (if neF x y = true then some false else some (eqFs r s)) = some (if neF x y = true then false else eqFs r s)
   split <;> rfl
theorem sameValue_is (x y : S25) (k : Nat) (hk : 0 < k) : cabinetryref01_SameValue.f k x.f0 x.f1 x.f2 y.f0 y.f1 y.f2 = some (!neV x y) := by
 obtain ⟨m, rfl⟩ : ∃ m, k = m + 1 := ⟨k - 1, by omega⟩
 unfold cabinetryref01_SameValue.f neV
 simp only [cabinetryref01_SameValue.j0]
 by_cases h0 : x.f0 = y.f0
 ·rw [if_pos h0]
  by_cases h1 : x.f1 = y.f1
  ·rw [if_pos h1]
   simp [h0, h1]
  ·rw [if_neg h1]
   simp [h1]
 ·rw [if_neg h0]
  simp [h0]
theorem value_go (a b : List S25) (hL : a.length ≤ 1048576) (he : a.length = b.length) : ∀ (r s : List S25) (i k : Nat), a.drop i = r → b.drop i = s → r.length + 1 < k → api_Value.l0 k a b (a.length : Int) (i : Int) = some (eqVs r s) ∧ cabinetryref01_SameValues.l0 k a b (i : Int) = some (eqVs r s)
 | [], s, i, k, h0, h1, hk => by
  obtain ⟨m, rfl⟩ : ∃ m, k = m + 1 := ⟨k - 1, by simp at hk; omega⟩
  simp only [api_Value.l0, cabinetryref01_SameValues.l0]
  rw [if_neg (rd_end h0), if_neg (rd_end h0)]
  exact ⟨rfl, rfl⟩
 | x :: r, [], i, k, h0, h1, hk => by
  have h2 := (rd25_drop h0).1
  have h3 := List.drop_eq_nil_iff.1 h1
  omega
 | x :: r, y :: s, i, k, h0, h1, hk => by
  obtain ⟨m, rfl⟩ : ∃ m, k = m + 1 := ⟨k - 1, by simp at hk; omega⟩
  obtain ⟨h2, hx, hr⟩ := rd25_drop h0
  obtain ⟨h3, hy, hs⟩ := rd25_drop h1
  obtain ⟨i1, i2⟩ := value_go a b hL he r s (i + 1) m hr hs (by simp at hk; omega)
  simp only [api_Value.l0, cabinetryref01_SameValues.l0]
  constructor
  ·rw [if_pos (by omega), if_pos (by omega), if_pos (by omega), if_pos (by omega), hx, hy, wrapL h2 hL, i1]
   change (if neV x y = true then some false else some (eqVs r s)) = some (if neV x y = true then false else eqVs r s)
   split <;> rfl
  ·rw [if_pos (by omega), if_pos (by omega), if_pos (by omega), hx, hy, wrapL h2 hL, i2, sameValue_is x y m (by simp at hk; omega)]
   simp only [Option.bind_some, eqVs]
   cases neV x y <;> rfl
def eqF (a b : List S23) : Bool := if (a.length : Int) = (b.length : Int) then eqFs a b else false
def eqV (a b : List S25) : Bool := if (a.length : Int) = (b.length : Int) then eqVs a b else false
theorem fields_eq (a b : List S23) (hL : a.length ≤ 1048576) (k : Nat) (hk : 1048577 < k) : api_Field.f k a b = some (eqF a b) ∧ cabinetryref03_SameFields.f k a b = some (eqF a b) := by
 unfold api_Field.f cabinetryref03_SameFields.f eqF
 by_cases h : (a.length : Int) = (b.length : Int)
 ·rw [if_pos h, if_pos h, if_pos h]
  exact field_go a b hL (by omega) a b 0 k List.drop_zero List.drop_zero (by omega)
 ·rw [if_neg h, if_neg h, if_neg h]
  exact ⟨rfl, rfl⟩
theorem values_eq (a b : List S25) (hL : a.length ≤ 1048576) (k : Nat) (hk : 1048577 < k) : api_Value.f k a b = some (eqV a b) ∧ cabinetryref01_SameValues.f k a b = some (eqV a b) := by
 unfold api_Value.f cabinetryref01_SameValues.f eqV
 by_cases h : (a.length : Int) = (b.length : Int)
 ·rw [if_pos h, if_pos h, if_pos h]
  exact value_go a b hL (by omega) a b 0 k List.drop_zero List.drop_zero (by omega)
 ·rw [if_neg h, if_neg h, if_neg h]
  exact ⟨rfl, rfl⟩
def sameR (x y : S46) : Bool := if (x.f0 == y.f0) = true then eqV x.f1 y.f1 else false
def difAt (a b : List S46) (i : Nat) : Bool := if (i : Int) ≥ (a.length : Int) then true else if (i : Int) ≥ (b.length : Int) then true else !sameR (rd_T46 a i) (rd_T46 b i)
def difS (a b : List S46) : Nat → Nat → List Int
 | 0, _ => []
 | n + 1, i => if difAt a b i = true then ((i + 1 : Nat) : Int) :: difS a b n (i + 1) else difS a b n (i + 1)
theorem difS_len (a b : List S46) : ∀ n i, (difS a b n i).length ≤ n
 | 0, _ => Nat.le_refl _
 | n + 1, i => by
  have := difS_len a b n (i + 1)
  simp only [difS]
  split
  ·simpa using this
  ·omega
theorem rec_size {l : List S46} (h : smallR l) {i : Nat} (hi : i < l.length) : (rd_T46 l (i : Int)).f1.length ≤ 1048576 := by
 have e : l.drop i = l[i] :: l.drop (i + 1) := List.drop_eq_getElem_cons hi
 rw [(rd46_drop e).2.1]
 exact h.2 _ (List.getElem_mem hi)
theorem wrapM {i : Nat} (h : i < 1048576) : wrap64 ((i : Int) + 1) = ((i + 1 : Nat) : Int) := wrapL (n := i + 1) (Nat.lt_succ_self i) (by omega)
section
variable (a b : List S46) (ha : smallR a) (hb : smallR b) (p q : Int) (f g : List S23)
include ha hb
theorem dif_go : ∀ (n i k : Nat) (acc : List Int), i + n = max a.length b.length → acc.length ≤ i → 3 * n + 1048600 < k → table_Differ.l0 k acc (mx (a.length : Int) (b.length : Int)) (i : Int) p f a q g b = some (acc ++ difS a b n i, 0)
 | 0, i, k, acc, h, hl, hk => by
  obtain ⟨m, rfl⟩ : ∃ m, k = m + 1 := ⟨k - 1, by omega⟩
  have e : mx (a.length : Int) (b.length : Int) = (i : Int) := by unfold mx; split <;> omega
  simp only [table_Differ.l0]
  rw [e, if_neg (by omega)]
  simp [difS]
 | n + 1, i, k, acc, h, hl, hk => by
  obtain ⟨m, rfl⟩ : ∃ m, k = m + 2 := ⟨k - 2, by omega⟩
  have e : mx (a.length : Int) (b.length : Int) = ((i + (n + 1) : Nat) : Int) := by unfold mx; split <;> omega
  have hi : i < 1048576 := by have := ha.1; have := hb.1; omega
  have tail : ∀ D : Bool, table_Differ.j2 (m + 1) acc (i : Int) (mx (a.length : Int) (b.length : Int)) (i : Int) D p f a q g b = some (acc ++ (if D = true then ((i + 1 : Nat) : Int) :: difS a b n (i + 1) else difS a b n (i + 1)), 0) := by
   intro D
   simp only [table_Differ.j2]
   rw [wrapM (by omega)]
   cases D
   ·rw [if_neg (by simp), if_neg (by simp)]
    exact dif_go n (i + 1) m acc (by omega) (by omega) (by omega)
   ·rw [if_pos rfl, if_pos rfl, if_pos (by omega), dif_go n (i + 1) m (acc ++ [((i + 1 : Nat) : Int)]) (by omega) (by simp; omega) (by omega)]
    simp
  rw [show table_Differ.l0 (m + 2) acc (mx (a.length : Int) (b.length : Int)) (i : Int) p f a q g b = table_Differ.j2 (m + 1) acc (i : Int) (mx (a.length : Int) (b.length : Int)) (i : Int) (difAt a b i) p f a q g b from ?_, tail]
  ·rfl
  ·conv => lhs; unfold table_Differ.l0
   rw [if_pos (by rw [e]; omega)]
   unfold difAt
   by_cases h1 : (i : Int) ≥ (a.length : Int)
   ·rw [if_pos h1, if_pos h1]
   ·rw [if_neg h1, if_neg h1]
    by_cases h2 : (i : Int) ≥ (b.length : Int)
    ·rw [if_pos h2, if_pos h2]
    ·rw [if_neg h2, if_neg h2, if_pos (by omega), if_pos (by omega), if_pos (by omega)]
     unfold sameR
     by_cases h3 : (rd_T46 a (i : Int)).f0 = (rd_T46 b (i : Int)).f0
     ·rw [if_neg (by simp [h3]), (values_eq _ _ (rec_size ha (by omega)) (m + 1) (by omega)).1, if_pos (by simp [h3])]
      rfl
     ·rw [if_pos (by simp [h3]), if_neg (by simp [h3])]
      rfl
theorem refDif_go : ∀ (n i k : Nat) (acc : List Int), i + n = max a.length b.length → acc.length ≤ i → 4 * n + 1048600 < k → cabinetryref03_Differ.l0 k acc (i : Int) p f a q g b = some (acc ++ difS a b n i, 0)
 | 0, i, k, acc, h, hl, hk => by
  obtain ⟨m, rfl⟩ : ∃ m, k = m + 2 := ⟨k - 2, by omega⟩
  simp only [cabinetryref03_Differ.l0, cabinetryref03_Differ.j2]
  rw [if_neg (by omega), if_neg (by simp; omega)]
  simp [difS]
 | n + 1, i, k, acc, h, hl, hk => by
  obtain ⟨m, rfl⟩ : ∃ m, k = m + 3 := ⟨k - 3, by omega⟩
  have hi : i < 1048576 := by have := ha.1; have := hb.1; omega
  have tail : ∀ D : Bool, cabinetryref03_Differ.j3 (m + 1) acc (i : Int) D p f a q g b = some (acc ++ (if D = true then ((i + 1 : Nat) : Int) :: difS a b n (i + 1) else difS a b n (i + 1)), 0) := by
   intro D
   simp only [cabinetryref03_Differ.j3]
   rw [wrapM (by omega)]
   cases D
   ·rw [if_neg (by simp), if_neg (by simp)]
    exact refDif_go n (i + 1) m acc (by omega) (by omega) (by omega)
   ·rw [if_pos rfl, if_pos rfl, if_pos (by omega), refDif_go n (i + 1) m (acc ++ [((i + 1 : Nat) : Int)]) (by omega) (by simp; omega) (by omega)]
    simp
  have in2 : cabinetryref03_Differ.l0 (m + 3) acc (i : Int) p f a q g b = cabinetryref03_Differ.j2 (m + 2) acc (i : Int) true p f a q g b := by
   conv => lhs; unfold cabinetryref03_Differ.l0
   by_cases h1 : (i : Int) < (a.length : Int)
   ·rw [if_pos h1]
   ·rw [if_neg h1, decide_eq_true (by omega)]
  rw [in2, show cabinetryref03_Differ.j2 (m + 2) acc (i : Int) true p f a q g b = cabinetryref03_Differ.j3 (m + 1) acc (i : Int) (difAt a b i) p f a q g b from ?_, tail]
  ·rfl
  ·conv => lhs; unfold cabinetryref03_Differ.j2
   rw [if_pos rfl]
   unfold difAt
   by_cases h1 : (i : Int) ≥ (a.length : Int)
   ·rw [if_pos h1, if_pos h1]
   ·rw [if_neg h1, if_neg h1]
    by_cases h2 : (i : Int) ≥ (b.length : Int)
    ·rw [if_pos h2, if_pos h2]
    ·rw [if_neg h2, if_neg h2, if_pos (by omega), if_pos (by omega), if_pos (by omega)]
     unfold sameR cabinetryref03_SameRecord.f
     by_cases h3 : ((rd_T46 a (i : Int)).f0 == (rd_T46 b (i : Int)).f0) = true
     ·rw [if_pos h3, if_pos h3, (values_eq _ _ (rec_size ha (by omega)) (m + 1) (by omega)).2]
      rfl
     ·rw [if_neg h3, if_neg h3]
      rfl
end
theorem sameI_go (l : List Int) (hL : l.length ≤ 1048576) : ∀ (n i k : Nat), i + n = l.length → n < k → cabinetryref01_SameInts.l0 k l l (i : Int) = some true
 | 0, i, k, h, hk => by
  obtain ⟨m, rfl⟩ : ∃ m, k = m + 1 := ⟨k - 1, by omega⟩
  simp only [cabinetryref01_SameInts.l0]
  rw [if_neg (by omega)]
 | n + 1, i, k, h, hk => by
  obtain ⟨m, rfl⟩ : ∃ m, k = m + 1 := ⟨k - 1, by omega⟩
  have hi : i < l.length := by omega
  simp only [cabinetryref01_SameInts.l0]
  rw [if_pos (by omega), if_pos (by omega), if_pos (by omega), if_pos trivial, wrapL hi hL]
  exact sameI_go l hL n (i + 1) m (by omega) (by omega)
theorem sameI_self (l : List Int) (hL : l.length ≤ 1048576) (k : Nat) (hk : l.length < k) : cabinetryref01_SameInts.f k l l = some true := by
 unfold cabinetryref01_SameInts.f
 rw [if_pos rfl]
 exact sameI_go l hL l.length 0 k (by omega) hk
def differT (p : Int) (f : List S23) (a : List S46) (q : Int) (g : List S23) (b : List S46) : List Int × Int :=
 if tableV p f a = 0 then (if tableV q g b = 0 then (if p = q then (if eqF f g = true then (difS a b (max a.length b.length) 0, 0) else ([], 10)) else ([], 10)) else ([], tableV q g b)) else ([], tableV p f a)
theorem TableDiffers_pure (p : Int) (f : List S23) (a : List S46) (q : Int) (g : List S23) (b : List S46) (hf : smallF f) (ha : smallR a) (_ : ∀ y ∈ a, ∀ v ∈ y.f1, v.f2.size ≤ 1048576) (hg : smallF g) (hb : smallR b) (_ : ∀ y ∈ b, ∀ v ∈ y.f1, v.f2.size ≤ 1048576) : ∃ k, cabinetrylaw03_TableDiffers.f k p f a q g b = some true := by
 obtain ⟨K1, hK1⟩ := refValidateT_is p f a hf
 obtain ⟨K2, hK2⟩ := refValidateT_is q g b hg
 obtain ⟨m, hm1, hm2, hm3⟩ : ∃ m : Nat, K1 ≤ m ∧ 5300000 ≤ m ∧ K2 ≤ m := ⟨K1 + K2 + 5300000, by omega, by omega, by omega⟩
 have hl : max a.length b.length ≤ 1048576 := by have := ha.1; have := hb.1; omega
 have e1 : ∀ k, m ≤ k → table_Differ.f k p f a q g b = some (differT p f a q g b) := by
  intro k hk
  unfold table_Differ.f differT
  rw [validate_is p f a hf.1 k (by omega), validate_is q g b hg.1 k (by omega)]
  simp only [Option.bind_some]
  by_cases h1 : tableV p f a = 0
  ·rw [if_pos h1, if_pos h1]
   by_cases h2 : tableV q g b = 0
   ·rw [if_pos h2, if_pos h2]
    obtain ⟨k', rfl⟩ : ∃ k', k = k' + 1 := ⟨k - 1, by omega⟩
    by_cases h3 : p = q
    ·rw [if_pos h3, if_pos h3, (fields_eq f g hf.1 (k' + 1) (by omega)).1]
     simp only [Option.bind_some, table_Differ.j0]
     have := dif_go a b ha hb p q f g (max a.length b.length) 0 k' [] (by omega) (by simp) (by omega)
     rw [show ((0 : Nat) : Int) = 0 from rfl] at this
     rw [this]
     cases eqF f g <;> rfl
    ·rw [if_neg h3, if_neg h3]
     simp [table_Differ.j0]
   ·rw [if_neg h2, if_neg h2]
  ·rw [if_neg h1, if_neg h1]
 have e2 : ∀ k, m ≤ k → cabinetryref03_Differ.f k p f a q g b = some (differT p f a q g b) := by
  intro k hk
  unfold cabinetryref03_Differ.f differT
  have q1 : cabinetryref03_Validate.f k p f a = some (tableV p f a) := hK1 k (by omega)
  have q2 : cabinetryref03_Validate.f k q g b = some (tableV q g b) := hK2 k (by omega)
  rw [q1, q2]
  simp only [Option.bind_some]
  by_cases h1 : tableV p f a = 0
  ·rw [if_pos h1, if_pos h1]
   by_cases h2 : tableV q g b = 0
   ·rw [if_pos h2, if_pos h2]
    obtain ⟨k', rfl⟩ : ∃ k', k = k' + 1 := ⟨k - 1, by omega⟩
    by_cases h3 : p = q
    ·rw [if_pos h3, if_pos h3, (fields_eq f g hf.1 (k' + 1) (by omega)).2]
     simp only [Option.bind_some, cabinetryref03_Differ.j0]
     have := refDif_go a b ha hb p q f g (max a.length b.length) 0 k' [] (by omega) (by simp) (by omega)
     rw [show ((0 : Nat) : Int) = 0 from rfl] at this
     rw [this]
     cases eqF f g <;> rfl
    ·rw [if_neg h3, if_neg h3]
     simp [cabinetryref03_Differ.j0]
   ·rw [if_neg h2, if_neg h2]
  ·rw [if_neg h1, if_neg h1]
 have hq : (differT p f a q g b).1.length ≤ 1048576 := by
  unfold differT
  have := difS_len a b (max a.length b.length) 0
  split
  ·split
   ·split
    ·split
     ·exact Nat.le_trans this hl
     ·simp
    ·simp
   ·simp
  ·simp
 refine ⟨m + 2, ?_⟩
 obtain ⟨r1, w1⟩ := weight_some p f a hf.1 ha (m + 2) (by omega)
 obtain ⟨r2, w2⟩ := weight_some q g b hg.1 hb (m + 2) (by omega)
 unfold cabinetrylaw03_TableDiffers.f cabinetrylaw03_over.f
 rw [w1, w2]
 simp only [Option.bind_some]
 split
 ·simp only [cabinetrylaw03_TableDiffers.j0]
  rfl
 ·simp only [cabinetrylaw03_TableDiffers.j0]
  split
  ·rfl
  ·rw [e1 (m + 1) (by omega), e2 (m + 1) (by omega)]
   simp only [Option.bind_some]
   generalize differT p f a q g b = z at *
   rw [sameI_self z.1 hq (m + 1) (by omega)]
   simp only [Option.bind_some, if_true]
   rfl
end Go.Proofs.YtldpdidlfbphcaaGreatDoor.P
end
