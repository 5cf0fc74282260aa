/- Part 5 of this proof: what the last part leans on. -/
import Derived.Test.YtldpdidlfbphcaaGreatDoorBDiff4
import Derived.Lib.BufferWrite
set_option linter.unusedVariables false
set_option linter.unusedSimpArgs false
section
namespace Go.Proofs.YtldpdidlfbphcaaGreatDoor.P
open Go.RowKit Go.Proofs.YtldpdidlfbphcaaGreatDoorW.PrintWords Go.Proofs.YtldpdidlfbphcaaGreatDoorW.PrintLast Go.Proofs.YtldpdidlfbphcaaGreatDoorW.PrintMore
attribute [local go_sem] max2_int min2_int max_two min_two max_three min_three max_four min_four
mutual
def table_Differ.j0 : Nat → Bool → Int → List (S23) → List (S46) → Int → List (S23) → List (S46) → Option (List Int × Int)
 | 0, _, _, _, _, _, _, _ => none
 | k + 1, x32, x133000, x133001, x133002, x134000, x134001, x134002 => if x32 = true then (some (([] : List Int), 10)) else (table_Differ.l0 k ([] : List Int) (mx (x133002.length : Int) (x134002.length : Int)) 0 x133000 x133001 x133002 x134000 x134001 x134002)
def table_Differ.l0 : Nat → List Int → Int → Int → Int → List (S23) → List (S46) → Int → List (S23) → List (S46) → Option (List Int × Int)
 | 0, _, _, _, _, _, _, _, _, _ => none
 | k + 1, x8, x39, x40, x133000, x133001, x133002, x134000, x134001, x134002 => if x40 < x39 then (if x40 ≥ (x133002.length : Int) then (table_Differ.j2 k x8 x40 x39 x40 true x133000 x133001 x133002 x134000 x134001 x134002) else (if x40 ≥ (x134002.length : Int) then (table_Differ.j2 k x8 x40 x39 x40 true x133000 x133001 x133002 x134000 x134001 x134002) else (if 0 ≤ x40 then (if x40 < (x133002.length : Int) then (if x40 < (x134002.length : Int) then (if (((rd_T46 x133002 x40).f0) != ((rd_T46 x134002 x40).f0)) = true then (table_Differ.j2 k x8 x40 x39 x40 true x133000 x133001 x133002 x134000 x134001 x134002) else ((api_Value.f k ((rd_T46 x133002 x40).f1) ((rd_T46 x134002 x40).f1)).bind fun t141 => (table_Differ.j2 k x8 x40 x39 x40 (!t141) x133000 x133001 x133002 x134000 x134001 x134002))) else (none)) else (none)) else (none)))) else (some (x8, 0))
def table_Differ.j2 : Nat → List Int → Int → Int → Int → Bool → Int → List (S23) → List (S46) → Int → List (S23) → List (S46) → Option (List Int × Int)
 | 0, _, _, _, _, _, _, _, _, _, _, _ => none
 | k + 1, x8, x9, x39, x40, x85, x133000, x133001, x133002, x134000, x134001, x134002 => if x85 = true then (if x8.length < 17592186044416 then (table_Differ.l0 k (x8 ++ [wrap64 (x9 + 1)]) x39 (wrap64 (x40 + 1)) x133000 x133001 x133002 x134000 x134001 x134002) else (none)) else (table_Differ.l0 k x8 x39 (wrap64 (x40 + 1)) x133000 x133001 x133002 x134000 x134001 x134002)
end
def table_Differ.f (k : Nat) (a0_0 : Int) (l0_1 : List (S23)) (l0_2 : List (S46)) (a1_0 : Int) (l1_1 : List (S23)) (l1_2 : List (S46)) : Option (List Int × Int) := (table_Validate.f k a0_0 l0_1 l0_2).bind fun t134 => (if t134 = 0 then ((table_Validate.f k a1_0 l1_1 l1_2).bind fun t135 => (if t135 = 0 then (if a0_0 = a1_0 then ((api_Field.f k l0_1 l1_1).bind fun t136 => (table_Differ.j0 k (!t136) a0_0 l0_1 l0_2 a1_0 l1_1 l1_2)) else (table_Differ.j0 k true a0_0 l0_1 l0_2 a1_0 l1_1 l1_2)) else (some (([] : List Int), t135)))) else (some (([] : List Int), t134)))
theorem table_Differ.mono_l : ∀ k, (∀ y0 y1 y2 y3 y4 y5 y6, LeO (table_Differ.j0 k y0 y1 y2 y3 y4 y5 y6) (table_Differ.j0 (k + 1) y0 y1 y2 y3 y4 y5 y6)) ∧ (∀ y0 y1 y2 y3 y4 y5 y6 y7 y8, LeO (table_Differ.l0 k y0 y1 y2 y3 y4 y5 y6 y7 y8) (table_Differ.l0 (k + 1) y0 y1 y2 y3 y4 y5 y6 y7 y8)) ∧ (∀ y0 y1 y2 y3 y4 y5 y6 y7 y8 y9 y10, LeO (table_Differ.j2 k y0 y1 y2 y3 y4 y5 y6 y7 y8 y9 y10) (table_Differ.j2 (k + 1) y0 y1 y2 y3 y4 y5 y6 y7 y8 y9 y10))
 | 0 => ⟨fun _ _ _ _ _ _ _ r h => by simp [table_Differ.j0] at h, fun _ _ _ _ _ _ _ _ _ r h => by simp [table_Differ.l0] at h, fun _ _ _ _ _ _ _ _ _ _ _ r h => by simp [table_Differ.j2] at h⟩
 | k + 1 => by
  obtain ⟨ih0, ih1, ih2⟩ := table_Differ.mono_l k
  refine ⟨?_, ?_, ?_⟩
  ·intro y0 y1 y2 y3 y4 y5 y6
   unfold table_Differ.j0
   repeat' first
   | (with_reducible exact ih0 _ _ _ _ _ _ _)
   | (with_reducible exact ih1 _ _ _ _ _ _ _ _ _)
   | (with_reducible exact ih2 _ _ _ _ _ _ _ _ _ _ _)
   | (with_reducible exact api_Field.mono _ _ _)
   | (with_reducible exact api_Value.mono _ _ _)
   | (with_reducible exact table_Validate.mono _ _ _ _)
   | (with_reducible exact LeO.refl _)
   | (with_reducible exact LeO.none _)
   | (with_reducible refine LeO.ite ?_ ?_)
   | (with_reducible refine LeO.bind ?_ (fun _ => ?_))
  ·intro y0 y1 y2 y3 y4 y5 y6 y7 y8
   unfold table_Differ.l0
   repeat' first
   | (with_reducible exact ih0 _ _ _ _ _ _ _)
   | (with_reducible exact ih1 _ _ _ _ _ _ _ _ _)
   | (with_reducible exact ih2 _ _ _ _ _ _ _ _ _ _ _)
   | (with_reducible exact api_Field.mono _ _ _)
   | (with_reducible exact api_Value.mono _ _ _)
   | (with_reducible exact table_Validate.mono _ _ _ _)
   | (with_reducible exact LeO.refl _)
   | (with_reducible exact LeO.none _)
   | (with_reducible refine LeO.ite ?_ ?_)
   | (with_reducible refine LeO.bind ?_ (fun _ => ?_))
  ·intro y0 y1 y2 y3 y4 y5 y6 y7 y8 y9 y10
   unfold table_Differ.j2
   repeat' first
   | (with_reducible exact ih0 _ _ _ _ _ _ _)
   | (with_reducible exact ih1 _ _ _ _ _ _ _ _ _)
   | (with_reducible exact ih2 _ _ _ _ _ _ _ _ _ _ _)
   | (with_reducible exact api_Field.mono _ _ _)
   | (with_reducible exact api_Value.mono _ _ _)
   | (with_reducible exact table_Validate.mono _ _ _ _)
   | (with_reducible exact LeO.refl _)
   | (with_reducible exact LeO.none _)
   | (with_reducible refine LeO.ite ?_ ?_)
   | (with_reducible refine LeO.bind ?_ (fun _ => ?_))
theorem table_Differ.mono : ∀ a0 a1 a2 a3 a4 a5 k, LeO (table_Differ.f k a0 a1 a2 a3 a4 a5) (table_Differ.f (k + 1) a0 a1 a2 a3 a4 a5) := by
 intro a0 a1 a2 a3 a4 a5 k
 obtain ⟨ih0, ih1, ih2⟩ := table_Differ.mono_l k
 unfold table_Differ.f
 repeat' first
   | (with_reducible exact ih0 _ _ _ _ _ _ _)
   | (with_reducible exact ih1 _ _ _ _ _ _ _ _ _)
   | (with_reducible exact ih2 _ _ _ _ _ _ _ _ _ _ _)
   | (with_reducible exact api_Field.mono _ _ _)
   | (with_reducible exact api_Value.mono _ _ _)
   | (with_reducible exact table_Validate.mono _ _ _ _)
   | (with_reducible exact LeO.refl _)
   | (with_reducible exact LeO.none _)
   | (with_reducible refine LeO.ite ?_ ?_)
   | (with_reducible refine LeO.bind ?_ (fun _ => ?_))
def table_Differ.T13 : Bool × List (List Nat × List Nat) := (true, [([], []), ([], []), ([1], [1]), ([2], [2]), ([0, 3], [0, 3]), ([4], [4]), ([5], [5]), ([5], [5]), ([7, 5], [5, 7]), ([8, 5], [5, 8]), ([6, 9, 5], [5, 6, 9]), ([5, 10], [5, 10]), ([11, 5], [11]), ([12], [12]), ([13, 12], [12, 13]), ([12], [12]), ([14, 15, 12], [12, 14, 15]), ([16, 12], [12, 16]), ([17, 12], [12, 17]), ([12], [12]), ([19, 12], [12, 19]), ([12], [12]), ([20, 21, 12], [12, 20, 21]), ([22, 12], [12, 22]), ([23, 12], [12, 23]), ([18, 24, 12], [12, 18, 24]), ([12, 25], [12, 25]), ([26, 12], [26]), ([27], [27]), ([28, 27], [27, 28]), ([27], [27]), ([29, 30, 27], [27, 29, 30]), ([31, 27], [27, 31]), ([32, 27], [27, 32]), ([27], [27]), ([34, 27], [27, 34]), ([27], [27]), ([35, 36, 27], [27, 35, 36]), ([37, 27], [27, 37]), ([38, 27], [27, 38]), ([33, 39, 27, 27], [27, 33, 39]), ([40, 27], [27, 40]), ([27, 41], [27, 41])])
def table_Differ.B13 : List Nat := [0, 0, 2, 6, 15, 31, 63, 63, 191, 447, 1023, 2047, 4095, 8191, 16383, 8191, 65535, 131071, 262143, 8191, 532479, 8191, 3678207, 7872511, 16261119, 33554431, 67108863, 134217727, 268435455, 536870911, 268435455, 2147483647, 4294967295, 8589934591, 268435455, 17448304639, 268435455, 120527519743, 257966473215, 532844380159, 1099511627775, 2199023255551, 4398046511103]
theorem table_Differ.tab13 : rtab .any (opsOf Tryz.f39 13) = table_Differ.T13 := by kernel_rfl
theorem table_Differ.bits13 : waitsOk table_Differ.T13.2 table_Differ.B13 = true := by kernel_rfl
set_option maxHeartbeats 8000000 in
set_option maxRecDepth 100000 in
theorem table_Differ.calls (k : Nat) (a0_0 : Int) (A0_1 : Option Addr) (c0_1 : Nat) (l0_1 : List (S23)) (A0_2 : Option Addr) (c0_2 : Nat) (l0_2 : List (S46)) (a1_0 : Int) (A1_1 : Option Addr) (c1_1 : Nat) (l1_1 : List (S23)) (A1_2 : Option Addr) (c1_2 : Nat) (l1_2 : List (S46)) (r1 : List Int) (r2 : Int) (w : World) (hr0_1 : Kd.C k23 w A0_1 l0_1.length l0_1) (hc0_1 : l0_1.length ≤ c0_1) (hr0_2 : Kd.C k46 w A0_2 l0_2.length l0_2) (hc0_2 : l0_2.length ≤ c0_2) (hr1_1 : Kd.C k23 w A1_1 l1_1.length l1_1) (hc1_1 : l1_1.length ≤ c1_1) (hr1_2 : Kd.C k46 w A1_2 l1_2.length l1_2) (hc1_2 : l1_2.length ≤ c1_2) (h : table_Differ.f k a0_0 l0_1 l0_2 a1_0 l1_1 l1_2 = some (r1, r2)) :
  Calls Tryz.prog 39 #[.agg #[.int .i64 a0_0, .slice A0_1 l0_1.length c0_1, .slice A0_2 l0_2.length c0_2], .agg #[.int .i64 a1_0, .slice A1_1 l1_1.length c1_1, .slice A1_2 l1_2.length c1_2]] w fun e w' => ∃ v0_ : Value, e = .returned (.tuple #[v0_, .int .i64 r2]) ∧ Kd.R (Kd.int .i64) 3 w' w.heap.size (fun _ => True) v0_ r1 ∧ Below w.heap.size w w' := by
 have hu35 := Tryz.underlying35
 have HR0_1 := Z0 hr0_1
 have HC0_1 := Z0 hc0_1
 clear hr0_1 hc0_1
 have HR0_2 := Z0 hr0_2
 have HC0_2 := Z0 hc0_2
 clear hr0_2 hc0_2
 have HR1_1 := Z0 hr1_1
 have HC1_1 := Z0 hc1_1
 clear hr1_1 hc1_1
 have HR1_2 := Z0 hr1_2
 have HC1_2 := Z0 hc1_2
 clear hr1_2 hc1_2
 have HB := Z0 (Below.refl w.heap.size w)
 have H : ((table_Validate.f k a0_0 l0_1 l0_2).bind fun t134 => (if t134 = 0 then ((table_Validate.f k a1_0 l1_1 l1_2).bind fun t135 => (if t135 = 0 then (if a0_0 = a1_0 then ((api_Field.f k l0_1 l1_1).bind fun t136 => (table_Differ.j0 k (!t136) a0_0 l0_1 l0_2 a1_0 l1_1 l1_2)) else (table_Differ.j0 k true a0_0 l0_1 l0_2 a1_0 l1_1 l1_2)) else (some (([] : List Int), t135)))) else (some (([] : List Int), t134)))) = some (r1, r2) := h
 clear h
 replace H := Option.bind_eq_some_iff.mp H
 obtain ⟨t134, A30, H⟩ := H
 replace H : (if t134 = 0 then ((table_Validate.f k a1_0 l1_1 l1_2).bind fun t135 => (if t135 = 0 then (if a0_0 = a1_0 then ((api_Field.f k l0_1 l1_1).bind fun t136 => (table_Differ.j0 k (!t136) a0_0 l0_1 l0_2 a1_0 l1_1 l1_2)) else (table_Differ.j0 k true a0_0 l0_1 l0_2 a1_0 l1_1 l1_2)) else (some (([] : List Int), t135)))) else (some (([] : List Int), t134))) = some (r1, r2) := H
 have A3 := Z0 A30
 clear A30
 by_cases c4 : t134 = 0
 ·rw [if_pos c4] at H
  have c4b0 : (t134 == 0) = true := beq_iff_eq.mpr c4
  have c4b1 : (t134 != 0) = false := bne_eq_false_iff_eq.mpr c4
  clear c4
  replace H := Option.bind_eq_some_iff.mp H
  obtain ⟨t135, A50, H⟩ := H
  replace H : (if t135 = 0 then (if a0_0 = a1_0 then ((api_Field.f k l0_1 l1_1).bind fun t136 => (table_Differ.j0 k (!t136) a0_0 l0_1 l0_2 a1_0 l1_1 l1_2)) else (table_Differ.j0 k true a0_0 l0_1 l0_2 a1_0 l1_1 l1_2)) else (some (([] : List Int), t135))) = some (r1, r2) := H
  have A5 := Z0 A50
  clear A50
  by_cases c6 : t135 = 0
  ·rw [if_pos c6] at H
   have c6b0 : (t135 == 0) = true := beq_iff_eq.mpr c6
   have c6b1 : (t135 != 0) = false := bne_eq_false_iff_eq.mpr c6
   clear c6
   have HC7 := Z0 H
   clear H
   go_enter Tryz.func39, Tryz.ntmps39
   go_upto_region 7 with (first | ((with_reducible refine Y1 (N := 2) rfl ?_); (try (refine gate_guard (by rfl) ?_; dsimp only)); refine bx (N := 2) (cs := #[.int .i64 a0_0, .slice A0_1 l0_1.length c0_1, .slice A0_2 l0_2.length c0_2]) (t := 35) ?_; intro gb132 hg w8 hbox hb; have BK132 := Z0 (hbox); have GE132 := Z0 ((by rw [hg]; exact (Z9 HB.out) : w.heap.size ≤ gb132)); replace HB := Z0 (Z4 HB.out hb); clear hb hbox hg) | ((with_reducible refine Y1 (N := 3) rfl ?_); (try (refine gate_guard (by rfl) ?_; dsimp only)); refine bx (N := 3) (cs := #[.int .i64 a1_0, .slice A1_1 l1_1.length c1_1, .slice A1_2 l1_2.length c1_2]) (t := 35) ?_; intro gb133 hg w9 hbox hb; have BK133 := Z0 (hbox); have GE133 := Z0 ((by rw [hg]; exact (Z9 HB.out) : w.heap.size ≤ gb133)); replace HB := Z0 (Z4 HB.out hb); have NB132_133 := Z0 ((by rw [hg]; exact Nat.ne_of_lt (blk_lt BK132.out) : gb132 ≠ gb133)); have NB133_132 := Z0 ((by rw [hg]; exact Nat.ne_of_gt (blk_lt BK132.out) : gb133 ≠ gb132)); replace BK132 := Z0 (Z5 BK132.out hb); clear hb hbox hg; have hnb10 := NB132_133.out; have hnc10 := NB133_132.out; obtain ⟨hcz11_0, hcz11_1, hcz11_2⟩ := bc3 BK132.out; obtain ⟨hfz11_0, hfz11_1, hfz11_2⟩ := bf3 BK132.out) | ((with_reducible refine Y2 (f := 34) rfl ?_); refine goesL_ (some 11) rfl rfl Tryz.func34 (by kernel_rfl) rfl #[.agg #[.int .i64 a0_0, .slice A0_1 l0_1.length c0_1, .slice A0_2 l0_2.length c0_2]] rfl V1 ?_; (with_reducible refine (table_Validate.calls k a0_0 _ _ l0_1 _ _ l0_2 t134 _ ?side1 ?side2 ?side3 ?side4 A3.out).mono ?_); (case side1 => repeat (first | exact (Kd.C_below HR0_1.out HB.out) | (with_reducible refine Kd.C_alloc ?_ _) | (with_reducible refine Kd.C_drewN ?_ _) | (with_reducible refine Kd.C_drew ?_))); (case side2 => exact HC0_1.out); (case side3 => repeat (first | exact (Kd.C_below HR0_2.out HB.out) | (with_reducible refine Kd.C_alloc ?_ _) | (with_reducible refine Kd.C_drewN ?_ _) | (with_reducible refine Kd.C_drew ?_))); (case side4 => exact HC0_2.out); rintro e w12 ⟨rfl, hb⟩; refine ⟨_, rfl, ?_⟩; replace BK132 := Z0 (Z5 BK132.out hb); replace BK133 := Z0 (Z5 BK133.out hb); replace HB := Z0 (Z4 HB.out hb); (try clear hb); (try clear hb2); (try clear hk); (try clear hi); obtain ⟨hcz13_0, hcz13_1, hcz13_2⟩ := bc3 BK133.out; obtain ⟨hfz13_0, hfz13_1, hfz13_2⟩ := bf3 BK133.out) | ((with_reducible refine Y2 (f := 34) rfl ?_); refine goesL_ (some 16) rfl rfl Tryz.func34 (by kernel_rfl) rfl #[.agg #[.int .i64 a1_0, .slice A1_1 l1_1.length c1_1, .slice A1_2 l1_2.length c1_2]] rfl V1 ?_; (with_reducible refine (table_Validate.calls k a1_0 _ _ l1_1 _ _ l1_2 t135 _ ?side1 ?side2 ?side3 ?side4 A5.out).mono ?_); (case side1 => repeat (first | exact (Kd.C_below HR1_1.out HB.out) | (with_reducible refine Kd.C_alloc ?_ _) | (with_reducible refine Kd.C_drewN ?_ _) | (with_reducible refine Kd.C_drew ?_))); (case side2 => exact HC1_1.out); (case side3 => repeat (first | exact (Kd.C_below HR1_2.out HB.out) | (with_reducible refine Kd.C_alloc ?_ _) | (with_reducible refine Kd.C_drewN ?_ _) | (with_reducible refine Kd.C_drew ?_))); (case side4 => exact HC1_2.out); rintro e w14 ⟨rfl, hb⟩; refine ⟨_, rfl, ?_⟩; replace BK132 := Z0 (Z5 BK132.out hb); replace BK133 := Z0 (Z5 BK133.out hb); replace HB := Z0 (Z4 HB.out hb); (try clear hb); (try clear hb2); (try clear hk); (try clear hi)))
   (try simp only [Act.put, Z1, Z2, Z3])
   go_cut [32] (fun v32 wc => ∃ (kq : Nat) (x32_6 : Bool), v32 = .bool x32_6 ∧ Aside0 (table_Differ.j0 kq x32_6 a0_0 l0_1 l0_2 a1_0 l1_1 l1_2 = some (r1, r2)) ∧ Aside0 (kq ≤ k) ∧ Aside0 (wc.heap[gb132]? = some (.cells #[.int .i64 a0_0, (.slice A0_1 l0_1.length c0_1), (.slice A0_2 l0_2.length c0_2)] 35 (0, 0))) ∧ Aside0 (wc.heap[gb133]? = some (.cells #[.int .i64 a1_0, (.slice A1_1 l1_1.length c1_1), (.slice A1_2 l1_2.length c1_2)] 35 (0, 0))) ∧ Aside0 (Below w.heap.size w wc))
   case first =>
    have H := HC7.out
    clear HC7
    by_cases c15 : a0_0 = a1_0
    ·rw [if_pos c15] at H
     have c15b0 : (a0_0 == a1_0) = true := beq_iff_eq.mpr c15
     have c15b1 : (a0_0 != a1_0) = false := bne_eq_false_iff_eq.mpr c15
     clear c15
     (first | rw [c15b0] | (simp only [Y4, Y5]; rw [c15b0]) | skip)
     replace H := Option.bind_eq_some_iff.mp H
     obtain ⟨t136, A160, H⟩ := H
     replace H : (table_Differ.j0 k (!t136) a0_0 l0_1 l0_2 a1_0 l1_1 l1_2) = some (r1, r2) := H
     have A16 := Z0 A160
     clear A160
     have H' := Z0 H
     clear H
     have hnb17 := NB132_133.out
     have hnc17 := NB133_132.out
     obtain ⟨hcz18_0, hcz18_1, hcz18_2⟩ := bc3 BK132.out
     obtain ⟨hfz18_0, hfz18_1, hfz18_2⟩ := bf3 BK132.out
     obtain ⟨hcz19_0, hcz19_1, hcz19_2⟩ := bc3 BK133.out
     obtain ⟨hfz19_0, hfz19_1, hfz19_2⟩ := bf3 BK133.out
     go_wp2_with (first | (go_at_call 77; (with_reducible refine (api_Field.calls k _ _ l0_1 _ _ l1_1 t136 _ ?side1 ?side2 ?side3 ?side4 A16.out).mono ?_); (case side1 => repeat (first | exact (Kd.C_below HR0_1.out HB.out) | (with_reducible refine Kd.C_alloc ?_ _) | (with_reducible refine Kd.C_drewN ?_ _) | (with_reducible refine Kd.C_drew ?_))); (case side2 => exact HC0_1.out); (case side3 => repeat (first | exact (Kd.C_below HR1_1.out HB.out) | (with_reducible refine Kd.C_alloc ?_ _) | (with_reducible refine Kd.C_drewN ?_ _) | (with_reducible refine Kd.C_drew ?_))); (case side4 => exact HC1_1.out); rintro e w' ⟨rfl, ⟨nd, rfl⟩⟩))
     go_meet
     case rel => exact ⟨_, (!t136), V2, H', ⟨by first | omega | exact Nat.le_refl _⟩, ⟨by (with_reducible repeat (first | refine Z6 ?_ _ | refine Z8 ?_ | refine Z7 ?_ _)); exact BK132.out⟩, ⟨by (with_reducible repeat (first | refine Z6 ?_ _ | refine Z8 ?_ | refine Z7 ?_ _)); exact BK133.out⟩, ⟨V0⟩⟩
    ·rw [if_neg c15] at H
     have c15b0 : (a0_0 == a1_0) = false := beq_eq_false_iff_ne.mpr c15
     have c15b1 : (a0_0 != a1_0) = true := bne_iff_ne.mpr c15
     (first | rw [c15b0] | (simp only [Y4, Y5]; rw [c15b0]) | skip)
     have H' := Z0 H
     clear H
     have hnb20 := NB132_133.out
     have hnc20 := NB133_132.out
     obtain ⟨hcz21_0, hcz21_1, hcz21_2⟩ := bc3 BK132.out
     obtain ⟨hfz21_0, hfz21_1, hfz21_2⟩ := bf3 BK132.out
     obtain ⟨hcz22_0, hcz22_1, hcz22_2⟩ := bc3 BK133.out
     obtain ⟨hfz22_0, hfz22_1, hfz22_2⟩ := bf3 BK133.out
     go_wp2
     go_meet
     case rel => exact ⟨_, (true), V2, H', ⟨by first | omega | exact Nat.le_refl _⟩, ⟨by (with_reducible repeat (first | refine Z6 ?_ _ | refine Z8 ?_ | refine Z7 ?_ _)); exact BK132.out⟩, ⟨by (with_reducible repeat (first | refine Z6 ?_ _ | refine Z8 ?_ | refine Z7 ?_ _)); exact BK133.out⟩, ⟨V0⟩⟩
   case rest =>
    clear HC7
    (try clear c1);(try clear c2);(try clear p2);(try clear c3);(try clear c4);(try clear c4b0);(try clear c4b1);(try clear c6);(try clear c6b0);(try clear c6b1);(try clear c10);(try clear c15);(try clear c15b0);(try clear c15b1);(try clear c17);(try clear c20);(try clear hcz11_0);(try clear hcz11_1);(try clear hcz11_2);(try clear hcz13_0);(try clear hcz13_1);(try clear hcz13_2);(try clear hcz18_0);(try clear hcz18_1);(try clear hcz18_2);(try clear hcz19_0);(try clear hcz19_1);(try clear hcz19_2);(try clear hcz21_0);(try clear hcz21_1);(try clear hcz21_2);(try clear hcz22_0);(try clear hcz22_1);(try clear hcz22_2);(try clear hfz11_0);(try clear hfz11_1);(try clear hfz11_2);(try clear hfz13_0);(try clear hfz13_1);(try clear hfz13_2);(try clear hfz18_0);(try clear hfz18_1);(try clear hfz18_2);(try clear hfz19_0);(try clear hfz19_1);(try clear hfz19_2);(try clear hfz21_0);(try clear hfz21_1);(try clear hfz21_2);(try clear hfz22_0);(try clear hfz22_1);(try clear hfz22_2)
    obtain ⟨kq, x32_6, rfl, HA, HJ6, BK132, BK133, HB⟩ := hcut
    cases kq with
    | zero => exact absurd HA.out (by simp [table_Differ.j0])
    | succ kj6 =>
     have H := HA.out
     clear HA
     simp only [table_Differ.j0] at H
     by_cases c23 : x32_6 = true
     ·subst c23
      have H1 : (some (([] : List Int), 10)) = some (r1, r2) := by rw [if_pos rfl] at H; exact H
      clear H
      have H := H1
      clear H1
      simp only [Option.some.injEq, Prod.mk.injEq] at H
      obtain ⟨rfl, rfl⟩ := H
      go_wp2
      go_ret2
      exact ⟨_, rfl, by first | exact Kd.R_nil _ _ _ _ _ | exact Kd.N_nil _ _ _ _ _ | exact Kd.V_nil _ _ _ _ _ | exact Kd.Q_nil _ _ _ _ _ | exact Kd.S_nil _ _ _ _ _, V0⟩
     ·replace c23 := Bool.eq_false_iff.mpr c23
      subst c23
      have H1 : (table_Differ.l0 kj6 ([] : List Int) (mx (l0_2.length : Int) (l1_2.length : Int)) 0 a0_0 l0_1 l0_2 a1_0 l1_1 l1_2) = some (r1, r2) := by rw [if_neg (show ¬ (false = true) by decide)] at H; exact H
      clear H
      have H := H1
      clear H1
      obtain ⟨ji24, hji24⟩ : ∃ j_ : Int, (mx (l0_2.length : Int) (l1_2.length : Int)) = j_ := ⟨_, rfl⟩
      replace H : (table_Differ.l0 kj6 ([] : List Int) ji24 0 a0_0 l0_1 l0_2 a1_0 l1_1 l1_2) = some (r1, r2) := by first | (rw [hji24] at H; exact H) | (simp only [hji24] at H ⊢; exact H)
      have hji24_ : (if (l0_2.length : Int) < (l1_2.length : Int) then (l1_2.length : Int) else (l0_2.length : Int)) = ji24 := hji24
      have hji24n : (if l0_2.length < l1_2.length then (l1_2.length : Int) else (l0_2.length : Int)) = ji24 := by rw [← hji24_]; by_cases h_ : l0_2.length < l1_2.length <;> simp [h_]
      have H' := Z0 H
      clear H
      have hnb25 := NB132_133.out
      have hnc25 := NB133_132.out
      obtain ⟨hcz26_0, hcz26_1, hcz26_2⟩ := bc3 BK132.out
      obtain ⟨hfz26_0, hfz26_1, hfz26_2⟩ := bf3 BK132.out
      obtain ⟨hcz27_0, hcz27_1, hcz27_2⟩ := bc3 BK133.out
      obtain ⟨hfz27_0, hfz27_1, hfz27_2⟩ := bf3 BK133.out
      go_wp2
      go_loopg [8, 40] kj6 (fun kq v8 v40 w' => ∃ (x8_2 : List Int) (x40_2 : Int), v40 = .int .i64 x40_2 ∧ Aside0 (table_Differ.l0 kq x8_2 ji24 x40_2 a0_0 l0_1 l0_2 a1_0 l1_1 l1_2 = some (r1, r2)) ∧ Aside0 (kq ≤ kj6) ∧ Aside0 (Kd.R (Kd.int .i64) 3 w' w.heap.size (fun _ => True) v8 x8_2) ∧ Aside0 (w'.heap[gb132]? = some (.cells #[.int .i64 a0_0, (.slice A0_1 l0_1.length c0_1), (.slice A0_2 l0_2.length c0_2)] 35 (0, 0))) ∧ Aside0 (w'.heap[gb133]? = some (.cells #[.int .i64 a1_0, (.slice A1_1 l1_1.length c1_1), (.slice A1_2 l1_2.length c1_2)] 35 (0, 0))) ∧ Aside0 (Below w.heap.size w w'))
      case atStart => exact ⟨(([] : List Int)), (0), V2, H', ⟨Nat.le_refl _⟩, ⟨by first | exact Kd.R_nil _ _ _ _ _ | exact Kd.N_nil _ _ _ _ _ | exact Kd.V_nil _ _ _ _ _ | exact Kd.Q_nil _ _ _ _ _ | exact Kd.S_nil _ _ _ _ _⟩, ⟨by (with_reducible repeat (first | refine Z6 ?_ _ | refine Z8 ?_ | refine Z7 ?_ _)); exact BK132.out⟩, ⟨by (with_reducible repeat (first | refine Z6 ?_ _ | refine Z8 ?_ | refine Z7 ?_ _)); exact BK133.out⟩, ⟨V0⟩⟩
      case round =>
       clear H'
       (try clear c1);(try clear c2);(try clear p2);(try clear c3);(try clear c4);(try clear c4b0);(try clear c4b1);(try clear c6);(try clear c6b0);(try clear c6b1);(try clear c10);(try clear c15);(try clear c15b0);(try clear c15b1);(try clear c17);(try clear c20);(try clear c23);(try clear c25);(try clear hcz11_0);(try clear hcz11_1);(try clear hcz11_2);(try clear hcz13_0);(try clear hcz13_1);(try clear hcz13_2);(try clear hcz18_0);(try clear hcz18_1);(try clear hcz18_2);(try clear hcz19_0);(try clear hcz19_1);(try clear hcz19_2);(try clear hcz21_0);(try clear hcz21_1);(try clear hcz21_2);(try clear hcz22_0);(try clear hcz22_1);(try clear hcz22_2);(try clear hcz26_0);(try clear hcz26_1);(try clear hcz26_2);(try clear hcz27_0);(try clear hcz27_1);(try clear hcz27_2);(try clear hfz11_0);(try clear hfz11_1);(try clear hfz11_2);(try clear hfz13_0);(try clear hfz13_1);(try clear hfz13_2);(try clear hfz18_0);(try clear hfz18_1);(try clear hfz18_2);(try clear hfz19_0);(try clear hfz19_1);(try clear hfz19_2);(try clear hfz21_0);(try clear hfz21_1);(try clear hfz21_2);(try clear hfz22_0);(try clear hfz22_1);(try clear hfz22_2);(try clear hfz26_0);(try clear hfz26_1);(try clear hfz26_2);(try clear hfz27_0);(try clear hfz27_1);(try clear hfz27_2);(try clear p2)
       obtain ⟨x8_2, x40_2, rfl, HA, HK2, HO_8, BK132, BK133, HB⟩ := hrel
       cases gk with
       | zero => exact absurd HA.out (by simp [table_Differ.l0])
       | succ k2 =>
        have H := HA.out
        clear HA
        simp only [table_Differ.l0] at H
        by_cases c28 : x40_2 < ji24
        ·rw [if_pos c28] at H
         have c28b0 : decide (x40_2 < ji24) = true := decide_eq_true c28
         clear c28
         have HC29 := Z0 H
         clear H
         go_upto_region 13 with (fail)
         go_cut [85] (fun v85 wc => ∃ (kq : Nat) (x85_28 : Bool), v85 = .bool x85_28 ∧ Aside0 (table_Differ.j2 kq x8_2 x40_2 ji24 x40_2 x85_28 a0_0 l0_1 l0_2 a1_0 l1_1 l1_2 = some (r1, r2)) ∧ Aside0 (kq ≤ k2) ∧ Aside0 (Kd.R (Kd.int .i64) 3 wc w.heap.size (fun _ => True) u8 x8_2) ∧ Aside0 (wc.heap[gb132]? = some (.cells #[.int .i64 a0_0, (.slice A0_1 l0_1.length c0_1), (.slice A0_2 l0_2.length c0_2)] 35 (0, 0))) ∧ Aside0 (wc.heap[gb133]? = some (.cells #[.int .i64 a1_0, (.slice A1_1 l1_1.length c1_1), (.slice A1_2 l1_2.length c1_2)] 35 (0, 0))) ∧ Aside0 (Below w.heap.size w wc))
         case first =>
          have H := HC29.out
          clear HC29
          by_cases c30 : x40_2 ≥ (l0_2.length : Int)
          ·rw [if_pos c30] at H
           have c30b0 : decide ((l0_2.length : Int) ≤ x40_2) = true := decide_eq_true c30
           clear c30
           (first | rw [c30b0] | (simp only [Y4, Y5]; rw [c30b0]) | skip)
           have H' := Z0 H
           clear H
           try go_wp2
           have n0_ := Z0 (Kd.R_drew HO_8.out)
           have n1_ := Z0 (Z8 BK132.out)
           have n2_ := Z0 (Z8 BK133.out)
           have n3_ := Z0 (below_drew1 HB.out)
           clear HO_8
           clear BK132
           clear BK133
           clear HB
           have HO_8 := n0_
           have BK132 := n1_
           have BK133 := n2_
           have HB := n3_
           clear n0_ n1_ n2_ n3_
           refine start_ (n := 43) (S := fun w' => w'.cell? ⟨gb132, 0, none⟩ = some (.int .i64 a0_0) ∧ w'.cell? ⟨gb132, 1, none⟩ = some (.slice A0_1 l0_1.length c0_1) ∧ w'.cell? ⟨gb132, 2, none⟩ = some (.slice A0_2 l0_2.length c0_2)) (ds := []) (bs 43 0) (by kernel_rfl) rfl rfl ⟨(Y0 BK132.out 0).trans rfl, (Y0 BK132.out 1).trans rfl, (Y0 BK132.out 2).trans rfl⟩ (fun hHeld => ?_); refine with_tabW table_Differ.tab13 table_Differ.bits13 (fun HT_ HW_ => ?_)
           generalize wr.drew = w31 at HO_8 BK132 BK133 HB hHeld ⊢
           refine Y8 (i := 0) (N := some 43) (v := ?_) (a' := ?_) (bs 43 1) rfl rfl (Y3 HT_.out (by kernel_rfl)) (fun _ _ _ h => h) (Or.inl ⟨by rfl, ?_⟩) ?_ ?_
           rotate_left
           ·intro w'
            go_simp
            with_reducible rfl
           rotate_left
           ·simp only [Act.put, Z1, Z2, Z3, Y4, Y5]
            rfl
           refine Y8 (i := 1) (N := some 44) (v := ?_) (a' := ?_) (bs 43 3) rfl rfl (Y3 HT_.out (by kernel_rfl)) (fun _ _ _ h => h) (Or.inl ⟨by rfl, ?_⟩) ?_ ?_
           rotate_left
           ·intro w'
            go_simp
            with_reducible rfl
           rotate_left
           ·simp only [Act.put, Z1, Z2, Z3, Y4, Y5]
            rfl
           refine take_ (i := 2) (N := some 45) (v := ?_) (a' := ?_) (bs 43 7) rfl rfl (take_ofW HT_.out HW_.out (by kernel_rfl)) (fun _ _ _ h => h) (Or.inl ⟨by rfl, ?_⟩) hHeld ?_ ?_
           rotate_left
           ·rintro w' ⟨s0, s1, s2⟩
            go_simp
            with_reducible rfl
           rotate_left
           ·simp only [Act.put, Z1, Z2, Z3, Y4, Y5]
            rfl
           refine Y8 (i := 3) (N := some 46) (v := ?_) (a' := ?_) (bs 43 15) rfl rfl (Y3 HT_.out (by kernel_rfl)) (fun _ _ _ h => h) (Or.inl ⟨by rfl, ?_⟩) ?_ ?_
           rotate_left
           ·intro w'
            go_simp
            with_reducible rfl
           rotate_left
           ·simp only [Act.put, Z1, Z2, Z3, Y4, Y5]
            rfl
           refine Y8 (i := 4) (N := some 47) (v := ?_) (a' := ?_) (bs 43 31) rfl rfl (Y3 HT_.out (by kernel_rfl)) (fun _ _ _ h => h) (Or.inl ⟨by rfl, ?_⟩) ?_ ?_
           rotate_left
           ·intro w'
            go_simp
            with_reducible rfl
           rotate_left
           ·simp only [Act.put, Z1, Z2, Z3, Y4, Y5]
            rfl
           refine Y8 (i := 5) (N := some 48) (v := ?_) (a' := ?_) (bs 43 63) rfl rfl (Y3 HT_.out (by kernel_rfl)) (fun _ _ _ h => h) (Or.inl ⟨by rfl, ?_⟩) ?_ ?_
           rotate_left
           ·intro w'
            go_simp
            with_reducible rfl
           rotate_left
           ·simp only [Act.put, Z1, Z2, Z3, Y4, Y5]
            rfl
           refine Y8 (i := 6) (N := some 49) (v := undef) (a' := ?_) (bs 43 127) rfl rfl (Y3 HT_.out (by kernel_rfl)) (fun _ _ _ h => h) (Or.inr ⟨by rfl, rfl⟩) ?_ ?_
           rotate_left
           ·simp only [Act.put, Z1, Z2, Z3, Y4, Y5]
            rfl
           refine Y8 (i := 7) (N := some 50) (v := undef) (a' := ?_) (bs 43 255) rfl rfl (Y3 HT_.out (by kernel_rfl)) (fun _ _ _ h => h) (Or.inr ⟨by rfl, rfl⟩) ?_ ?_
           rotate_left
           ·simp only [Act.put, Z1, Z2, Z3, Y4, Y5]
            rfl
           refine Y8 (i := 8) (N := some 51) (v := undef) (a' := ?_) (bs 43 511) rfl rfl (Y3 HT_.out (by kernel_rfl)) (fun _ _ _ h => h) (Or.inr ⟨by rfl, rfl⟩) ?_ ?_
           rotate_left
           ·simp only [Act.put, Z1, Z2, Z3, Y4, Y5]
            rfl
           refine Y8 (i := 9) (N := some 52) (v := undef) (a' := ?_) (bs 43 1023) rfl rfl (Y3 HT_.out (by kernel_rfl)) (fun _ _ _ h => h) (Or.inr ⟨by rfl, rfl⟩) ?_ ?_
           rotate_left
           ·simp only [Act.put, Z1, Z2, Z3, Y4, Y5]
            rfl
           refine Y8 (i := 10) (N := some 53) (v := undef) (a' := ?_) (bs 43 2047) rfl rfl (Y3 HT_.out (by kernel_rfl)) (fun _ _ _ h => h) (Or.inr ⟨by rfl, rfl⟩) ?_ ?_
           rotate_left
           ·simp only [Act.put, Z1, Z2, Z3, Y4, Y5]
            rfl
           refine Y8 (i := 11) (N := some 54) (v := ?_) (a' := ?_) (bs 43 4095) rfl rfl (Y3 HT_.out (by kernel_rfl)) (fun _ _ _ h => h) (Or.inl ⟨by rfl, ?_⟩) ?_ ?_
           rotate_left
           ·intro w'
            go_simp
            with_reducible rfl
           rotate_left
           ·simp only [Act.put, Z1, Z2, Z3, Y4, Y5]
            rfl
           refine Y8 (i := 12) (N := some 55) (v := ?_) (a' := ?_) (bs 43 8191) rfl rfl (Y3 HT_.out (by kernel_rfl)) (fun _ _ _ h => h) (Or.inl ⟨by rfl, ?_⟩) ?_ ?_
           rotate_left
           ·intro w'
            go_simp
            with_reducible rfl
           rotate_left
           ·simp only [Act.put, Z1, Z2, Z3, Y4, Y5]
            rfl
           refine Y8 (i := 13) (N := some 56) (v := undef) (a' := ?_) (bs 43 16383) rfl rfl (Y3 HT_.out (by kernel_rfl)) (fun _ _ _ h => h) (Or.inr ⟨by rfl, rfl⟩) ?_ ?_
           rotate_left
           ·simp only [Act.put, Z1, Z2, Z3, Y4, Y5]
            rfl
           refine Y8 (i := 14) (N := some 57) (v := undef) (a' := ?_) (bs 43 32767) rfl rfl (Y3 HT_.out (by kernel_rfl)) (fun _ _ _ h => h) (Or.inr ⟨by rfl, rfl⟩) ?_ ?_
           rotate_left
           ·simp only [Act.put, Z1, Z2, Z3, Y4, Y5]
            rfl
           refine Y8 (i := 15) (N := some 58) (v := undef) (a' := ?_) (bs 43 65535) rfl rfl (Y3 HT_.out (by kernel_rfl)) (fun _ _ _ h => h) (Or.inr ⟨by rfl, rfl⟩) ?_ ?_
           rotate_left
           ·simp only [Act.put, Z1, Z2, Z3, Y4, Y5]
            rfl
           refine Y8 (i := 16) (N := some 59) (v := undef) (a' := ?_) (bs 43 131071) rfl rfl (Y3 HT_.out (by kernel_rfl)) (fun _ _ _ h => h) (Or.inr ⟨by rfl, rfl⟩) ?_ ?_
           rotate_left
           ·simp only [Act.put, Z1, Z2, Z3, Y4, Y5]
            rfl
           refine Y8 (i := 17) (N := some 60) (v := undef) (a' := ?_) (bs 43 262143) rfl rfl (Y3 HT_.out (by kernel_rfl)) (fun _ _ _ h => h) (Or.inr ⟨by rfl, rfl⟩) ?_ ?_
           rotate_left
           ·simp only [Act.put, Z1, Z2, Z3, Y4, Y5]
            rfl
           refine Y8 (i := 18) (N := some 61) (v := undef) (a' := ?_) (bs 43 524287) rfl rfl (Y3 HT_.out (by kernel_rfl)) (fun _ _ _ h => h) (Or.inr ⟨by rfl, rfl⟩) ?_ ?_
           rotate_left
           ·simp only [Act.put, Z1, Z2, Z3, Y4, Y5]
            rfl
           refine Y8 (i := 19) (N := some 62) (v := undef) (a' := ?_) (bs 43 1048575) rfl rfl (Y3 HT_.out (by kernel_rfl)) (fun _ _ _ h => h) (Or.inr ⟨by rfl, rfl⟩) ?_ ?_
           rotate_left
           ·simp only [Act.put, Z1, Z2, Z3, Y4, Y5]
            rfl
           refine Y8 (i := 20) (N := some 63) (v := undef) (a' := ?_) (bs 43 2097151) rfl rfl (Y3 HT_.out (by kernel_rfl)) (fun _ _ _ h => h) (Or.inr ⟨by rfl, rfl⟩) ?_ ?_
           rotate_left
           ·simp only [Act.put, Z1, Z2, Z3, Y4, Y5]
            rfl
           refine Y8 (i := 21) (N := some 64) (v := undef) (a' := ?_) (bs 43 4194303) rfl rfl (Y3 HT_.out (by kernel_rfl)) (fun _ _ _ h => h) (Or.inr ⟨by rfl, rfl⟩) ?_ ?_
           rotate_left
           ·simp only [Act.put, Z1, Z2, Z3, Y4, Y5]
            rfl
           refine Y8 (i := 22) (N := some 65) (v := undef) (a' := ?_) (bs 43 8388607) rfl rfl (Y3 HT_.out (by kernel_rfl)) (fun _ _ _ h => h) (Or.inr ⟨by rfl, rfl⟩) ?_ ?_
           rotate_left
           ·simp only [Act.put, Z1, Z2, Z3, Y4, Y5]
            rfl
           refine Y8 (i := 23) (N := some 66) (v := undef) (a' := ?_) (bs 43 16777215) rfl rfl (Y3 HT_.out (by kernel_rfl)) (fun _ _ _ h => h) (Or.inr ⟨by rfl, rfl⟩) ?_ ?_
           rotate_left
           ·simp only [Act.put, Z1, Z2, Z3, Y4, Y5]
            rfl
           refine Y8 (i := 24) (N := some 67) (v := undef) (a' := ?_) (bs 43 33554431) rfl rfl (Y3 HT_.out (by kernel_rfl)) (fun _ _ _ h => h) (Or.inr ⟨by rfl, rfl⟩) ?_ ?_
           rotate_left
           ·simp only [Act.put, Z1, Z2, Z3, Y4, Y5]
            rfl
           refine Y8 (i := 25) (N := some 68) (v := undef) (a' := ?_) (bs 43 67108863) rfl rfl (Y3 HT_.out (by kernel_rfl)) (fun _ _ _ h => h) (Or.inr ⟨by rfl, rfl⟩) ?_ ?_
           rotate_left
           ·simp only [Act.put, Z1, Z2, Z3, Y4, Y5]
            rfl
           refine Y8 (i := 26) (N := some 69) (v := ?_) (a' := ?_) (bs 43 134217727) rfl rfl (Y3 HT_.out (by kernel_rfl)) (fun _ _ _ h => h) (Or.inl ⟨by rfl, ?_⟩) ?_ ?_
           rotate_left
           ·intro w'
            go_simp
            with_reducible rfl
           rotate_left
           ·simp only [Act.put, Z1, Z2, Z3, Y4, Y5]
            rfl
           refine Y8 (i := 27) (N := some 70) (v := ?_) (a' := ?_) (bs 43 268435455) rfl rfl (Y3 HT_.out (by kernel_rfl)) (fun _ _ _ h => h) (Or.inl ⟨by rfl, ?_⟩) ?_ ?_
           rotate_left
           ·intro w'
            go_simp
            with_reducible rfl
           rotate_left
           ·simp only [Act.put, Z1, Z2, Z3, Y4, Y5]
            rfl
           refine Y8 (i := 28) (N := some 71) (v := undef) (a' := ?_) (bs 43 536870911) rfl rfl (Y3 HT_.out (by kernel_rfl)) (fun _ _ _ h => h) (Or.inr ⟨by rfl, rfl⟩) ?_ ?_
           rotate_left
           ·simp only [Act.put, Z1, Z2, Z3, Y4, Y5]
            rfl
           refine Y8 (i := 29) (N := some 72) (v := undef) (a' := ?_) (bs 43 1073741823) rfl rfl (Y3 HT_.out (by kernel_rfl)) (fun _ _ _ h => h) (Or.inr ⟨by rfl, rfl⟩) ?_ ?_
           rotate_left
           ·simp only [Act.put, Z1, Z2, Z3, Y4, Y5]
            rfl
           refine Y8 (i := 30) (N := some 73) (v := undef) (a' := ?_) (bs 43 2147483647) rfl rfl (Y3 HT_.out (by kernel_rfl)) (fun _ _ _ h => h) (Or.inr ⟨by rfl, rfl⟩) ?_ ?_
           rotate_left
           ·simp only [Act.put, Z1, Z2, Z3, Y4, Y5]
            rfl
           refine Y8 (i := 31) (N := some 74) (v := undef) (a' := ?_) (bs 43 4294967295) rfl rfl (Y3 HT_.out (by kernel_rfl)) (fun _ _ _ h => h) (Or.inr ⟨by rfl, rfl⟩) ?_ ?_
           rotate_left
           ·simp only [Act.put, Z1, Z2, Z3, Y4, Y5]
            rfl
           refine Y8 (i := 32) (N := some 75) (v := undef) (a' := ?_) (bs 43 8589934591) rfl rfl (Y3 HT_.out (by kernel_rfl)) (fun _ _ _ h => h) (Or.inr ⟨by rfl, rfl⟩) ?_ ?_
           rotate_left
           ·simp only [Act.put, Z1, Z2, Z3, Y4, Y5]
            rfl
           refine Y8 (i := 33) (N := some 76) (v := undef) (a' := ?_) (bs 43 17179869183) rfl rfl (Y3 HT_.out (by kernel_rfl)) (fun _ _ _ h => h) (Or.inr ⟨by rfl, rfl⟩) ?_ ?_
           rotate_left
           ·simp only [Act.put, Z1, Z2, Z3, Y4, Y5]
            rfl
           refine Y8 (i := 34) (N := some 77) (v := undef) (a' := ?_) (bs 43 34359738367) rfl rfl (Y3 HT_.out (by kernel_rfl)) (fun _ _ _ h => h) (Or.inr ⟨by rfl, rfl⟩) ?_ ?_
           rotate_left
           ·simp only [Act.put, Z1, Z2, Z3, Y4, Y5]
            rfl
           refine Y8 (i := 35) (N := some 78) (v := undef) (a' := ?_) (bs 43 68719476735) rfl rfl (Y3 HT_.out (by kernel_rfl)) (fun _ _ _ h => h) (Or.inr ⟨by rfl, rfl⟩) ?_ ?_
           rotate_left
           ·simp only [Act.put, Z1, Z2, Z3, Y4, Y5]
            rfl
           refine Y8 (i := 36) (N := some 79) (v := undef) (a' := ?_) (bs 43 137438953471) rfl rfl (Y3 HT_.out (by kernel_rfl)) (fun _ _ _ h => h) (Or.inr ⟨by rfl, rfl⟩) ?_ ?_
           rotate_left
           ·simp only [Act.put, Z1, Z2, Z3, Y4, Y5]
            rfl
           refine Y8 (i := 37) (N := some 80) (v := undef) (a' := ?_) (bs 43 274877906943) rfl rfl (Y3 HT_.out (by kernel_rfl)) (fun _ _ _ h => h) (Or.inr ⟨by rfl, rfl⟩) ?_ ?_
           rotate_left
           ·simp only [Act.put, Z1, Z2, Z3, Y4, Y5]
            rfl
           refine Y8 (i := 38) (N := some 81) (v := undef) (a' := ?_) (bs 43 549755813887) rfl rfl (Y3 HT_.out (by kernel_rfl)) (fun _ _ _ h => h) (Or.inr ⟨by rfl, rfl⟩) ?_ ?_
           rotate_left
           ·simp only [Act.put, Z1, Z2, Z3, Y4, Y5]
            rfl
           refine Y8 (i := 39) (N := some 82) (v := undef) (a' := ?_) (bs 43 1099511627775) rfl rfl (Y3 HT_.out (by kernel_rfl)) (fun _ _ _ h => h) (Or.inr ⟨by rfl, rfl⟩) ?_ ?_
           rotate_left
           ·simp only [Act.put, Z1, Z2, Z3, Y4, Y5]
            rfl
           refine Y8 (i := 40) (N := some 83) (v := undef) (a' := ?_) (bs 43 2199023255551) rfl rfl (Y3 HT_.out (by kernel_rfl)) (fun _ _ _ h => h) (Or.inr ⟨by rfl, rfl⟩) ?_ ?_
           rotate_left
           ·simp only [Act.put, Z1, Z2, Z3, Y4, Y5]
            rfl
           refine Y8 (i := 41) (N := some 84) (v := undef) (a' := ?_) (bs 43 4398046511103) rfl rfl (Y3 HT_.out (by kernel_rfl)) (fun _ _ _ h => h) (Or.inr ⟨by rfl, rfl⟩) ?_ ?_
           rotate_left
           ·simp only [Act.put, Z1, Z2, Z3, Y4, Y5]
            rfl
           refine Y8 (i := 42) (N := some 85) (v := ?_) (a' := ?_) (bs 43 8796093022207) rfl rfl (Y3 HT_.out (by kernel_rfl)) (fun _ _ _ h => h) (Or.inl ⟨by rfl, ?_⟩) ?_ ?_
           rotate_left
           ·intro w'
            go_simp
            with_reducible rfl
           rotate_left
           ·simp only [Act.put, Z1, Z2, Z3, Y4, Y5]
            rfl
           refine done_ (done_of HT_.out (by kernel_rfl)) ?_
           try go_wp2
           go_meet
           case rel => exact ⟨_, (true), V2, H', ⟨by have := HJ6.out; have := HK2.out; first | omega | exact Nat.le_refl _⟩, ⟨by (with_reducible repeat (first | apply Kd.R_alloc | apply Kd.R_drewN | apply Kd.R_drew)); exact HO_8.out⟩, ⟨by (with_reducible repeat (first | refine Z6 ?_ _ | refine Z8 ?_ | refine Z7 ?_ _)); exact BK132.out⟩, ⟨by (with_reducible repeat (first | refine Z6 ?_ _ | refine Z8 ?_ | refine Z7 ?_ _)); exact BK133.out⟩, ⟨V0⟩⟩
          ·rw [if_neg c30] at H
           have c30b0 : decide ((l0_2.length : Int) ≤ x40_2) = false := decide_eq_false c30
           clear c30
           (first | rw [c30b0] | (simp only [Y4, Y5]; rw [c30b0]) | skip)
           by_cases c32 : x40_2 ≥ (l1_2.length : Int)
           ·rw [if_pos c32] at H
            have c32b0 : decide ((l1_2.length : Int) ≤ x40_2) = true := decide_eq_true c32
            clear c32
            have H' := Z0 H
            clear H
            try go_wp2
            have n0_ := Z0 (Kd.R_drew HO_8.out)
            have n1_ := Z0 (Z8 BK132.out)
            have n2_ := Z0 (Z8 BK133.out)
            have n3_ := Z0 (below_drew1 HB.out)
            clear HO_8
            clear BK132
            clear BK133
            clear HB
            have HO_8 := n0_
            have BK132 := n1_
            have BK133 := n2_
            have HB := n3_
            clear n0_ n1_ n2_ n3_
            refine start_ (n := 43) (S := fun w' => w'.cell? ⟨gb132, 0, none⟩ = some (.int .i64 a0_0) ∧ w'.cell? ⟨gb132, 1, none⟩ = some (.slice A0_1 l0_1.length c0_1) ∧ w'.cell? ⟨gb132, 2, none⟩ = some (.slice A0_2 l0_2.length c0_2) ∧ w'.cell? ⟨gb133, 0, none⟩ = some (.int .i64 a1_0) ∧ w'.cell? ⟨gb133, 1, none⟩ = some (.slice A1_1 l1_1.length c1_1) ∧ w'.cell? ⟨gb133, 2, none⟩ = some (.slice A1_2 l1_2.length c1_2)) (ds := []) (bs 43 0) (by kernel_rfl) rfl rfl ⟨(Y0 BK132.out 0).trans rfl, (Y0 BK132.out 1).trans rfl, (Y0 BK132.out 2).trans rfl, (Y0 BK133.out 0).trans rfl, (Y0 BK133.out 1).trans rfl, (Y0 BK133.out 2).trans rfl⟩ (fun hHeld => ?_); refine with_tabW table_Differ.tab13 table_Differ.bits13 (fun HT_ HW_ => ?_)
            generalize wr.drew = w33 at HO_8 BK132 BK133 HB hHeld ⊢
            refine Y8 (i := 0) (N := some 43) (v := ?_) (a' := ?_) (bs 43 1) rfl rfl (Y3 HT_.out (by kernel_rfl)) (fun _ _ _ h => h) (Or.inl ⟨by rfl, ?_⟩) ?_ ?_
            rotate_left
            ·intro w'
             go_simp
             with_reducible rfl
            rotate_left
            ·simp only [Act.put, Z1, Z2, Z3, Y4, Y5]
             rfl
            refine Y8 (i := 1) (N := some 44) (v := ?_) (a' := ?_) (bs 43 3) rfl rfl (Y3 HT_.out (by kernel_rfl)) (fun _ _ _ h => h) (Or.inl ⟨by rfl, ?_⟩) ?_ ?_
            rotate_left
            ·intro w'
             go_simp
             with_reducible rfl
            rotate_left
            ·simp only [Act.put, Z1, Z2, Z3, Y4, Y5]
             rfl
            refine take_ (i := 2) (N := some 45) (v := ?_) (a' := ?_) (bs 43 7) rfl rfl (take_ofW HT_.out HW_.out (by kernel_rfl)) (fun _ _ _ h => h) (Or.inl ⟨by rfl, ?_⟩) hHeld ?_ ?_
            rotate_left
            ·rintro w' ⟨s0, s1, s2, s3, s4, s5⟩
             go_simp
             with_reducible rfl
            rotate_left
            ·simp only [Act.put, Z1, Z2, Z3, Y4, Y5]
             rfl
            refine Y8 (i := 3) (N := some 46) (v := ?_) (a' := ?_) (bs 43 15) rfl rfl (Y3 HT_.out (by kernel_rfl)) (fun _ _ _ h => h) (Or.inl ⟨by rfl, ?_⟩) ?_ ?_
            rotate_left
            ·intro w'
             go_simp
             with_reducible rfl
            rotate_left
            ·simp only [Act.put, Z1, Z2, Z3, Y4, Y5]
             rfl
            refine Y8 (i := 4) (N := some 47) (v := ?_) (a' := ?_) (bs 43 31) rfl rfl (Y3 HT_.out (by kernel_rfl)) (fun _ _ _ h => h) (Or.inl ⟨by rfl, ?_⟩) ?_ ?_
            rotate_left
            ·intro w'
             go_simp
             with_reducible rfl
            rotate_left
            ·simp only [Act.put, Z1, Z2, Z3, Y4, Y5]
             rfl
            refine Y8 (i := 5) (N := some 48) (v := ?_) (a' := ?_) (bs 43 63) rfl rfl (Y3 HT_.out (by kernel_rfl)) (fun _ _ _ h => h) (Or.inl ⟨by rfl, ?_⟩) ?_ ?_
            rotate_left
            ·intro w'
             go_simp
             with_reducible rfl
            rotate_left
            ·simp only [Act.put, Z1, Z2, Z3, Y4, Y5]
             rfl
            refine Y8 (i := 6) (N := some 49) (v := ?_) (a' := ?_) (bs 43 127) rfl rfl (Y3 HT_.out (by kernel_rfl)) (fun _ _ _ h => h) (Or.inl ⟨by rfl, ?_⟩) ?_ ?_
            rotate_left
            ·intro w'
             go_simp
             with_reducible rfl
            rotate_left
            ·simp only [Act.put, Z1, Z2, Z3, Y4, Y5]
             rfl
            refine Y8 (i := 7) (N := some 50) (v := ?_) (a' := ?_) (bs 43 255) rfl rfl (Y3 HT_.out (by kernel_rfl)) (fun _ _ _ h => h) (Or.inl ⟨by rfl, ?_⟩) ?_ ?_
            rotate_left
            ·intro w'
             go_simp
             with_reducible rfl
            rotate_left
            ·simp only [Act.put, Z1, Z2, Z3, Y4, Y5]
             rfl
            refine take_ (i := 8) (N := some 51) (v := ?_) (a' := ?_) (bs 43 511) rfl rfl (take_ofW HT_.out HW_.out (by kernel_rfl)) (fun _ _ _ h => h) (Or.inl ⟨by rfl, ?_⟩) hHeld ?_ ?_
            rotate_left
            ·rintro w' ⟨s0, s1, s2, s3, s4, s5⟩
             go_simp
             with_reducible rfl
            rotate_left
            ·simp only [Act.put, Z1, Z2, Z3, Y4, Y5]
             rfl
            refine Y8 (i := 9) (N := some 52) (v := ?_) (a' := ?_) (bs 43 1023) rfl rfl (Y3 HT_.out (by kernel_rfl)) (fun _ _ _ h => h) (Or.inl ⟨by rfl, ?_⟩) ?_ ?_
            rotate_left
            ·intro w'
             go_simp
             with_reducible rfl
            rotate_left
            ·simp only [Act.put, Z1, Z2, Z3, Y4, Y5]
             rfl
            refine Y8 (i := 10) (N := some 53) (v := ?_) (a' := ?_) (bs 43 2047) rfl rfl (Y3 HT_.out (by kernel_rfl)) (fun _ _ _ h => h) (Or.inl ⟨by rfl, ?_⟩) ?_ ?_
            rotate_left
            ·intro w'
             go_simp
             with_reducible rfl
            rotate_left
            ·simp only [Act.put, Z1, Z2, Z3, Y4, Y5]
             rfl
            refine Y8 (i := 11) (N := some 54) (v := ?_) (a' := ?_) (bs 43 4095) rfl rfl (Y3 HT_.out (by kernel_rfl)) (fun _ _ _ h => h) (Or.inl ⟨by rfl, ?_⟩) ?_ ?_
            rotate_left
            ·intro w'
             go_simp
             with_reducible rfl
            rotate_left
            ·simp only [Act.put, Z1, Z2, Z3, Y4, Y5]
             rfl
            refine Y8 (i := 12) (N := some 55) (v := ?_) (a' := ?_) (bs 43 8191) rfl rfl (Y3 HT_.out (by kernel_rfl)) (fun _ _ _ h => h) (Or.inl ⟨by rfl, ?_⟩) ?_ ?_
            rotate_left
            ·intro w'
             go_simp
             with_reducible rfl
            rotate_left
            ·simp only [Act.put, Z1, Z2, Z3, Y4, Y5]
             rfl
            refine Y8 (i := 13) (N := some 56) (v := undef) (a' := ?_) (bs 43 16383) rfl rfl (Y3 HT_.out (by kernel_rfl)) (fun _ _ _ h => h) (Or.inr ⟨by rfl, rfl⟩) ?_ ?_
            rotate_left
            ·simp only [Act.put, Z1, Z2, Z3, Y4, Y5]
             rfl
            refine Y8 (i := 14) (N := some 57) (v := undef) (a' := ?_) (bs 43 32767) rfl rfl (Y3 HT_.out (by kernel_rfl)) (fun _ _ _ h => h) (Or.inr ⟨by rfl, rfl⟩) ?_ ?_
            rotate_left
            ·simp only [Act.put, Z1, Z2, Z3, Y4, Y5]
             rfl
            refine Y8 (i := 15) (N := some 58) (v := undef) (a' := ?_) (bs 43 65535) rfl rfl (Y3 HT_.out (by kernel_rfl)) (fun _ _ _ h => h) (Or.inr ⟨by rfl, rfl⟩) ?_ ?_
            rotate_left
            ·simp only [Act.put, Z1, Z2, Z3, Y4, Y5]
             rfl
            refine Y8 (i := 16) (N := some 59) (v := undef) (a' := ?_) (bs 43 131071) rfl rfl (Y3 HT_.out (by kernel_rfl)) (fun _ _ _ h => h) (Or.inr ⟨by rfl, rfl⟩) ?_ ?_
            rotate_left
            ·simp only [Act.put, Z1, Z2, Z3, Y4, Y5]
             rfl
            refine Y8 (i := 17) (N := some 60) (v := undef) (a' := ?_) (bs 43 262143) rfl rfl (Y3 HT_.out (by kernel_rfl)) (fun _ _ _ h => h) (Or.inr ⟨by rfl, rfl⟩) ?_ ?_
            rotate_left
            ·simp only [Act.put, Z1, Z2, Z3, Y4, Y5]
             rfl
            refine Y8 (i := 18) (N := some 61) (v := undef) (a' := ?_) (bs 43 524287) rfl rfl (Y3 HT_.out (by kernel_rfl)) (fun _ _ _ h => h) (Or.inr ⟨by rfl, rfl⟩) ?_ ?_
            rotate_left
            ·simp only [Act.put, Z1, Z2, Z3, Y4, Y5]
             rfl
            refine Y8 (i := 19) (N := some 62) (v := undef) (a' := ?_) (bs 43 1048575) rfl rfl (Y3 HT_.out (by kernel_rfl)) (fun _ _ _ h => h) (Or.inr ⟨by rfl, rfl⟩) ?_ ?_
            rotate_left
            ·simp only [Act.put, Z1, Z2, Z3, Y4, Y5]
             rfl
            refine Y8 (i := 20) (N := some 63) (v := undef) (a' := ?_) (bs 43 2097151) rfl rfl (Y3 HT_.out (by kernel_rfl)) (fun _ _ _ h => h) (Or.inr ⟨by rfl, rfl⟩) ?_ ?_
            rotate_left
            ·simp only [Act.put, Z1, Z2, Z3, Y4, Y5]
             rfl
            refine Y8 (i := 21) (N := some 64) (v := undef) (a' := ?_) (bs 43 4194303) rfl rfl (Y3 HT_.out (by kernel_rfl)) (fun _ _ _ h => h) (Or.inr ⟨by rfl, rfl⟩) ?_ ?_
            rotate_left
            ·simp only [Act.put, Z1, Z2, Z3, Y4, Y5]
             rfl
            refine Y8 (i := 22) (N := some 65) (v := undef) (a' := ?_) (bs 43 8388607) rfl rfl (Y3 HT_.out (by kernel_rfl)) (fun _ _ _ h => h) (Or.inr ⟨by rfl, rfl⟩) ?_ ?_
            rotate_left
            ·simp only [Act.put, Z1, Z2, Z3, Y4, Y5]
             rfl
            refine Y8 (i := 23) (N := some 66) (v := undef) (a' := ?_) (bs 43 16777215) rfl rfl (Y3 HT_.out (by kernel_rfl)) (fun _ _ _ h => h) (Or.inr ⟨by rfl, rfl⟩) ?_ ?_
            rotate_left
            ·simp only [Act.put, Z1, Z2, Z3, Y4, Y5]
             rfl
            refine Y8 (i := 24) (N := some 67) (v := undef) (a' := ?_) (bs 43 33554431) rfl rfl (Y3 HT_.out (by kernel_rfl)) (fun _ _ _ h => h) (Or.inr ⟨by rfl, rfl⟩) ?_ ?_
            rotate_left
            ·simp only [Act.put, Z1, Z2, Z3, Y4, Y5]
             rfl
            refine Y8 (i := 25) (N := some 68) (v := undef) (a' := ?_) (bs 43 67108863) rfl rfl (Y3 HT_.out (by kernel_rfl)) (fun _ _ _ h => h) (Or.inr ⟨by rfl, rfl⟩) ?_ ?_
            rotate_left
            ·simp only [Act.put, Z1, Z2, Z3, Y4, Y5]
             rfl
            refine Y8 (i := 26) (N := some 69) (v := ?_) (a' := ?_) (bs 43 134217727) rfl rfl (Y3 HT_.out (by kernel_rfl)) (fun _ _ _ h => h) (Or.inl ⟨by rfl, ?_⟩) ?_ ?_
            rotate_left
            ·intro w'
             go_simp
             with_reducible rfl
            rotate_left
            ·simp only [Act.put, Z1, Z2, Z3, Y4, Y5]
             rfl
            refine Y8 (i := 27) (N := some 70) (v := ?_) (a' := ?_) (bs 43 268435455) rfl rfl (Y3 HT_.out (by kernel_rfl)) (fun _ _ _ h => h) (Or.inl ⟨by rfl, ?_⟩) ?_ ?_
            rotate_left
            ·intro w'
             go_simp
             with_reducible rfl
            rotate_left
            ·simp only [Act.put, Z1, Z2, Z3, Y4, Y5]
             rfl
            refine Y8 (i := 28) (N := some 71) (v := undef) (a' := ?_) (bs 43 536870911) rfl rfl (Y3 HT_.out (by kernel_rfl)) (fun _ _ _ h => h) (Or.inr ⟨by rfl, rfl⟩) ?_ ?_
            rotate_left
            ·simp only [Act.put, Z1, Z2, Z3, Y4, Y5]
             rfl
            refine Y8 (i := 29) (N := some 72) (v := undef) (a' := ?_) (bs 43 1073741823) rfl rfl (Y3 HT_.out (by kernel_rfl)) (fun _ _ _ h => h) (Or.inr ⟨by rfl, rfl⟩) ?_ ?_
            rotate_left
            ·simp only [Act.put, Z1, Z2, Z3, Y4, Y5]
             rfl
            refine Y8 (i := 30) (N := some 73) (v := undef) (a' := ?_) (bs 43 2147483647) rfl rfl (Y3 HT_.out (by kernel_rfl)) (fun _ _ _ h => h) (Or.inr ⟨by rfl, rfl⟩) ?_ ?_
            rotate_left
            ·simp only [Act.put, Z1, Z2, Z3, Y4, Y5]
             rfl
            refine Y8 (i := 31) (N := some 74) (v := undef) (a' := ?_) (bs 43 4294967295) rfl rfl (Y3 HT_.out (by kernel_rfl)) (fun _ _ _ h => h) (Or.inr ⟨by rfl, rfl⟩) ?_ ?_
            rotate_left
            ·simp only [Act.put, Z1, Z2, Z3, Y4, Y5]
             rfl
            refine Y8 (i := 32) (N := some 75) (v := undef) (a' := ?_) (bs 43 8589934591) rfl rfl (Y3 HT_.out (by kernel_rfl)) (fun _ _ _ h => h) (Or.inr ⟨by rfl, rfl⟩) ?_ ?_
            rotate_left
            ·simp only [Act.put, Z1, Z2, Z3, Y4, Y5]
             rfl
            refine Y8 (i := 33) (N := some 76) (v := undef) (a' := ?_) (bs 43 17179869183) rfl rfl (Y3 HT_.out (by kernel_rfl)) (fun _ _ _ h => h) (Or.inr ⟨by rfl, rfl⟩) ?_ ?_
            rotate_left
            ·simp only [Act.put, Z1, Z2, Z3, Y4, Y5]
             rfl
            refine Y8 (i := 34) (N := some 77) (v := undef) (a' := ?_) (bs 43 34359738367) rfl rfl (Y3 HT_.out (by kernel_rfl)) (fun _ _ _ h => h) (Or.inr ⟨by rfl, rfl⟩) ?_ ?_
            rotate_left
            ·simp only [Act.put, Z1, Z2, Z3, Y4, Y5]
             rfl
            refine Y8 (i := 35) (N := some 78) (v := undef) (a' := ?_) (bs 43 68719476735) rfl rfl (Y3 HT_.out (by kernel_rfl)) (fun _ _ _ h => h) (Or.inr ⟨by rfl, rfl⟩) ?_ ?_
            rotate_left
            ·simp only [Act.put, Z1, Z2, Z3, Y4, Y5]
             rfl
            refine Y8 (i := 36) (N := some 79) (v := undef) (a' := ?_) (bs 43 137438953471) rfl rfl (Y3 HT_.out (by kernel_rfl)) (fun _ _ _ h => h) (Or.inr ⟨by rfl, rfl⟩) ?_ ?_
            rotate_left
            ·simp only [Act.put, Z1, Z2, Z3, Y4, Y5]
             rfl
            refine Y8 (i := 37) (N := some 80) (v := undef) (a' := ?_) (bs 43 274877906943) rfl rfl (Y3 HT_.out (by kernel_rfl)) (fun _ _ _ h => h) (Or.inr ⟨by rfl, rfl⟩) ?_ ?_
            rotate_left
            ·simp only [Act.put, Z1, Z2, Z3, Y4, Y5]
             rfl
            refine Y8 (i := 38) (N := some 81) (v := undef) (a' := ?_) (bs 43 549755813887) rfl rfl (Y3 HT_.out (by kernel_rfl)) (fun _ _ _ h => h) (Or.inr ⟨by rfl, rfl⟩) ?_ ?_
            rotate_left
            ·simp only [Act.put, Z1, Z2, Z3, Y4, Y5]
             rfl
            refine Y8 (i := 39) (N := some 82) (v := undef) (a' := ?_) (bs 43 1099511627775) rfl rfl (Y3 HT_.out (by kernel_rfl)) (fun _ _ _ h => h) (Or.inr ⟨by rfl, rfl⟩) ?_ ?_
            rotate_left
            ·simp only [Act.put, Z1, Z2, Z3, Y4, Y5]
             rfl
            refine Y8 (i := 40) (N := some 83) (v := undef) (a' := ?_) (bs 43 2199023255551) rfl rfl (Y3 HT_.out (by kernel_rfl)) (fun _ _ _ h => h) (Or.inr ⟨by rfl, rfl⟩) ?_ ?_
            rotate_left
            ·simp only [Act.put, Z1, Z2, Z3, Y4, Y5]
             rfl
            refine Y8 (i := 41) (N := some 84) (v := undef) (a' := ?_) (bs 43 4398046511103) rfl rfl (Y3 HT_.out (by kernel_rfl)) (fun _ _ _ h => h) (Or.inr ⟨by rfl, rfl⟩) ?_ ?_
            rotate_left
            ·simp only [Act.put, Z1, Z2, Z3, Y4, Y5]
             rfl
            refine Y8 (i := 42) (N := some 85) (v := ?_) (a' := ?_) (bs 43 8796093022207) rfl rfl (Y3 HT_.out (by kernel_rfl)) (fun _ _ _ h => h) (Or.inl ⟨by rfl, ?_⟩) ?_ ?_
            rotate_left
            ·intro w'
             go_simp
             with_reducible rfl
            rotate_left
            ·simp only [Act.put, Z1, Z2, Z3, Y4, Y5]
             rfl
            refine done_ (done_of HT_.out (by kernel_rfl)) ?_
            try go_wp2
            go_meet
            case rel => exact ⟨_, (true), V2, H', ⟨by have := HJ6.out; have := HK2.out; first | omega | exact Nat.le_refl _⟩, ⟨by (with_reducible repeat (first | apply Kd.R_alloc | apply Kd.R_drewN | apply Kd.R_drew)); exact HO_8.out⟩, ⟨by (with_reducible repeat (first | refine Z6 ?_ _ | refine Z8 ?_ | refine Z7 ?_ _)); exact BK132.out⟩, ⟨by (with_reducible repeat (first | refine Z6 ?_ _ | refine Z8 ?_ | refine Z7 ?_ _)); exact BK133.out⟩, ⟨V0⟩⟩
           ·rw [if_neg c32] at H
            have c32b0 : decide ((l1_2.length : Int) ≤ x40_2) = false := decide_eq_false c32
            clear c32
            by_cases c34 : 0 ≤ x40_2
            ·rw [if_pos c34] at H
             have c34b0 : decide (0 ≤ x40_2) = true := decide_eq_true c34
             clear c34
             by_cases c35 : x40_2 < (l0_2.length : Int)
             ·rw [if_pos c35] at H
              have c35b0 : decide (x40_2 < (l0_2.length : Int)) = true := decide_eq_true c35
              clear c35
              by_cases c36 : x40_2 < (l1_2.length : Int)
              ·rw [if_pos c36] at H
               have c36b0 : decide (x40_2 < (l1_2.length : Int)) = true := decide_eq_true c36
               clear c36
               by_cases c37 : (((rd_T46 l0_2 x40_2).f0) != ((rd_T46 l1_2 x40_2).f0)) = true
               ·rw [if_pos c37] at H
                have c37b0 : (((rd_T46 l0_2 x40_2).f0) != ((rd_T46 l1_2 x40_2).f0)) = true := c37
                (try (have c37b1 : decide (((rd_T46 l0_2 x40_2).f0) = ((rd_T46 l1_2 x40_2).f0)) = false := by simpa using c37))
                (try (have c37b2 : (((rd_T46 l0_2 x40_2).f0) == ((rd_T46 l1_2 x40_2).f0)) = false := by simpa using c37))
                (try (have c37b3 : ¬ (((rd_T46 l0_2 x40_2).f0) = ((rd_T46 l1_2 x40_2).f0)) := by simpa using c37))
                clear c37
                have H' := Z0 H
                clear H
                try go_wp2
                have n0_ := Z0 (Kd.R_drew HO_8.out)
                have n1_ := Z0 (Z8 BK132.out)
                have n2_ := Z0 (Z8 BK133.out)
                have n3_ := Z0 (below_drew1 HB.out)
                clear HO_8
                clear BK132
                clear BK133
                clear HB
                have HO_8 := n0_
                have BK132 := n1_
                have BK133 := n2_
                have HB := n3_
                clear n0_ n1_ n2_ n3_
                have p137 : 0 ≤ (x40_2 : Int) := of_decide_eq_true V3
                have q137 : x40_2 < (l0_2.length : Int) := of_decide_eq_true V3
                obtain ⟨ad137, A137_1, c137_1, e137, hx137_0, hx137_1, hl137_1, hi137_1⟩ := at_T46 HR0_2.out x40_2 p137 q137
                have hw137_1 := hx137_1
                have hw137_0 := hx137_0
                cases e137
                replace hx137_0 := (HB.out.cell (World.block_lt_of_cell? w _ hx137_0)).trans hx137_0
                replace hx137_1 := (HB.out.cell (World.block_lt_of_cell? w _ hx137_1)).trans hx137_1
                have HR137_1 := Z0 hi137_1
                have HC137_1 := Z0 hl137_1
                clear hi137_1 hl137_1
                replace p137 := eq_true p137
                replace q137 := eq_true q137
                have p138 : 0 ≤ (x40_2 : Int) := of_decide_eq_true V3
                have q138 : x40_2 < (l1_2.length : Int) := of_decide_eq_true V3
                obtain ⟨ad138, A138_1, c138_1, e138, hx138_0, hx138_1, hl138_1, hi138_1⟩ := at_T46 HR1_2.out x40_2 p138 q138
                have hw138_1 := hx138_1
                have hw138_0 := hx138_0
                cases e138
                replace hx138_0 := (HB.out.cell (World.block_lt_of_cell? w _ hx138_0)).trans hx138_0
                replace hx138_1 := (HB.out.cell (World.block_lt_of_cell? w _ hx138_1)).trans hx138_1
                have HR138_1 := Z0 hi138_1
                have HC138_1 := Z0 hl138_1
                clear hi138_1 hl138_1
                replace p138 := eq_true p138
                replace q138 := eq_true q138
                refine start_ (n := 43) (S := fun w' => w'.cell? ⟨gb132, 0, none⟩ = some (.int .i64 a0_0) ∧ w'.cell? ⟨gb132, 1, none⟩ = some (.slice A0_1 l0_1.length c0_1) ∧ w'.cell? ⟨gb132, 2, none⟩ = some (.slice (some ad137) l0_2.length c0_2) ∧ w'.cell? ⟨gb133, 0, none⟩ = some (.int .i64 a1_0) ∧ w'.cell? ⟨gb133, 1, none⟩ = some (.slice A1_1 l1_1.length c1_1) ∧ w'.cell? ⟨gb133, 2, none⟩ = some (.slice (some ad138) l1_2.length c1_2) ∧ w'.cell? (ad137.add ((x40_2).toNat * 2)) = some (.bool ((rd_T46 l0_2 x40_2).f0)) ∧ w'.cell? ⟨(ad137.add ((x40_2).toNat * 2)).block, (ad137.add ((x40_2).toNat * 2)).off + 1, none⟩ = some (.slice A137_1 ((rd_T46 l0_2 x40_2).f1).length c137_1) ∧ w'.cell? (ad138.add ((x40_2).toNat * 2)) = some (.bool ((rd_T46 l1_2 x40_2).f0)) ∧ w'.cell? ⟨(ad138.add ((x40_2).toNat * 2)).block, (ad138.add ((x40_2).toNat * 2)).off + 1, none⟩ = some (.slice A138_1 ((rd_T46 l1_2 x40_2).f1).length c138_1)) (ds := []) (bs 43 0) (by kernel_rfl) rfl rfl ⟨(Y0 BK132.out 0).trans rfl, (Y0 BK132.out 1).trans rfl, (Y0 BK132.out 2).trans rfl, (Y0 BK133.out 0).trans rfl, (Y0 BK133.out 1).trans rfl, (Y0 BK133.out 2).trans rfl, ((HB.out.cell (World.block_lt_of_cell? w _ hw137_0)).trans hw137_0), ((HB.out.cell (World.block_lt_of_cell? w _ hw137_1)).trans hw137_1), ((HB.out.cell (World.block_lt_of_cell? w _ hw138_0)).trans hw138_0), ((HB.out.cell (World.block_lt_of_cell? w _ hw138_1)).trans hw138_1)⟩ (fun hHeld => ?_); refine with_tabW table_Differ.tab13 table_Differ.bits13 (fun HT_ HW_ => ?_)
                generalize wr.drew = w38 at HO_8 BK132 BK133 HB HR137_1 HR138_1 hx137_0 hx137_1 hx138_0 hx138_1 hHeld ⊢
                refine Y8 (i := 0) (N := some 43) (v := ?_) (a' := ?_) (bs 43 1) rfl rfl (Y3 HT_.out (by kernel_rfl)) (fun _ _ _ h => h) (Or.inl ⟨by rfl, ?_⟩) ?_ ?_
                rotate_left
                ·intro w'
                 go_simp
                 with_reducible rfl
                rotate_left
                ·simp only [Act.put, Z1, Z2, Z3, Y4, Y5]
                 rfl
                refine Y8 (i := 1) (N := some 44) (v := ?_) (a' := ?_) (bs 43 3) rfl rfl (Y3 HT_.out (by kernel_rfl)) (fun _ _ _ h => h) (Or.inl ⟨by rfl, ?_⟩) ?_ ?_
                rotate_left
                ·intro w'
                 go_simp
                 with_reducible rfl
                rotate_left
                ·simp only [Act.put, Z1, Z2, Z3, Y4, Y5]
                 rfl
                refine take_ (i := 2) (N := some 45) (v := ?_) (a' := ?_) (bs 43 7) rfl rfl (take_ofW HT_.out HW_.out (by kernel_rfl)) (fun _ _ _ h => h) (Or.inl ⟨by rfl, ?_⟩) hHeld ?_ ?_
                rotate_left
                ·rintro w' ⟨s0, s1, s2, s3, s4, s5, s6, s7, s8, s9⟩
                 go_simp
                 with_reducible rfl
                rotate_left
                ·simp only [Act.put, Z1, Z2, Z3, Y4, Y5]
                 rfl
                refine Y8 (i := 3) (N := some 46) (v := ?_) (a' := ?_) (bs 43 15) rfl rfl (Y3 HT_.out (by kernel_rfl)) (fun _ _ _ h => h) (Or.inl ⟨by rfl, ?_⟩) ?_ ?_
                rotate_left
                ·intro w'
                 go_simp
                 with_reducible rfl
                rotate_left
                ·simp only [Act.put, Z1, Z2, Z3, Y4, Y5]
                 rfl
                refine Y8 (i := 4) (N := some 47) (v := ?_) (a' := ?_) (bs 43 31) rfl rfl (Y3 HT_.out (by kernel_rfl)) (fun _ _ _ h => h) (Or.inl ⟨by rfl, ?_⟩) ?_ ?_
                rotate_left
                ·intro w'
                 go_simp
                 with_reducible rfl
                rotate_left
                ·simp only [Act.put, Z1, Z2, Z3, Y4, Y5]
                 rfl
                refine Y8 (i := 5) (N := some 48) (v := ?_) (a' := ?_) (bs 43 63) rfl rfl (Y3 HT_.out (by kernel_rfl)) (fun _ _ _ h => h) (Or.inl ⟨by rfl, ?_⟩) ?_ ?_
                rotate_left
                ·intro w'
                 go_simp
                 with_reducible rfl
                rotate_left
                ·simp only [Act.put, Z1, Z2, Z3, Y4, Y5]
                 rfl
                refine Y8 (i := 6) (N := some 49) (v := ?_) (a' := ?_) (bs 43 127) rfl rfl (Y3 HT_.out (by kernel_rfl)) (fun _ _ _ h => h) (Or.inl ⟨by rfl, ?_⟩) ?_ ?_
                rotate_left
                ·intro w'
                 go_simp
                 with_reducible rfl
                rotate_left
                ·simp only [Act.put, Z1, Z2, Z3, Y4, Y5]
                 rfl
                refine Y8 (i := 7) (N := some 50) (v := ?_) (a' := ?_) (bs 43 255) rfl rfl (Y3 HT_.out (by kernel_rfl)) (fun _ _ _ h => h) (Or.inl ⟨by rfl, ?_⟩) ?_ ?_
                rotate_left
                ·intro w'
                 go_simp
                 with_reducible rfl
                rotate_left
                ·simp only [Act.put, Z1, Z2, Z3, Y4, Y5]
                 rfl
                refine take_ (i := 8) (N := some 51) (v := ?_) (a' := ?_) (bs 43 511) rfl rfl (take_ofW HT_.out HW_.out (by kernel_rfl)) (fun _ _ _ h => h) (Or.inl ⟨by rfl, ?_⟩) hHeld ?_ ?_
                rotate_left
                ·rintro w' ⟨s0, s1, s2, s3, s4, s5, s6, s7, s8, s9⟩
                 go_simp
                 with_reducible rfl
                rotate_left
                ·simp only [Act.put, Z1, Z2, Z3, Y4, Y5]
                 rfl
                refine Y8 (i := 9) (N := some 52) (v := ?_) (a' := ?_) (bs 43 1023) rfl rfl (Y3 HT_.out (by kernel_rfl)) (fun _ _ _ h => h) (Or.inl ⟨by rfl, ?_⟩) ?_ ?_
                rotate_left
                ·intro w'
                 go_simp
                 with_reducible rfl
                rotate_left
                ·simp only [Act.put, Z1, Z2, Z3, Y4, Y5]
                 rfl
                refine Y8 (i := 10) (N := some 53) (v := ?_) (a' := ?_) (bs 43 2047) rfl rfl (Y3 HT_.out (by kernel_rfl)) (fun _ _ _ h => h) (Or.inl ⟨by rfl, ?_⟩) ?_ ?_
                rotate_left
                ·intro w'
                 go_simp
                 with_reducible rfl
                rotate_left
                ·simp only [Act.put, Z1, Z2, Z3, Y4, Y5]
                 rfl
                refine Y8 (i := 11) (N := some 54) (v := ?_) (a' := ?_) (bs 43 4095) rfl rfl (Y3 HT_.out (by kernel_rfl)) (fun _ _ _ h => h) (Or.inl ⟨by rfl, ?_⟩) ?_ ?_
                rotate_left
                ·intro w'
                 go_simp
                 with_reducible rfl
                rotate_left
                ·simp only [Act.put, Z1, Z2, Z3, Y4, Y5]
                 rfl
                refine Y8 (i := 12) (N := some 55) (v := ?_) (a' := ?_) (bs 43 8191) rfl rfl (Y3 HT_.out (by kernel_rfl)) (fun _ _ _ h => h) (Or.inl ⟨by rfl, ?_⟩) ?_ ?_
                rotate_left
                ·intro w'
                 go_simp
                 with_reducible rfl
                rotate_left
                ·simp only [Act.put, Z1, Z2, Z3, Y4, Y5]
                 rfl
                refine Y8 (i := 13) (N := some 56) (v := ?_) (a' := ?_) (bs 43 16383) rfl rfl (Y3 HT_.out (by kernel_rfl)) (fun _ _ _ h => h) (Or.inl ⟨by rfl, ?_⟩) ?_ ?_
                rotate_left
                ·intro w'
                 go_simp
                 with_reducible rfl
                rotate_left
                ·simp only [Act.put, Z1, Z2, Z3, Y4, Y5]
                 rfl
                refine Y8 (i := 15) (N := some 58) (v := ?_) (a' := ?_) (bs 43 49151) rfl rfl (Y3 HT_.out (by kernel_rfl)) (fun _ _ _ h => h) (Or.inl ⟨by rfl, ?_⟩) ?_ ?_
                rotate_left
                ·intro w'
                 go_simp
                 with_reducible rfl
                rotate_left
                ·simp only [Act.put, Z1, Z2, Z3, Y4, Y5]
                 rfl
                refine Y8 (i := 19) (N := some 62) (v := ?_) (a' := ?_) (bs 43 573439) rfl rfl (Y3 HT_.out (by kernel_rfl)) (fun _ _ _ h => h) (Or.inl ⟨by rfl, ?_⟩) ?_ ?_
                rotate_left
                ·intro w'
                 go_simp
                 with_reducible rfl
                rotate_left
                ·simp only [Act.put, Z1, Z2, Z3, Y4, Y5]
                 rfl
                refine Y8 (i := 21) (N := some 64) (v := ?_) (a' := ?_) (bs 43 2670591) rfl rfl (Y3 HT_.out (by kernel_rfl)) (fun _ _ _ h => h) (Or.inl ⟨by rfl, ?_⟩) ?_ ?_
                rotate_left
                ·intro w'
                 go_simp
                 with_reducible rfl
                rotate_left
                ·simp only [Act.put, Z1, Z2, Z3, Y4, Y5]
                 rfl
                refine take_ (i := 14) (N := some 57) (v := ?_) (a' := ?_) (bs 43 2686975) rfl rfl (take_ofW HT_.out HW_.out (by kernel_rfl)) (fun _ _ _ h => h) (Or.inl ⟨by rfl, ?_⟩) hHeld ?_ ?_
                rotate_left
                ·rintro w' ⟨s0, s1, s2, s3, s4, s5, s6, s7, s8, s9⟩
                 go_simp
                 with_reducible rfl
                rotate_left
                ·simp only [Act.put, Z1, Z2, Z3, Y4, Y5]
                 rfl
                refine Y8 (i := 16) (N := some 59) (v := ?_) (a' := ?_) (bs 43 2752511) rfl rfl (Y3 HT_.out (by kernel_rfl)) (fun _ _ _ h => h) (Or.inl ⟨by rfl, ?_⟩) ?_ ?_
                rotate_left
                ·intro w'
                 go_simp
                 with_reducible rfl
                rotate_left
                ·simp only [Act.put, Z1, Z2, Z3, Y4, Y5]
                 rfl
                refine Y8 (i := 17) (N := some 60) (v := ?_) (a' := ?_) (bs 43 2883583) rfl rfl (Y3 HT_.out (by kernel_rfl)) (fun _ _ _ h => h) (Or.inl ⟨by rfl, ?_⟩) ?_ ?_
                rotate_left
                ·intro w'
                 go_simp
                 with_reducible rfl
                rotate_left
                ·simp only [Act.put, Z1, Z2, Z3, Y4, Y5]
                 rfl
                refine take_ (i := 18) (N := some 61) (v := ?_) (a' := ?_) (bs 43 3145727) rfl rfl (take_ofW HT_.out HW_.out (by kernel_rfl)) (fun _ _ _ h => h) (Or.inl ⟨by rfl, ?_⟩) hHeld ?_ ?_
                rotate_left
                ·rintro w' ⟨s0, s1, s2, s3, s4, s5, s6, s7, s8, s9⟩
                 go_simp
                 with_reducible rfl
                rotate_left
                ·simp only [Act.put, Z1, Z2, Z3, Y4, Y5]
                 rfl
                refine take_ (i := 20) (N := some 63) (v := ?_) (a' := ?_) (bs 43 4194303) rfl rfl (take_ofW HT_.out HW_.out (by kernel_rfl)) (fun _ _ _ h => h) (Or.inl ⟨by rfl, ?_⟩) hHeld ?_ ?_
                rotate_left
                ·rintro w' ⟨s0, s1, s2, s3, s4, s5, s6, s7, s8, s9⟩
                 go_simp
                 with_reducible rfl
                rotate_left
                ·simp only [Act.put, Z1, Z2, Z3, Y4, Y5]
                 rfl
                refine Y8 (i := 22) (N := some 65) (v := ?_) (a' := ?_) (bs 43 8388607) rfl rfl (Y3 HT_.out (by kernel_rfl)) (fun _ _ _ h => h) (Or.inl ⟨by rfl, ?_⟩) ?_ ?_
                rotate_left
                ·intro w'
                 go_simp
                 with_reducible rfl
                rotate_left
                ·simp only [Act.put, Z1, Z2, Z3, Y4, Y5]
                 rfl
                refine Y8 (i := 23) (N := some 66) (v := ?_) (a' := ?_) (bs 43 16777215) rfl rfl (Y3 HT_.out (by kernel_rfl)) (fun _ _ _ h => h) (Or.inl ⟨by rfl, ?_⟩) ?_ ?_
                rotate_left
                ·intro w'
                 go_simp
                 with_reducible rfl
                rotate_left
                ·simp only [Act.put, Z1, Z2, Z3, Y4, Y5]
                 rfl
                refine take_ (i := 24) (N := some 67) (v := ?_) (a' := ?_) (bs 43 33554431) rfl rfl (take_ofW HT_.out HW_.out (by kernel_rfl)) (fun _ _ _ h => h) (Or.inl ⟨by rfl, ?_⟩) hHeld ?_ ?_
                rotate_left
                ·rintro w' ⟨s0, s1, s2, s3, s4, s5, s6, s7, s8, s9⟩
                 go_simp
                 with_reducible rfl
                rotate_left
                ·simp only [Act.put, Z1, Z2, Z3, Y4, Y5]
                 rfl
                refine Y8 (i := 25) (N := some 68) (v := ?_) (a' := ?_) (bs 43 67108863) rfl rfl (Y3 HT_.out (by kernel_rfl)) (fun _ _ _ h => h) (Or.inl ⟨by rfl, ?_⟩) ?_ ?_
                rotate_left
                ·intro w'
                 go_simp
                 with_reducible rfl
                rotate_left
                ·simp only [Act.put, Z1, Z2, Z3, Y4, Y5]
                 rfl
                refine Y8 (i := 26) (N := some 69) (v := ?_) (a' := ?_) (bs 43 134217727) rfl rfl (Y3 HT_.out (by kernel_rfl)) (fun _ _ _ h => h) (Or.inl ⟨by rfl, ?_⟩) ?_ ?_
                rotate_left
                ·intro w'
                 go_simp
                 with_reducible rfl
                rotate_left
                ·simp only [Act.put, Z1, Z2, Z3, Y4, Y5]
                 rfl
                refine Y8 (i := 27) (N := some 70) (v := ?_) (a' := ?_) (bs 43 268435455) rfl rfl (Y3 HT_.out (by kernel_rfl)) (fun _ _ _ h => h) (Or.inl ⟨by rfl, ?_⟩) ?_ ?_
                rotate_left
                ·intro w'
                 go_simp
                 with_reducible rfl
                rotate_left
                ·simp only [Act.put, Z1, Z2, Z3, Y4, Y5]
                 rfl
                refine Y8 (i := 28) (N := some 71) (v := undef) (a' := ?_) (bs 43 536870911) rfl rfl (Y3 HT_.out (by kernel_rfl)) (fun _ _ _ h => h) (Or.inr ⟨by rfl, rfl⟩) ?_ ?_
                rotate_left
                ·simp only [Act.put, Z1, Z2, Z3, Y4, Y5]
                 rfl
                refine Y8 (i := 29) (N := some 72) (v := undef) (a' := ?_) (bs 43 1073741823) rfl rfl (Y3 HT_.out (by kernel_rfl)) (fun _ _ _ h => h) (Or.inr ⟨by rfl, rfl⟩) ?_ ?_
                rotate_left
                ·simp only [Act.put, Z1, Z2, Z3, Y4, Y5]
                 rfl
                refine Y8 (i := 30) (N := some 73) (v := undef) (a' := ?_) (bs 43 2147483647) rfl rfl (Y3 HT_.out (by kernel_rfl)) (fun _ _ _ h => h) (Or.inr ⟨by rfl, rfl⟩) ?_ ?_
                rotate_left
                ·simp only [Act.put, Z1, Z2, Z3, Y4, Y5]
                 rfl
                refine Y8 (i := 31) (N := some 74) (v := undef) (a' := ?_) (bs 43 4294967295) rfl rfl (Y3 HT_.out (by kernel_rfl)) (fun _ _ _ h => h) (Or.inr ⟨by rfl, rfl⟩) ?_ ?_
                rotate_left
                ·simp only [Act.put, Z1, Z2, Z3, Y4, Y5]
                 rfl
                refine Y8 (i := 32) (N := some 75) (v := undef) (a' := ?_) (bs 43 8589934591) rfl rfl (Y3 HT_.out (by kernel_rfl)) (fun _ _ _ h => h) (Or.inr ⟨by rfl, rfl⟩) ?_ ?_
                rotate_left
                ·simp only [Act.put, Z1, Z2, Z3, Y4, Y5]
                 rfl
                refine Y8 (i := 33) (N := some 76) (v := undef) (a' := ?_) (bs 43 17179869183) rfl rfl (Y3 HT_.out (by kernel_rfl)) (fun _ _ _ h => h) (Or.inr ⟨by rfl, rfl⟩) ?_ ?_
                rotate_left
                ·simp only [Act.put, Z1, Z2, Z3, Y4, Y5]
                 rfl
                refine Y8 (i := 34) (N := some 77) (v := undef) (a' := ?_) (bs 43 34359738367) rfl rfl (Y3 HT_.out (by kernel_rfl)) (fun _ _ _ h => h) (Or.inr ⟨by rfl, rfl⟩) ?_ ?_
                rotate_left
                ·simp only [Act.put, Z1, Z2, Z3, Y4, Y5]
                 rfl
                refine Y8 (i := 35) (N := some 78) (v := undef) (a' := ?_) (bs 43 68719476735) rfl rfl (Y3 HT_.out (by kernel_rfl)) (fun _ _ _ h => h) (Or.inr ⟨by rfl, rfl⟩) ?_ ?_
                rotate_left
                ·simp only [Act.put, Z1, Z2, Z3, Y4, Y5]
                 rfl
                refine Y8 (i := 36) (N := some 79) (v := undef) (a' := ?_) (bs 43 137438953471) rfl rfl (Y3 HT_.out (by kernel_rfl)) (fun _ _ _ h => h) (Or.inr ⟨by rfl, rfl⟩) ?_ ?_
                rotate_left
                ·simp only [Act.put, Z1, Z2, Z3, Y4, Y5]
                 rfl
                refine Y8 (i := 37) (N := some 80) (v := undef) (a' := ?_) (bs 43 274877906943) rfl rfl (Y3 HT_.out (by kernel_rfl)) (fun _ _ _ h => h) (Or.inr ⟨by rfl, rfl⟩) ?_ ?_
                rotate_left
                ·simp only [Act.put, Z1, Z2, Z3, Y4, Y5]
                 rfl
                refine Y8 (i := 38) (N := some 81) (v := undef) (a' := ?_) (bs 43 549755813887) rfl rfl (Y3 HT_.out (by kernel_rfl)) (fun _ _ _ h => h) (Or.inr ⟨by rfl, rfl⟩) ?_ ?_
                rotate_left
                ·simp only [Act.put, Z1, Z2, Z3, Y4, Y5]
                 rfl
                refine Y8 (i := 39) (N := some 82) (v := undef) (a' := ?_) (bs 43 1099511627775) rfl rfl (Y3 HT_.out (by kernel_rfl)) (fun _ _ _ h => h) (Or.inr ⟨by rfl, rfl⟩) ?_ ?_
                rotate_left
                ·simp only [Act.put, Z1, Z2, Z3, Y4, Y5]
                 rfl
                refine Y8 (i := 40) (N := some 83) (v := undef) (a' := ?_) (bs 43 2199023255551) rfl rfl (Y3 HT_.out (by kernel_rfl)) (fun _ _ _ h => h) (Or.inr ⟨by rfl, rfl⟩) ?_ ?_
                rotate_left
                ·simp only [Act.put, Z1, Z2, Z3, Y4, Y5]
                 rfl
                refine Y8 (i := 41) (N := some 84) (v := undef) (a' := ?_) (bs 43 4398046511103) rfl rfl (Y3 HT_.out (by kernel_rfl)) (fun _ _ _ h => h) (Or.inr ⟨by rfl, rfl⟩) ?_ ?_
                rotate_left
                ·simp only [Act.put, Z1, Z2, Z3, Y4, Y5]
                 rfl
                refine Y8 (i := 42) (N := some 85) (v := ?_) (a' := ?_) (bs 43 8796093022207) rfl rfl (Y3 HT_.out (by kernel_rfl)) (fun _ _ _ h => h) (Or.inl ⟨by rfl, ?_⟩) ?_ ?_
                rotate_left
                ·intro w'
                 go_simp
                 with_reducible rfl
                rotate_left
                ·simp only [Act.put, Z1, Z2, Z3, Y4, Y5]
                 rfl
                refine done_ (done_of HT_.out (by kernel_rfl)) ?_
                try go_wp2
                go_meet
                case rel => exact ⟨_, (true), V2, H', ⟨by have := HJ6.out; have := HK2.out; first | omega | exact Nat.le_refl _⟩, ⟨by (with_reducible repeat (first | apply Kd.R_alloc | apply Kd.R_drewN | apply Kd.R_drew)); exact HO_8.out⟩, ⟨by (with_reducible repeat (first | refine Z6 ?_ _ | refine Z8 ?_ | refine Z7 ?_ _)); exact BK132.out⟩, ⟨by (with_reducible repeat (first | refine Z6 ?_ _ | refine Z8 ?_ | refine Z7 ?_ _)); exact BK133.out⟩, ⟨V0⟩⟩
               ·rw [if_neg c37] at H
                have c37b0 : (((rd_T46 l0_2 x40_2).f0) != ((rd_T46 l1_2 x40_2).f0)) = false := by simpa using c37
                (try (have c37b1 : decide (((rd_T46 l0_2 x40_2).f0) = ((rd_T46 l1_2 x40_2).f0)) = true := by simpa using c37))
                (try (have c37b2 : (((rd_T46 l0_2 x40_2).f0) == ((rd_T46 l1_2 x40_2).f0)) = true := by simpa using c37))
                clear c37
                replace H := Option.bind_eq_some_iff.mp H
                obtain ⟨t141, A390, H⟩ := H
                replace H : (table_Differ.j2 k2 x8_2 x40_2 ji24 x40_2 (!t141) a0_0 l0_1 l0_2 a1_0 l1_1 l1_2) = some (r1, r2) := H
                have A39 := Z0 A390
                clear A390
                have H' := Z0 H
                clear H
                try go_wp2
                have n0_ := Z0 (Kd.R_drew HO_8.out)
                have n1_ := Z0 (Z8 BK132.out)
                have n2_ := Z0 (Z8 BK133.out)
                have n3_ := Z0 (below_drew1 HB.out)
                clear HO_8
                clear BK132
                clear BK133
                clear HB
                have HO_8 := n0_
                have BK132 := n1_
                have BK133 := n2_
                have HB := n3_
                clear n0_ n1_ n2_ n3_
                have p137 : 0 ≤ (x40_2 : Int) := of_decide_eq_true V3
                have q137 : x40_2 < (l0_2.length : Int) := of_decide_eq_true V3
                obtain ⟨ad137, A137_1, c137_1, e137, hx137_0, hx137_1, hl137_1, hi137_1⟩ := at_T46 HR0_2.out x40_2 p137 q137
                have hw137_1 := hx137_1
                have hw137_0 := hx137_0
                cases e137
                replace hx137_0 := (HB.out.cell (World.block_lt_of_cell? w _ hx137_0)).trans hx137_0
                replace hx137_1 := (HB.out.cell (World.block_lt_of_cell? w _ hx137_1)).trans hx137_1
                have HR137_1 := Z0 hi137_1
                have HC137_1 := Z0 hl137_1
                clear hi137_1 hl137_1
                replace p137 := eq_true p137
                replace q137 := eq_true q137
                have p138 : 0 ≤ (x40_2 : Int) := of_decide_eq_true V3
                have q138 : x40_2 < (l1_2.length : Int) := of_decide_eq_true V3
                obtain ⟨ad138, A138_1, c138_1, e138, hx138_0, hx138_1, hl138_1, hi138_1⟩ := at_T46 HR1_2.out x40_2 p138 q138
                have hw138_1 := hx138_1
                have hw138_0 := hx138_0
                cases e138
                replace hx138_0 := (HB.out.cell (World.block_lt_of_cell? w _ hx138_0)).trans hx138_0
                replace hx138_1 := (HB.out.cell (World.block_lt_of_cell? w _ hx138_1)).trans hx138_1
                have HR138_1 := Z0 hi138_1
                have HC138_1 := Z0 hl138_1
                clear hi138_1 hl138_1
                replace p138 := eq_true p138
                replace q138 := eq_true q138
                have p139 : 0 ≤ (x40_2 : Int) := of_decide_eq_true V3
                have q139 : x40_2 < (l0_2.length : Int) := of_decide_eq_true V3
                obtain ⟨ad139, A139_1, c139_1, e139, hx139_0, hx139_1, hl139_1, hi139_1⟩ := at_T46 HR0_2.out x40_2 p139 q139
                have hw139_1 := hx139_1
                have hw139_0 := hx139_0
                obtain rfl : ad137 = ad139 := (by injection e139)
                replace hx139_0 := (HB.out.cell (World.block_lt_of_cell? w _ hx139_0)).trans hx139_0
                replace hx139_1 := (HB.out.cell (World.block_lt_of_cell? w _ hx139_1)).trans hx139_1
                have HR139_1 := Z0 hi139_1
                have HC139_1 := Z0 hl139_1
                clear hi139_1 hl139_1
                replace p139 := eq_true p139
                replace q139 := eq_true q139
                have ea_ := Option.some.inj (hx137_1.symm.trans hx139_1)
                injection ea_ with ea_ en_ ec_
                subst ea_
                subst ec_
                clear en_
                have p140 : 0 ≤ (x40_2 : Int) := of_decide_eq_true V3
                have q140 : x40_2 < (l1_2.length : Int) := of_decide_eq_true V3
                obtain ⟨ad140, A140_1, c140_1, e140, hx140_0, hx140_1, hl140_1, hi140_1⟩ := at_T46 HR1_2.out x40_2 p140 q140
                have hw140_1 := hx140_1
                have hw140_0 := hx140_0
                obtain rfl : ad138 = ad140 := (by injection e140)
                replace hx140_0 := (HB.out.cell (World.block_lt_of_cell? w _ hx140_0)).trans hx140_0
                replace hx140_1 := (HB.out.cell (World.block_lt_of_cell? w _ hx140_1)).trans hx140_1
                have HR140_1 := Z0 hi140_1
                have HC140_1 := Z0 hl140_1
                clear hi140_1 hl140_1
                replace p140 := eq_true p140
                replace q140 := eq_true q140
                have ea_ := Option.some.inj (hx138_1.symm.trans hx140_1)
                injection ea_ with ea_ en_ ec_
                subst ea_
                subst ec_
                clear en_
                refine start_ (n := 43) (S := fun w' => w'.cell? ⟨gb132, 0, none⟩ = some (.int .i64 a0_0) ∧ w'.cell? ⟨gb132, 1, none⟩ = some (.slice A0_1 l0_1.length c0_1) ∧ w'.cell? ⟨gb132, 2, none⟩ = some (.slice (some ad137) l0_2.length c0_2) ∧ w'.cell? ⟨gb133, 0, none⟩ = some (.int .i64 a1_0) ∧ w'.cell? ⟨gb133, 1, none⟩ = some (.slice A1_1 l1_1.length c1_1) ∧ w'.cell? ⟨gb133, 2, none⟩ = some (.slice (some ad138) l1_2.length c1_2) ∧ w'.cell? (ad137.add ((x40_2).toNat * 2)) = some (.bool ((rd_T46 l0_2 x40_2).f0)) ∧ w'.cell? ⟨(ad137.add ((x40_2).toNat * 2)).block, (ad137.add ((x40_2).toNat * 2)).off + 1, none⟩ = some (.slice A137_1 ((rd_T46 l0_2 x40_2).f1).length c137_1) ∧ w'.cell? (ad138.add ((x40_2).toNat * 2)) = some (.bool ((rd_T46 l1_2 x40_2).f0)) ∧ w'.cell? ⟨(ad138.add ((x40_2).toNat * 2)).block, (ad138.add ((x40_2).toNat * 2)).off + 1, none⟩ = some (.slice A138_1 ((rd_T46 l1_2 x40_2).f1).length c138_1) ∧ w'.cell? (ad137.add ((x40_2).toNat * 2)) = some (.bool ((rd_T46 l0_2 x40_2).f0)) ∧ w'.cell? ⟨(ad137.add ((x40_2).toNat * 2)).block, (ad137.add ((x40_2).toNat * 2)).off + 1, none⟩ = some (.slice A137_1 ((rd_T46 l0_2 x40_2).f1).length c137_1) ∧ w'.cell? (ad138.add ((x40_2).toNat * 2)) = some (.bool ((rd_T46 l1_2 x40_2).f0)) ∧ w'.cell? ⟨(ad138.add ((x40_2).toNat * 2)).block, (ad138.add ((x40_2).toNat * 2)).off + 1, none⟩ = some (.slice A138_1 ((rd_T46 l1_2 x40_2).f1).length c138_1)) (ds := []) (bs 43 0) (by kernel_rfl) rfl rfl ⟨(Y0 BK132.out 0).trans rfl, (Y0 BK132.out 1).trans rfl, (Y0 BK132.out 2).trans rfl, (Y0 BK133.out 0).trans rfl, (Y0 BK133.out 1).trans rfl, (Y0 BK133.out 2).trans rfl, ((HB.out.cell (World.block_lt_of_cell? w _ hw137_0)).trans hw137_0), ((HB.out.cell (World.block_lt_of_cell? w _ hw137_1)).trans hw137_1), ((HB.out.cell (World.block_lt_of_cell? w _ hw138_0)).trans hw138_0), ((HB.out.cell (World.block_lt_of_cell? w _ hw138_1)).trans hw138_1), ((HB.out.cell (World.block_lt_of_cell? w _ hw139_0)).trans hw139_0), ((HB.out.cell (World.block_lt_of_cell? w _ hw139_1)).trans hw139_1), ((HB.out.cell (World.block_lt_of_cell? w _ hw140_0)).trans hw140_0), ((HB.out.cell (World.block_lt_of_cell? w _ hw140_1)).trans hw140_1)⟩ (fun hHeld => ?_); refine with_tabW table_Differ.tab13 table_Differ.bits13 (fun HT_ HW_ => ?_)
                generalize wr.drew = w40 at HO_8 BK132 BK133 HB HR137_1 HR138_1 HR139_1 HR140_1 hx137_0 hx137_1 hx138_0 hx138_1 hx139_0 hx139_1 hx140_0 hx140_1 hHeld ⊢
                refine Y8 (i := 0) (N := some 43) (v := ?_) (a' := ?_) (bs 43 1) rfl rfl (Y3 HT_.out (by kernel_rfl)) (fun _ _ _ h => h) (Or.inl ⟨by rfl, ?_⟩) ?_ ?_
                rotate_left
                ·intro w'
                 go_simp
                 with_reducible rfl
                rotate_left
                ·simp only [Act.put, Z1, Z2, Z3, Y4, Y5]
                 rfl
                refine Y8 (i := 1) (N := some 44) (v := ?_) (a' := ?_) (bs 43 3) rfl rfl (Y3 HT_.out (by kernel_rfl)) (fun _ _ _ h => h) (Or.inl ⟨by rfl, ?_⟩) ?_ ?_
                rotate_left
                ·intro w'
                 go_simp
                 with_reducible rfl
                rotate_left
                ·simp only [Act.put, Z1, Z2, Z3, Y4, Y5]
                 rfl
                refine take_ (i := 2) (N := some 45) (v := ?_) (a' := ?_) (bs 43 7) rfl rfl (take_ofW HT_.out HW_.out (by kernel_rfl)) (fun _ _ _ h => h) (Or.inl ⟨by rfl, ?_⟩) hHeld ?_ ?_
                rotate_left
                ·rintro w' ⟨s0, s1, s2, s3, s4, s5, s6, s7, s8, s9, s10, s11, s12, s13⟩
                 go_simp
                 with_reducible rfl
                rotate_left
                ·simp only [Act.put, Z1, Z2, Z3, Y4, Y5]
                 rfl
                refine Y8 (i := 3) (N := some 46) (v := ?_) (a' := ?_) (bs 43 15) rfl rfl (Y3 HT_.out (by kernel_rfl)) (fun _ _ _ h => h) (Or.inl ⟨by rfl, ?_⟩) ?_ ?_
                rotate_left
                ·intro w'
                 go_simp
                 with_reducible rfl
                rotate_left
                ·simp only [Act.put, Z1, Z2, Z3, Y4, Y5]
                 rfl
                refine Y8 (i := 4) (N := some 47) (v := ?_) (a' := ?_) (bs 43 31) rfl rfl (Y3 HT_.out (by kernel_rfl)) (fun _ _ _ h => h) (Or.inl ⟨by rfl, ?_⟩) ?_ ?_
                rotate_left
                ·intro w'
                 go_simp
                 with_reducible rfl
                rotate_left
                ·simp only [Act.put, Z1, Z2, Z3, Y4, Y5]
                 rfl
                refine Y8 (i := 5) (N := some 48) (v := ?_) (a' := ?_) (bs 43 63) rfl rfl (Y3 HT_.out (by kernel_rfl)) (fun _ _ _ h => h) (Or.inl ⟨by rfl, ?_⟩) ?_ ?_
                rotate_left
                ·intro w'
                 go_simp
                 with_reducible rfl
                rotate_left
                ·simp only [Act.put, Z1, Z2, Z3, Y4, Y5]
                 rfl
                refine Y8 (i := 6) (N := some 49) (v := ?_) (a' := ?_) (bs 43 127) rfl rfl (Y3 HT_.out (by kernel_rfl)) (fun _ _ _ h => h) (Or.inl ⟨by rfl, ?_⟩) ?_ ?_
                rotate_left
                ·intro w'
                 go_simp
                 with_reducible rfl
                rotate_left
                ·simp only [Act.put, Z1, Z2, Z3, Y4, Y5]
                 rfl
                refine Y8 (i := 7) (N := some 50) (v := ?_) (a' := ?_) (bs 43 255) rfl rfl (Y3 HT_.out (by kernel_rfl)) (fun _ _ _ h => h) (Or.inl ⟨by rfl, ?_⟩) ?_ ?_
                rotate_left
                ·intro w'
                 go_simp
                 with_reducible rfl
                rotate_left
                ·simp only [Act.put, Z1, Z2, Z3, Y4, Y5]
                 rfl
                refine take_ (i := 8) (N := some 51) (v := ?_) (a' := ?_) (bs 43 511) rfl rfl (take_ofW HT_.out HW_.out (by kernel_rfl)) (fun _ _ _ h => h) (Or.inl ⟨by rfl, ?_⟩) hHeld ?_ ?_
                rotate_left
                ·rintro w' ⟨s0, s1, s2, s3, s4, s5, s6, s7, s8, s9, s10, s11, s12, s13⟩
                 go_simp
                 with_reducible rfl
                rotate_left
                ·simp only [Act.put, Z1, Z2, Z3, Y4, Y5]
                 rfl
                refine Y8 (i := 9) (N := some 52) (v := ?_) (a' := ?_) (bs 43 1023) rfl rfl (Y3 HT_.out (by kernel_rfl)) (fun _ _ _ h => h) (Or.inl ⟨by rfl, ?_⟩) ?_ ?_
                rotate_left
                ·intro w'
                 go_simp
                 with_reducible rfl
                rotate_left
                ·simp only [Act.put, Z1, Z2, Z3, Y4, Y5]
                 rfl
                refine Y8 (i := 10) (N := some 53) (v := ?_) (a' := ?_) (bs 43 2047) rfl rfl (Y3 HT_.out (by kernel_rfl)) (fun _ _ _ h => h) (Or.inl ⟨by rfl, ?_⟩) ?_ ?_
                rotate_left
                ·intro w'
                 go_simp
                 with_reducible rfl
                rotate_left
                ·simp only [Act.put, Z1, Z2, Z3, Y4, Y5]
                 rfl
                refine Y8 (i := 11) (N := some 54) (v := ?_) (a' := ?_) (bs 43 4095) rfl rfl (Y3 HT_.out (by kernel_rfl)) (fun _ _ _ h => h) (Or.inl ⟨by rfl, ?_⟩) ?_ ?_
                rotate_left
                ·intro w'
                 go_simp
                 with_reducible rfl
                rotate_left
                ·simp only [Act.put, Z1, Z2, Z3, Y4, Y5]
                 rfl
                refine Y8 (i := 12) (N := some 55) (v := ?_) (a' := ?_) (bs 43 8191) rfl rfl (Y3 HT_.out (by kernel_rfl)) (fun _ _ _ h => h) (Or.inl ⟨by rfl, ?_⟩) ?_ ?_
                rotate_left
                ·intro w'
                 go_simp
                 with_reducible rfl
                rotate_left
                ·simp only [Act.put, Z1, Z2, Z3, Y4, Y5]
                 rfl
                refine Y8 (i := 13) (N := some 56) (v := ?_) (a' := ?_) (bs 43 16383) rfl rfl (Y3 HT_.out (by kernel_rfl)) (fun _ _ _ h => h) (Or.inl ⟨by rfl, ?_⟩) ?_ ?_
                rotate_left
                ·intro w'
                 go_simp
                 with_reducible rfl
                rotate_left
                ·simp only [Act.put, Z1, Z2, Z3, Y4, Y5]
                 rfl
                refine Y8 (i := 15) (N := some 58) (v := ?_) (a' := ?_) (bs 43 49151) rfl rfl (Y3 HT_.out (by kernel_rfl)) (fun _ _ _ h => h) (Or.inl ⟨by rfl, ?_⟩) ?_ ?_
                rotate_left
                ·intro w'
                 go_simp
                 with_reducible rfl
                rotate_left
                ·simp only [Act.put, Z1, Z2, Z3, Y4, Y5]
                 rfl
                refine Y8 (i := 19) (N := some 62) (v := ?_) (a' := ?_) (bs 43 573439) rfl rfl (Y3 HT_.out (by kernel_rfl)) (fun _ _ _ h => h) (Or.inl ⟨by rfl, ?_⟩) ?_ ?_
                rotate_left
                ·intro w'
                 go_simp
                 with_reducible rfl
                rotate_left
                ·simp only [Act.put, Z1, Z2, Z3, Y4, Y5]
                 rfl
                refine Y8 (i := 21) (N := some 64) (v := ?_) (a' := ?_) (bs 43 2670591) rfl rfl (Y3 HT_.out (by kernel_rfl)) (fun _ _ _ h => h) (Or.inl ⟨by rfl, ?_⟩) ?_ ?_
                rotate_left
                ·intro w'
                 go_simp
                 with_reducible rfl
                rotate_left
                ·simp only [Act.put, Z1, Z2, Z3, Y4, Y5]
                 rfl
                refine take_ (i := 14) (N := some 57) (v := ?_) (a' := ?_) (bs 43 2686975) rfl rfl (take_ofW HT_.out HW_.out (by kernel_rfl)) (fun _ _ _ h => h) (Or.inl ⟨by rfl, ?_⟩) hHeld ?_ ?_
                rotate_left
                ·rintro w' ⟨s0, s1, s2, s3, s4, s5, s6, s7, s8, s9, s10, s11, s12, s13⟩
                 go_simp
                 with_reducible rfl
                rotate_left
                ·simp only [Act.put, Z1, Z2, Z3, Y4, Y5]
                 rfl
                refine Y8 (i := 16) (N := some 59) (v := ?_) (a' := ?_) (bs 43 2752511) rfl rfl (Y3 HT_.out (by kernel_rfl)) (fun _ _ _ h => h) (Or.inl ⟨by rfl, ?_⟩) ?_ ?_
                rotate_left
                ·intro w'
                 go_simp
                 with_reducible rfl
                rotate_left
                ·simp only [Act.put, Z1, Z2, Z3, Y4, Y5]
                 rfl
                refine Y8 (i := 17) (N := some 60) (v := ?_) (a' := ?_) (bs 43 2883583) rfl rfl (Y3 HT_.out (by kernel_rfl)) (fun _ _ _ h => h) (Or.inl ⟨by rfl, ?_⟩) ?_ ?_
                rotate_left
                ·intro w'
                 go_simp
                 with_reducible rfl
                rotate_left
                ·simp only [Act.put, Z1, Z2, Z3, Y4, Y5]
                 rfl
                refine take_ (i := 18) (N := some 61) (v := ?_) (a' := ?_) (bs 43 3145727) rfl rfl (take_ofW HT_.out HW_.out (by kernel_rfl)) (fun _ _ _ h => h) (Or.inl ⟨by rfl, ?_⟩) hHeld ?_ ?_
                rotate_left
                ·rintro w' ⟨s0, s1, s2, s3, s4, s5, s6, s7, s8, s9, s10, s11, s12, s13⟩
                 go_simp
                 with_reducible rfl
                rotate_left
                ·simp only [Act.put, Z1, Z2, Z3, Y4, Y5]
                 rfl
                refine take_ (i := 20) (N := some 63) (v := ?_) (a' := ?_) (bs 43 4194303) rfl rfl (take_ofW HT_.out HW_.out (by kernel_rfl)) (fun _ _ _ h => h) (Or.inl ⟨by rfl, ?_⟩) hHeld ?_ ?_
                rotate_left
                ·rintro w' ⟨s0, s1, s2, s3, s4, s5, s6, s7, s8, s9, s10, s11, s12, s13⟩
                 go_simp
                 with_reducible rfl
                rotate_left
                ·simp only [Act.put, Z1, Z2, Z3, Y4, Y5]
                 rfl
                refine Y8 (i := 22) (N := some 65) (v := ?_) (a' := ?_) (bs 43 8388607) rfl rfl (Y3 HT_.out (by kernel_rfl)) (fun _ _ _ h => h) (Or.inl ⟨by rfl, ?_⟩) ?_ ?_
                rotate_left
                ·intro w'
                 go_simp
                 with_reducible rfl
                rotate_left
                ·simp only [Act.put, Z1, Z2, Z3, Y4, Y5]
                 rfl
                refine Y8 (i := 23) (N := some 66) (v := ?_) (a' := ?_) (bs 43 16777215) rfl rfl (Y3 HT_.out (by kernel_rfl)) (fun _ _ _ h => h) (Or.inl ⟨by rfl, ?_⟩) ?_ ?_
                rotate_left
                ·intro w'
                 go_simp
                 with_reducible rfl
                rotate_left
                ·simp only [Act.put, Z1, Z2, Z3, Y4, Y5]
                 rfl
                refine take_ (i := 24) (N := some 67) (v := ?_) (a' := ?_) (bs 43 33554431) rfl rfl (take_ofW HT_.out HW_.out (by kernel_rfl)) (fun _ _ _ h => h) (Or.inl ⟨by rfl, ?_⟩) hHeld ?_ ?_
                rotate_left
                ·rintro w' ⟨s0, s1, s2, s3, s4, s5, s6, s7, s8, s9, s10, s11, s12, s13⟩
                 go_simp
                 with_reducible rfl
                rotate_left
                ·simp only [Act.put, Z1, Z2, Z3, Y4, Y5]
                 rfl
                refine Y8 (i := 25) (N := some 68) (v := ?_) (a' := ?_) (bs 43 67108863) rfl rfl (Y3 HT_.out (by kernel_rfl)) (fun _ _ _ h => h) (Or.inl ⟨by rfl, ?_⟩) ?_ ?_
                rotate_left
                ·intro w'
                 go_simp
                 with_reducible rfl
                rotate_left
                ·simp only [Act.put, Z1, Z2, Z3, Y4, Y5]
                 rfl
                refine Y8 (i := 26) (N := some 69) (v := ?_) (a' := ?_) (bs 43 134217727) rfl rfl (Y3 HT_.out (by kernel_rfl)) (fun _ _ _ h => h) (Or.inl ⟨by rfl, ?_⟩) ?_ ?_
                rotate_left
                ·intro w'
                 go_simp
                 with_reducible rfl
                rotate_left
                ·simp only [Act.put, Z1, Z2, Z3, Y4, Y5]
                 rfl
                refine Y8 (i := 27) (N := some 70) (v := ?_) (a' := ?_) (bs 43 268435455) rfl rfl (Y3 HT_.out (by kernel_rfl)) (fun _ _ _ h => h) (Or.inl ⟨by rfl, ?_⟩) ?_ ?_
                rotate_left
                ·intro w'
                 go_simp
                 with_reducible rfl
                rotate_left
                ·simp only [Act.put, Z1, Z2, Z3, Y4, Y5]
                 rfl
                refine Y8 (i := 28) (N := some 71) (v := ?_) (a' := ?_) (bs 43 536870911) rfl rfl (Y3 HT_.out (by kernel_rfl)) (fun _ _ _ h => h) (Or.inl ⟨by rfl, ?_⟩) ?_ ?_
                rotate_left
                ·intro w'
                 go_simp
                 with_reducible rfl
                rotate_left
                ·simp only [Act.put, Z1, Z2, Z3, Y4, Y5]
                 rfl
                refine Y8 (i := 30) (N := some 73) (v := ?_) (a' := ?_) (bs 43 1610612735) rfl rfl (Y3 HT_.out (by kernel_rfl)) (fun _ _ _ h => h) (Or.inl ⟨by rfl, ?_⟩) ?_ ?_
                rotate_left
                ·intro w'
                 go_simp
                 with_reducible rfl
                rotate_left
                ·simp only [Act.put, Z1, Z2, Z3, Y4, Y5]
                 rfl
                refine Y8 (i := 34) (N := some 77) (v := ?_) (a' := ?_) (bs 43 18790481919) rfl rfl (Y3 HT_.out (by kernel_rfl)) (fun _ _ _ h => h) (Or.inl ⟨by rfl, ?_⟩) ?_ ?_
                rotate_left
                ·intro w'
                 go_simp
                 with_reducible rfl
                rotate_left
                ·simp only [Act.put, Z1, Z2, Z3, Y4, Y5]
                 rfl
                refine Y8 (i := 36) (N := some 79) (v := ?_) (a' := ?_) (bs 43 87509958655) rfl rfl (Y3 HT_.out (by kernel_rfl)) (fun _ _ _ h => h) (Or.inl ⟨by rfl, ?_⟩) ?_ ?_
                rotate_left
                ·intro w'
                 go_simp
                 with_reducible rfl
                rotate_left
                ·simp only [Act.put, Z1, Z2, Z3, Y4, Y5]
                 rfl
                refine take_ (i := 29) (N := some 72) (v := ?_) (a' := ?_) (bs 43 88046829567) rfl rfl (take_ofW HT_.out HW_.out (by kernel_rfl)) (fun _ _ _ h => h) (Or.inl ⟨by rfl, ?_⟩) hHeld ?_ ?_
                rotate_left
                ·rintro w' ⟨s0, s1, s2, s3, s4, s5, s6, s7, s8, s9, s10, s11, s12, s13⟩
                 go_simp
                 with_reducible rfl
                rotate_left
                ·simp only [Act.put, Z1, Z2, Z3, Y4, Y5]
                 rfl
                refine Y8 (i := 31) (N := some 74) (v := ?_) (a' := ?_) (bs 43 90194313215) rfl rfl (Y3 HT_.out (by kernel_rfl)) (fun _ _ _ h => h) (Or.inl ⟨by rfl, ?_⟩) ?_ ?_
                rotate_left
                ·intro w'
                 go_simp
                 with_reducible rfl
                rotate_left
                ·simp only [Act.put, Z1, Z2, Z3, Y4, Y5]
                 rfl
                refine Y8 (i := 32) (N := some 75) (v := ?_) (a' := ?_) (bs 43 94489280511) rfl rfl (Y3 HT_.out (by kernel_rfl)) (fun _ _ _ h => h) (Or.inl ⟨by rfl, ?_⟩) ?_ ?_
                rotate_left
                ·intro w'
                 go_simp
                 with_reducible rfl
                rotate_left
                ·simp only [Act.put, Z1, Z2, Z3, Y4, Y5]
                 rfl
                refine take_ (i := 33) (N := some 76) (v := ?_) (a' := ?_) (bs 43 103079215103) rfl rfl (take_ofW HT_.out HW_.out (by kernel_rfl)) (fun _ _ _ h => h) (Or.inl ⟨by rfl, ?_⟩) hHeld ?_ ?_
                rotate_left
                ·rintro w' ⟨s0, s1, s2, s3, s4, s5, s6, s7, s8, s9, s10, s11, s12, s13⟩
                 go_simp
                 with_reducible rfl
                rotate_left
                ·simp only [Act.put, Z1, Z2, Z3, Y4, Y5]
                 rfl
                refine take_ (i := 35) (N := some 78) (v := ?_) (a' := ?_) (bs 43 137438953471) rfl rfl (take_ofW HT_.out HW_.out (by kernel_rfl)) (fun _ _ _ h => h) (Or.inl ⟨by rfl, ?_⟩) hHeld ?_ ?_
                rotate_left
                ·rintro w' ⟨s0, s1, s2, s3, s4, s5, s6, s7, s8, s9, s10, s11, s12, s13⟩
                 go_simp
                 with_reducible rfl
                rotate_left
                ·simp only [Act.put, Z1, Z2, Z3, Y4, Y5]
                 rfl
                refine Y8 (i := 37) (N := some 80) (v := ?_) (a' := ?_) (bs 43 274877906943) rfl rfl (Y3 HT_.out (by kernel_rfl)) (fun _ _ _ h => h) (Or.inl ⟨by rfl, ?_⟩) ?_ ?_
                rotate_left
                ·intro w'
                 go_simp
                 with_reducible rfl
                rotate_left
                ·simp only [Act.put, Z1, Z2, Z3, Y4, Y5]
                 rfl
                refine Y8 (i := 38) (N := some 81) (v := ?_) (a' := ?_) (bs 43 549755813887) rfl rfl (Y3 HT_.out (by kernel_rfl)) (fun _ _ _ h => h) (Or.inl ⟨by rfl, ?_⟩) ?_ ?_
                rotate_left
                ·intro w'
                 go_simp
                 with_reducible rfl
                rotate_left
                ·simp only [Act.put, Z1, Z2, Z3, Y4, Y5]
                 rfl
                refine take_ (i := 39) (N := some 82) (v := ?_) (a' := ?_) (bs 43 1099511627775) rfl rfl (take_ofW HT_.out HW_.out (by kernel_rfl)) (fun _ _ _ h => h) (Or.inl ⟨by rfl, ?_⟩) hHeld ?_ ?_
                rotate_left
                ·rintro w' ⟨s0, s1, s2, s3, s4, s5, s6, s7, s8, s9, s10, s11, s12, s13⟩
                 go_simp
                 with_reducible rfl
                rotate_left
                ·simp only [Act.put, Z1, Z2, Z3, Y4, Y5]
                 rfl
                refine one_ (i := 40) (N := some 83) (bs 43 2199023255551) rfl rfl (one_of HT_.out (by kernel_rfl)) (by decide) (fun K hK => ?_)
                refine goes_ Tryz.func78 (by kernel_rfl) rfl #[.slice A137_1 ((rd_T46 l0_2 x40_2).f1).length c137_1, .slice A138_1 ((rd_T46 l1_2 x40_2).f1).length c138_1] (by rfl) rfl rfl V1 ?_
                with_reducible refine (api_Value.calls k2 _ _ ((rd_T46 l0_2 x40_2).f1) _ _ ((rd_T46 l1_2 x40_2).f1) t141 _ ?side1 ?side2 ?side3 ?side4 A39.out).mono ?_
                (case side1 => repeat (first | exact (Kd.C_below HR139_1.out HB.out) | (with_reducible refine Kd.C_alloc ?_ _) | (with_reducible refine Kd.C_drewN ?_ _) | (with_reducible refine Kd.C_drew ?_)))
                (case side2 => exact HC139_1.out)
                (case side3 => repeat (first | exact (Kd.C_below HR140_1.out HB.out) | (with_reducible refine Kd.C_alloc ?_ _) | (with_reducible refine Kd.C_drewN ?_ _) | (with_reducible refine Kd.C_drew ?_)))
                (case side4 => exact HC140_1.out)
                rintro e w' ⟨rfl, ⟨nd, rfl⟩⟩
                refine ⟨_, rfl, ?_⟩
                refine hK.out _ _ ⟨(Y0 BK132.out 0).trans rfl, (Y0 BK132.out 1).trans rfl, (Y0 BK132.out 2).trans rfl, (Y0 BK133.out 0).trans rfl, (Y0 BK133.out 1).trans rfl, (Y0 BK133.out 2).trans rfl, ((HB.out.cell (World.block_lt_of_cell? w _ hw137_0)).trans hw137_0), ((HB.out.cell (World.block_lt_of_cell? w _ hw137_1)).trans hw137_1), ((HB.out.cell (World.block_lt_of_cell? w _ hw138_0)).trans hw138_0), ((HB.out.cell (World.block_lt_of_cell? w _ hw138_1)).trans hw138_1), ((HB.out.cell (World.block_lt_of_cell? w _ hw139_0)).trans hw139_0), ((HB.out.cell (World.block_lt_of_cell? w _ hw139_1)).trans hw139_1), ((HB.out.cell (World.block_lt_of_cell? w _ hw140_0)).trans hw140_0), ((HB.out.cell (World.block_lt_of_cell? w _ hw140_1)).trans hw140_1)⟩ (fun hHeld => ?_)
                clear hK K
                refine norm_ (a' := ?_) ?_ ?_
                rotate_left
                ·show Act.put _ (some 83) _ = _
                 simp only [Act.put, Z1, Z2, Z3, Y4, Y5]
                 rfl
                refine Y8 (i := 41) (N := some 84) (v := ?_) (a' := ?_) (bs 43 4398046511103) rfl rfl (Y3 HT_.out (by kernel_rfl)) (fun _ _ _ h => h) (Or.inl ⟨by rfl, ?_⟩) ?_ ?_
                rotate_left
                ·intro w'
                 go_simp
                 with_reducible rfl
                rotate_left
                ·simp only [Act.put, Z1, Z2, Z3, Y4, Y5]
                 rfl
                refine Y8 (i := 42) (N := some 85) (v := ?_) (a' := ?_) (bs 43 8796093022207) rfl rfl (Y3 HT_.out (by kernel_rfl)) (fun _ _ _ h => h) (Or.inl ⟨by rfl, ?_⟩) ?_ ?_
                rotate_left
                ·intro w'
                 go_simp
                 with_reducible rfl
                rotate_left
                ·simp only [Act.put, Z1, Z2, Z3, Y4, Y5]
                 rfl
                refine done_ (done_of HT_.out (by kernel_rfl)) ?_
                try go_wp2
                go_meet
                case rel => exact ⟨_, (!t141), V2, H', ⟨by have := HJ6.out; have := HK2.out; first | omega | exact Nat.le_refl _⟩, ⟨by (with_reducible repeat (first | apply Kd.R_alloc | apply Kd.R_drewN | apply Kd.R_drew)); exact HO_8.out⟩, ⟨by (with_reducible repeat (first | refine Z6 ?_ _ | refine Z8 ?_ | refine Z7 ?_ _)); exact BK132.out⟩, ⟨by (with_reducible repeat (first | refine Z6 ?_ _ | refine Z8 ?_ | refine Z7 ?_ _)); exact BK133.out⟩, ⟨V0⟩⟩
              ·rw [if_neg c36] at H
               exact absurd H (by simp)
             ·rw [if_neg c35] at H
              exact absurd H (by simp)
            ·rw [if_neg c34] at H
             exact absurd H (by simp)
         case rest =>
          clear HC29
          (try clear c1);(try clear p1);(try clear q1);(try clear hx1);(try clear p2);(try clear c3);(try clear c7);(try clear c13);(try clear p13);(try clear q13);(try clear hx13);(try clear c14);(try clear p14);(try clear q14);(try clear hx14);(try clear c34);(try clear c35);(try clear c36);(try clear c37);(try clear c37b0);(try clear c37b1);(try clear c37b2);(try clear hx137_0);(try clear hx137_1);(try clear hx138_0);(try clear hx138_1);(try clear hx139_0);(try clear hx139_1);(try clear hx140_0);(try clear hx140_1);(try clear p137);(try clear p138);(try clear p139);(try clear p140);(try clear q137);(try clear q138);(try clear q139);(try clear q140)
          obtain ⟨kq, x85_28, rfl, HA, HJ28, HO_8, BK132, BK133, HB⟩ := hcut
          cases kq with
          | zero => exact absurd HA.out (by simp [table_Differ.j2])
          | succ kj28 =>
           have H := HA.out
           clear HA
           simp only [table_Differ.j2] at H
           by_cases c41 : x85_28 = true
           ·subst c41
            have H1 : (if x8_2.length < 17592186044416 then (table_Differ.l0 kj28 (x8_2 ++ [wrap64 (x40_2 + 1)]) ji24 (wrap64 (x40_2 + 1)) a0_0 l0_1 l0_2 a1_0 l1_1 l1_2) else (none)) = some (r1, r2) := by rw [if_pos rfl] at H; exact H
            clear H
            have H := H1
            clear H1
            by_cases c42 : x8_2.length < 17592186044416
            ·rw [if_pos c42] at H
             have LMc42 := Z0 c42
             clear c42
             obtain ⟨y142, hy142⟩ : ∃ y_ : List Int, y_ = (x8_2 ++ [wrap64 (x40_2 + 1)]) := ⟨_, rfl⟩
             replace H : (table_Differ.l0 kj28 y142 ji24 (wrap64 (x40_2 + 1)) a0_0 l0_1 l0_2 a1_0 l1_1 l1_2) = some (r1, r2) := by rw [hy142]; exact H
             have Ny142 := Z0 hy142
             clear hy142
             have H' := Z0 H
             clear H
             go_wp2_with (first | ((with_reducible refine gate_builtin (b := .append) (xs := #[.tmp 86, .tmp 89]) rfl ?_); (try (refine gate_guard (by rfl) ?_; dsimp only)); at_builtin; refine Kd.R_append (Kd.int .i64) (w0 := w) w.heap.size rfl (.tmp 86) (.tmp 89) 55 3 (.int .i64 0) 8 rfl Tryz.underlying55 info3 rfl (by decide) (by omega) u8 x8_2 (wrap64 (x40_2 + 1)) [.int .i64 (wrap64 (x40_2 + 1))] (fun _ => True) (fun _ => False) rfl rfl ?aP (fun _ hk => hk.elim) ?aF ?aO ?aB ?aS ?aL ?_; (case aP => exact rfl); (case aB => exact HB.out); (case aF => exact (fun _ _ => trivial)); (case aO => exact HO_8.out); (case aS => exact (Z9 HB.out)); (case aL => have := LMc42.out; omega); intro v143 w43 ho hb hg hat; rw [← Ny142.out] at ho; replace BK132 := Z0 (blk_grown (g := gb132) (o := .cells #[.int .i64 a0_0, .slice A0_1 l0_1.length c0_1, .slice A0_2 l0_2.length c0_2] 35 (0, 0)) BK132.out hg (Kd.R_ne HO_8.out BK132.out (by decide))); replace BK133 := Z0 (blk_grown (g := gb133) (o := .cells #[.int .i64 a1_0, .slice A1_1 l1_1.length c1_1, .slice A1_2 l1_2.length c1_2] 35 (0, 0)) BK133.out hg (Kd.R_ne HO_8.out BK133.out (by decide))); replace HB := Z0 (hb); have HO144 := Z0 (ho); clear HO_8; clear ho hb hg hat))
             go_roundg kj28
             case measure => have := HJ6.out; have := HK2.out; have := HJ28.out; omega
             case rel => exact ⟨(y142), (wrap64 (x40_2 + 1)), V2, H', ⟨by have := HJ6.out; have := HK2.out; have := HJ28.out; omega⟩, ⟨by (with_reducible repeat (first | apply Kd.R_alloc | apply Kd.R_drewN | apply Kd.R_drew)); exact HO144.out⟩, ⟨by (with_reducible repeat (first | refine Z6 ?_ _ | refine Z8 ?_ | refine Z7 ?_ _)); exact BK132.out⟩, ⟨by (with_reducible repeat (first | refine Z6 ?_ _ | refine Z8 ?_ | refine Z7 ?_ _)); exact BK133.out⟩, ⟨V0⟩⟩
            ·rw [if_neg c42] at H
             exact absurd H (by simp)
           ·replace c41 := Bool.eq_false_iff.mpr c41
            subst c41
            have H1 : (table_Differ.l0 kj28 x8_2 ji24 (wrap64 (x40_2 + 1)) a0_0 l0_1 l0_2 a1_0 l1_1 l1_2) = some (r1, r2) := by rw [if_neg (show ¬ (false = true) by decide)] at H; exact H
            clear H
            have H := H1
            clear H1
            have H' := Z0 H
            clear H
            go_wp2
            go_roundg kj28
            case measure => have := HJ6.out; have := HK2.out; have := HJ28.out; omega
            case rel => exact ⟨(x8_2), (wrap64 (x40_2 + 1)), V2, H', ⟨by have := HJ6.out; have := HK2.out; have := HJ28.out; omega⟩, ⟨by (with_reducible repeat (first | apply Kd.R_alloc | apply Kd.R_drewN | apply Kd.R_drew)); exact HO_8.out⟩, ⟨by (with_reducible repeat (first | refine Z6 ?_ _ | refine Z8 ?_ | refine Z7 ?_ _)); exact BK132.out⟩, ⟨by (with_reducible repeat (first | refine Z6 ?_ _ | refine Z8 ?_ | refine Z7 ?_ _)); exact BK133.out⟩, ⟨V0⟩⟩
        ·rw [if_neg c28] at H
         have c28b0 : decide (x40_2 < ji24) = false := decide_eq_false c28
         clear c28
         simp only [Option.some.injEq, Prod.mk.injEq] at H
         obtain ⟨rfl, rfl⟩ := H
         go_wp2
         go_ret2
         exact ⟨_, by first | rfl | (simp [errW_none, errW_some] <;> rfl) | (simp only [← hji24]; first | rfl | (simp [errW_none, errW_some] <;> rfl)) | (simp [*, errW_none, errW_some] <;> rfl), by (with_reducible repeat (first | apply Kd.R_alloc | apply Kd.R_drewN | apply Kd.R_drew)); exact HO_8.out, V0⟩
  ·rw [if_neg c6] at H
   have c6b0 : (t135 == 0) = false := beq_eq_false_iff_ne.mpr c6
   have c6b1 : (t135 != 0) = true := bne_iff_ne.mpr c6
   simp only [Option.some.injEq, Prod.mk.injEq] at H
   obtain ⟨rfl, rfl⟩ := H
   go_enter Tryz.func39, Tryz.ntmps39
   go_wp2_with (first | ((with_reducible refine Y1 (N := 2) rfl ?_); (try (refine gate_guard (by rfl) ?_; dsimp only)); refine bx (N := 2) (cs := #[.int .i64 a0_0, .slice A0_1 l0_1.length c0_1, .slice A0_2 l0_2.length c0_2]) (t := 35) ?_; intro gb132 hg w44 hbox hb; have BK132 := Z0 (hbox); have GE132 := Z0 ((by rw [hg]; exact (Z9 HB.out) : w.heap.size ≤ gb132)); replace HB := Z0 (Z4 HB.out hb); clear hb hbox hg) | ((with_reducible refine Y1 (N := 3) rfl ?_); (try (refine gate_guard (by rfl) ?_; dsimp only)); refine bx (N := 3) (cs := #[.int .i64 a1_0, .slice A1_1 l1_1.length c1_1, .slice A1_2 l1_2.length c1_2]) (t := 35) ?_; intro gb133 hg w45 hbox hb; have BK133 := Z0 (hbox); have GE133 := Z0 ((by rw [hg]; exact (Z9 HB.out) : w.heap.size ≤ gb133)); replace HB := Z0 (Z4 HB.out hb); have NB132_133 := Z0 ((by rw [hg]; exact Nat.ne_of_lt (blk_lt BK132.out) : gb132 ≠ gb133)); have NB133_132 := Z0 ((by rw [hg]; exact Nat.ne_of_gt (blk_lt BK132.out) : gb133 ≠ gb132)); replace BK132 := Z0 (Z5 BK132.out hb); clear hb hbox hg; have hnb46 := NB132_133.out; have hnc46 := NB133_132.out; obtain ⟨hcz47_0, hcz47_1, hcz47_2⟩ := bc3 BK132.out; obtain ⟨hfz47_0, hfz47_1, hfz47_2⟩ := bf3 BK132.out) | ((with_reducible refine Y2 (f := 34) rfl ?_); refine goesL_ (some 11) rfl rfl Tryz.func34 (by kernel_rfl) rfl #[.agg #[.int .i64 a0_0, .slice A0_1 l0_1.length c0_1, .slice A0_2 l0_2.length c0_2]] rfl V1 ?_; (with_reducible refine (table_Validate.calls k a0_0 _ _ l0_1 _ _ l0_2 t134 _ ?side1 ?side2 ?side3 ?side4 A3.out).mono ?_); (case side1 => repeat (first | exact (Kd.C_below HR0_1.out HB.out) | (with_reducible refine Kd.C_alloc ?_ _) | (with_reducible refine Kd.C_drewN ?_ _) | (with_reducible refine Kd.C_drew ?_))); (case side2 => exact HC0_1.out); (case side3 => repeat (first | exact (Kd.C_below HR0_2.out HB.out) | (with_reducible refine Kd.C_alloc ?_ _) | (with_reducible refine Kd.C_drewN ?_ _) | (with_reducible refine Kd.C_drew ?_))); (case side4 => exact HC0_2.out); rintro e w48 ⟨rfl, hb⟩; refine ⟨_, rfl, ?_⟩; replace BK132 := Z0 (Z5 BK132.out hb); replace BK133 := Z0 (Z5 BK133.out hb); replace HB := Z0 (Z4 HB.out hb); (try clear hb); (try clear hb2); (try clear hk); (try clear hi); obtain ⟨hcz49_0, hcz49_1, hcz49_2⟩ := bc3 BK133.out; obtain ⟨hfz49_0, hfz49_1, hfz49_2⟩ := bf3 BK133.out) | ((with_reducible refine Y2 (f := 34) rfl ?_); refine goesL_ (some 16) rfl rfl Tryz.func34 (by kernel_rfl) rfl #[.agg #[.int .i64 a1_0, .slice A1_1 l1_1.length c1_1, .slice A1_2 l1_2.length c1_2]] rfl V1 ?_; (with_reducible refine (table_Validate.calls k a1_0 _ _ l1_1 _ _ l1_2 t135 _ ?side1 ?side2 ?side3 ?side4 A5.out).mono ?_); (case side1 => repeat (first | exact (Kd.C_below HR1_1.out HB.out) | (with_reducible refine Kd.C_alloc ?_ _) | (with_reducible refine Kd.C_drewN ?_ _) | (with_reducible refine Kd.C_drew ?_))); (case side2 => exact HC1_1.out); (case side3 => repeat (first | exact (Kd.C_below HR1_2.out HB.out) | (with_reducible refine Kd.C_alloc ?_ _) | (with_reducible refine Kd.C_drewN ?_ _) | (with_reducible refine Kd.C_drew ?_))); (case side4 => exact HC1_2.out); rintro e w50 ⟨rfl, hb⟩; refine ⟨_, rfl, ?_⟩; replace BK132 := Z0 (Z5 BK132.out hb); replace BK133 := Z0 (Z5 BK133.out hb); replace HB := Z0 (Z4 HB.out hb); (try clear hb); (try clear hb2); (try clear hk); (try clear hi)))
   go_ret2
   exact ⟨_, rfl, by first | exact Kd.R_nil _ _ _ _ _ | exact Kd.N_nil _ _ _ _ _ | exact Kd.V_nil _ _ _ _ _ | exact Kd.Q_nil _ _ _ _ _ | exact Kd.S_nil _ _ _ _ _, V0⟩
 ·rw [if_neg c4] at H
  have c4b0 : (t134 == 0) = false := beq_eq_false_iff_ne.mpr c4
  have c4b1 : (t134 != 0) = true := bne_iff_ne.mpr c4
  simp only [Option.some.injEq, Prod.mk.injEq] at H
  obtain ⟨rfl, rfl⟩ := H
  go_enter Tryz.func39, Tryz.ntmps39
  go_wp2_with (first | ((with_reducible refine Y1 (N := 2) rfl ?_); (try (refine gate_guard (by rfl) ?_; dsimp only)); refine bx (N := 2) (cs := #[.int .i64 a0_0, .slice A0_1 l0_1.length c0_1, .slice A0_2 l0_2.length c0_2]) (t := 35) ?_; intro gb132 hg w51 hbox hb; have BK132 := Z0 (hbox); have GE132 := Z0 ((by rw [hg]; exact (Z9 HB.out) : w.heap.size ≤ gb132)); replace HB := Z0 (Z4 HB.out hb); clear hb hbox hg) | ((with_reducible refine Y1 (N := 3) rfl ?_); (try (refine gate_guard (by rfl) ?_; dsimp only)); refine bx (N := 3) (cs := #[.int .i64 a1_0, .slice A1_1 l1_1.length c1_1, .slice A1_2 l1_2.length c1_2]) (t := 35) ?_; intro gb133 hg w52 hbox hb; have BK133 := Z0 (hbox); have GE133 := Z0 ((by rw [hg]; exact (Z9 HB.out) : w.heap.size ≤ gb133)); replace HB := Z0 (Z4 HB.out hb); have NB132_133 := Z0 ((by rw [hg]; exact Nat.ne_of_lt (blk_lt BK132.out) : gb132 ≠ gb133)); have NB133_132 := Z0 ((by rw [hg]; exact Nat.ne_of_gt (blk_lt BK132.out) : gb133 ≠ gb132)); replace BK132 := Z0 (Z5 BK132.out hb); clear hb hbox hg; have hnb53 := NB132_133.out; have hnc53 := NB133_132.out; obtain ⟨hcz54_0, hcz54_1, hcz54_2⟩ := bc3 BK132.out; obtain ⟨hfz54_0, hfz54_1, hfz54_2⟩ := bf3 BK132.out) | ((with_reducible refine Y2 (f := 34) rfl ?_); refine goesL_ (some 11) rfl rfl Tryz.func34 (by kernel_rfl) rfl #[.agg #[.int .i64 a0_0, .slice A0_1 l0_1.length c0_1, .slice A0_2 l0_2.length c0_2]] rfl V1 ?_; (with_reducible refine (table_Validate.calls k a0_0 _ _ l0_1 _ _ l0_2 t134 _ ?side1 ?side2 ?side3 ?side4 A3.out).mono ?_); (case side1 => repeat (first | exact (Kd.C_below HR0_1.out HB.out) | (with_reducible refine Kd.C_alloc ?_ _) | (with_reducible refine Kd.C_drewN ?_ _) | (with_reducible refine Kd.C_drew ?_))); (case side2 => exact HC0_1.out); (case side3 => repeat (first | exact (Kd.C_below HR0_2.out HB.out) | (with_reducible refine Kd.C_alloc ?_ _) | (with_reducible refine Kd.C_drewN ?_ _) | (with_reducible refine Kd.C_drew ?_))); (case side4 => exact HC0_2.out); rintro e w55 ⟨rfl, hb⟩; refine ⟨_, rfl, ?_⟩; replace BK132 := Z0 (Z5 BK132.out hb); replace BK133 := Z0 (Z5 BK133.out hb); replace HB := Z0 (Z4 HB.out hb); (try clear hb); (try clear hb2); (try clear hk); (try clear hi)))
  go_ret2
  exact ⟨_, rfl, by first | exact Kd.R_nil _ _ _ _ _ | exact Kd.N_nil _ _ _ _ _ | exact Kd.V_nil _ _ _ _ _ | exact Kd.Q_nil _ _ _ _ _ | exact Kd.S_nil _ _ _ _ _, V0⟩
def cabinetryref01_SameValues.l0 : Nat → List (S25) → List (S25) → Int → Option (Bool)
 | 0, _, _, _ => none
 | k + 1, x0, x1, x5 => if x5 < (x0.length : Int) then (if 0 ≤ x5 then (if x5 < (x1.length : Int) then ((cabinetryref01_SameValue.f k ((rd_T25 x0 x5).f0) ((rd_T25 x0 x5).f1) ((rd_T25 x0 x5).f2) ((rd_T25 x1 x5).f0) ((rd_T25 x1 x5).f1) ((rd_T25 x1 x5).f2)).bind fun t333 => (if t333 = true then (cabinetryref01_SameValues.l0 k x0 x1 (wrap64 (x5 + 1))) else (some false))) else (none)) else (none)) else (some true)
def cabinetryref01_SameValues.f (k : Nat) (l0 : List (S25)) (l1 : List (S25)) : Option (Bool) := if (l0.length : Int) = (l1.length : Int) then (cabinetryref01_SameValues.l0 k l0 l1 0) else (some false)
theorem cabinetryref01_SameValues.mono_l : ∀ k, (∀ y0 y1 y2, LeO (cabinetryref01_SameValues.l0 k y0 y1 y2) (cabinetryref01_SameValues.l0 (k + 1) y0 y1 y2))
 | 0 => fun _ _ _ r h => by simp [cabinetryref01_SameValues.l0] at h
 | k + 1 => by
  have ih0 := cabinetryref01_SameValues.mono_l k
  ·intro y0 y1 y2
   unfold cabinetryref01_SameValues.l0
   repeat' first
   | (with_reducible exact ih0 _ _ _)
   | (with_reducible exact cabinetryref01_SameValue.mono _ _ _ _ _ _ _)
   | (with_reducible exact LeO.refl _)
   | (with_reducible exact LeO.none _)
   | (with_reducible refine LeO.ite ?_ ?_)
   | (with_reducible refine LeO.bind ?_ (fun _ => ?_))
theorem cabinetryref01_SameValues.mono : ∀ a0 a1 k, LeO (cabinetryref01_SameValues.f k a0 a1) (cabinetryref01_SameValues.f (k + 1) a0 a1) := by
 intro a0 a1 k
 have ih0 := cabinetryref01_SameValues.mono_l k
 unfold cabinetryref01_SameValues.f
 repeat' first
   | (with_reducible exact ih0 _ _ _)
   | (with_reducible exact cabinetryref01_SameValue.mono _ _ _ _ _ _ _)
   | (with_reducible exact LeO.refl _)
   | (with_reducible exact LeO.none _)
   | (with_reducible refine LeO.ite ?_ ?_)
   | (with_reducible refine LeO.bind ?_ (fun _ => ?_))
def cabinetryref01_SameValues.T6 : Bool × List (List Nat × List Nat) := (true, [([], []), ([], []), ([0, 1], [0, 1]), ([2], [2]), ([], []), ([], []), ([4, 5], [4, 5]), ([6], [6]), ([3, 7], [3, 7]), ([8], [8])])
def cabinetryref01_SameValues.B6 : List Nat := [0, 0, 3, 7, 0, 0, 48, 112, 255, 511]
theorem cabinetryref01_SameValues.tab6 : rtab .any (opsOf Tryz.f68 6) = cabinetryref01_SameValues.T6 := by kernel_rfl
theorem cabinetryref01_SameValues.bits6 : waitsOk cabinetryref01_SameValues.T6.2 cabinetryref01_SameValues.B6 = true := by kernel_rfl
set_option maxHeartbeats 8000000 in
set_option maxRecDepth 100000 in
theorem cabinetryref01_SameValues.calls (k : Nat) (A0 : Option Addr) (c0 : Nat) (l0 : List (S25)) (A1 : Option Addr) (c1 : Nat) (l1 : List (S25)) (r : Bool) (w : World) (hr0 : Kd.C k25 w A0 l0.length l0) (hc0 : l0.length ≤ c0) (hr1 : Kd.C k25 w A1 l1.length l1) (hc1 : l1.length ≤ c1) (h : cabinetryref01_SameValues.f k l0 l1 = some r) :
  Calls Tryz.prog 68 #[.slice A0 l0.length c0, .slice A1 l1.length c1] w fun e w' => e = .returned (.bool r) ∧ Below w.heap.size w w' := by
 have hu25 := Tryz.underlying25
 have HR0 := Z0 hr0
 have HC0 := Z0 hc0
 clear hr0 hc0
 have HR1 := Z0 hr1
 have HC1 := Z0 hc1
 clear hr1 hc1
 have HB := Z0 (Below.refl w.heap.size w)
 have H : (if (l0.length : Int) = (l1.length : Int) then (cabinetryref01_SameValues.l0 k l0 l1 0) else (some false)) = some r := h
 clear h
 by_cases c3 : (l0.length : Int) = (l1.length : Int)
 ·rw [if_pos c3] at H
  have c3b0 : ((l0.length : Int) == (l1.length : Int)) = true := beq_iff_eq.mpr c3
  have c3b1 : ((l0.length : Int) != (l1.length : Int)) = false := bne_eq_false_iff_eq.mpr c3
  have c3b2 : (l0.length == l1.length) = true := by first | simpa using c3 | (simp at c3 ⊢; omega)
  clear c3
  have H' := Z0 H
  clear H
  go_enter Tryz.func68, Tryz.ntmps68
  go_wp2
  go_loopg [5] k (fun kq v5 w' => ∃ (x5_1 : Int), v5 = .int .i64 x5_1 ∧ Aside0 (cabinetryref01_SameValues.l0 kq l0 l1 x5_1 = some r) ∧ Aside0 (kq ≤ k) ∧ Aside0 (Below w.heap.size w w'))
  case atStart => exact ⟨(0), V2, H', ⟨Nat.le_refl _⟩, ⟨V0⟩⟩
  case round =>
   clear H'
   (try clear c1);(try clear p2);(try clear c3);(try clear c3b0);(try clear c3b1);(try clear c3b2)
   obtain ⟨x5_1, rfl, HA, HK1, HB⟩ := hrel
   cases gk with
   | zero => exact absurd HA.out (by simp [cabinetryref01_SameValues.l0])
   | succ k1 =>
    have H := HA.out
    clear HA
    simp only [cabinetryref01_SameValues.l0] at H
    by_cases c4 : x5_1 < (l0.length : Int)
    ·rw [if_pos c4] at H
     have c4b0 : decide (x5_1 < (l0.length : Int)) = true := decide_eq_true c4
     clear c4
     by_cases c5 : 0 ≤ x5_1
     ·rw [if_pos c5] at H
      have c5b0 : decide (0 ≤ x5_1) = true := decide_eq_true c5
      clear c5
      by_cases c6 : x5_1 < (l1.length : Int)
      ·rw [if_pos c6] at H
       have c6b0 : decide (x5_1 < (l1.length : Int)) = true := decide_eq_true c6
       clear c6
       replace H := Option.bind_eq_some_iff.mp H
       obtain ⟨t333, A70, H⟩ := H
       replace H : (if t333 = true then (cabinetryref01_SameValues.l0 k1 l0 l1 (wrap64 (x5_1 + 1))) else (some false)) = some r := H
       have A7 := Z0 A70
       clear A70
       by_cases c8 : t333 = true
       ·subst c8
        have H1 : (cabinetryref01_SameValues.l0 k1 l0 l1 (wrap64 (x5_1 + 1))) = some r := by rw [if_pos rfl] at H; exact H
        clear H
        have H := H1
        clear H1
        have H' := Z0 H
        clear H
        try go_wp2
        have n0_ := Z0 (below_drew1 HB.out)
        clear HB
        have HB := n0_
        clear n0_
        have p331 : 0 ≤ (x5_1 : Int) := of_decide_eq_true V3
        have q331 : x5_1 < (l0.length : Int) := of_decide_eq_true V3
        obtain ⟨ad331, e331, hx331_0, hx331_1, hx331_2⟩ := at_T25 HR0.out x5_1 p331 q331
        have hw331_2 := hx331_2
        have hw331_1 := hx331_1
        have hw331_0 := hx331_0
        cases e331
        replace hx331_0 := (HB.out.cell (World.block_lt_of_cell? w _ hx331_0)).trans hx331_0
        replace hx331_1 := (HB.out.cell (World.block_lt_of_cell? w _ hx331_1)).trans hx331_1
        replace hx331_2 := (HB.out.cell (World.block_lt_of_cell? w _ hx331_2)).trans hx331_2
        replace p331 := eq_true p331
        replace q331 := eq_true q331
        have p332 : 0 ≤ (x5_1 : Int) := of_decide_eq_true V3
        have q332 : x5_1 < (l1.length : Int) := of_decide_eq_true V3
        obtain ⟨ad332, e332, hx332_0, hx332_1, hx332_2⟩ := at_T25 HR1.out x5_1 p332 q332
        have hw332_2 := hx332_2
        have hw332_1 := hx332_1
        have hw332_0 := hx332_0
        cases e332
        replace hx332_0 := (HB.out.cell (World.block_lt_of_cell? w _ hx332_0)).trans hx332_0
        replace hx332_1 := (HB.out.cell (World.block_lt_of_cell? w _ hx332_1)).trans hx332_1
        replace hx332_2 := (HB.out.cell (World.block_lt_of_cell? w _ hx332_2)).trans hx332_2
        replace p332 := eq_true p332
        replace q332 := eq_true q332
        refine start_ (n := 10) (S := fun w' => w'.cell? (ad331.add ((x5_1).toNat * 3)) = some (.int .i64 ((rd_T25 l0 x5_1).f0)) ∧ w'.cell? ⟨(ad331.add ((x5_1).toNat * 3)).block, (ad331.add ((x5_1).toNat * 3)).off + 1, none⟩ = some (.int .i64 ((rd_T25 l0 x5_1).f1)) ∧ w'.cell? ⟨(ad331.add ((x5_1).toNat * 3)).block, (ad331.add ((x5_1).toNat * 3)).off + 2, none⟩ = some (.string ((rd_T25 l0 x5_1).f2)) ∧ w'.cell? (ad332.add ((x5_1).toNat * 3)) = some (.int .i64 ((rd_T25 l1 x5_1).f0)) ∧ w'.cell? ⟨(ad332.add ((x5_1).toNat * 3)).block, (ad332.add ((x5_1).toNat * 3)).off + 1, none⟩ = some (.int .i64 ((rd_T25 l1 x5_1).f1)) ∧ w'.cell? ⟨(ad332.add ((x5_1).toNat * 3)).block, (ad332.add ((x5_1).toNat * 3)).off + 2, none⟩ = some (.string ((rd_T25 l1 x5_1).f2))) (ds := []) (bs 10 0) (by kernel_rfl) rfl rfl ⟨((HB.out.cell (World.block_lt_of_cell? w _ hw331_0)).trans hw331_0), ((HB.out.cell (World.block_lt_of_cell? w _ hw331_1)).trans hw331_1), ((HB.out.cell (World.block_lt_of_cell? w _ hw331_2)).trans hw331_2), ((HB.out.cell (World.block_lt_of_cell? w _ hw332_0)).trans hw332_0), ((HB.out.cell (World.block_lt_of_cell? w _ hw332_1)).trans hw332_1), ((HB.out.cell (World.block_lt_of_cell? w _ hw332_2)).trans hw332_2)⟩ (fun hHeld => ?_); refine with_tabW cabinetryref01_SameValues.tab6 cabinetryref01_SameValues.bits6 (fun HT_ HW_ => ?_)
        generalize wr.drew = w9 at HB hx331_0 hx331_1 hx331_2 hx332_0 hx332_1 hx332_2 hHeld ⊢
        refine Y8 (i := 0) (N := some 17) (v := ?_) (a' := ?_) (bs 10 1) rfl rfl (Y3 HT_.out (by kernel_rfl)) (fun _ _ _ h => h) (Or.inl ⟨by rfl, ?_⟩) ?_ ?_
        rotate_left
        ·intro w'
         go_simp
         with_reducible rfl
        rotate_left
        ·simp only [Act.put, Z1, Z2, Z3, Y4, Y5]
         rfl
        refine Y8 (i := 1) (N := some 18) (v := ?_) (a' := ?_) (bs 10 3) rfl rfl (Y3 HT_.out (by kernel_rfl)) (fun _ _ _ h => h) (Or.inl ⟨by rfl, ?_⟩) ?_ ?_
        rotate_left
        ·intro w'
         go_simp
         with_reducible rfl
        rotate_left
        ·simp only [Act.put, Z1, Z2, Z3, Y4, Y5]
         rfl
        refine Y8 (i := 2) (N := some 19) (v := ?_) (a' := ?_) (bs 10 7) rfl rfl (Y3 HT_.out (by kernel_rfl)) (fun _ _ _ h => h) (Or.inl ⟨by rfl, ?_⟩) ?_ ?_
        rotate_left
        ·intro w'
         go_simp
         with_reducible rfl
        rotate_left
        ·simp only [Act.put, Z1, Z2, Z3, Y4, Y5]
         rfl
        refine Y8 (i := 4) (N := some 21) (v := ?_) (a' := ?_) (bs 10 23) rfl rfl (Y3 HT_.out (by kernel_rfl)) (fun _ _ _ h => h) (Or.inl ⟨by rfl, ?_⟩) ?_ ?_
        rotate_left
        ·intro w'
         go_simp
         with_reducible rfl
        rotate_left
        ·simp only [Act.put, Z1, Z2, Z3, Y4, Y5]
         rfl
        refine Y8 (i := 5) (N := some 22) (v := ?_) (a' := ?_) (bs 10 55) rfl rfl (Y3 HT_.out (by kernel_rfl)) (fun _ _ _ h => h) (Or.inl ⟨by rfl, ?_⟩) ?_ ?_
        rotate_left
        ·intro w'
         go_simp
         with_reducible rfl
        rotate_left
        ·simp only [Act.put, Z1, Z2, Z3, Y4, Y5]
         rfl
        refine Y8 (i := 6) (N := some 23) (v := ?_) (a' := ?_) (bs 10 119) rfl rfl (Y3 HT_.out (by kernel_rfl)) (fun _ _ _ h => h) (Or.inl ⟨by rfl, ?_⟩) ?_ ?_
        rotate_left
        ·intro w'
         go_simp
         with_reducible rfl
        rotate_left
        ·simp only [Act.put, Z1, Z2, Z3, Y4, Y5]
         rfl
        refine take_ (i := 3) (N := some 20) (v := ?_) (a' := ?_) (bs 10 127) rfl rfl (take_ofW HT_.out HW_.out (by kernel_rfl)) (fun _ _ _ h => h) (Or.inl ⟨by rfl, ?_⟩) hHeld ?_ ?_
        rotate_left
        ·rintro w' ⟨s0, s1, s2, s3, s4, s5⟩
         go_simp
         with_reducible rfl
        rotate_left
        ·simp only [Act.put, Z1, Z2, Z3, Y4, Y5]
         rfl
        refine take_ (i := 7) (N := some 24) (v := ?_) (a' := ?_) (bs 10 255) rfl rfl (take_ofW HT_.out HW_.out (by kernel_rfl)) (fun _ _ _ h => h) (Or.inl ⟨by rfl, ?_⟩) hHeld ?_ ?_
        rotate_left
        ·rintro w' ⟨s0, s1, s2, s3, s4, s5⟩
         go_simp
         with_reducible rfl
        rotate_left
        ·simp only [Act.put, Z1, Z2, Z3, Y4, Y5]
         rfl
        refine one_ (i := 8) (N := some 25) (bs 10 511) rfl rfl (one_of HT_.out (by kernel_rfl)) (by decide) (fun K hK => ?_)
        refine goes_ Tryz.func15 (by kernel_rfl) rfl #[.agg #[.int .i64 ((rd_T25 l0 x5_1).f0), .int .i64 ((rd_T25 l0 x5_1).f1), .string ((rd_T25 l0 x5_1).f2)], .agg #[.int .i64 ((rd_T25 l1 x5_1).f0), .int .i64 ((rd_T25 l1 x5_1).f1), .string ((rd_T25 l1 x5_1).f2)]] (by rfl) rfl rfl V1 ?_
        with_reducible refine (cabinetryref01_SameValue.calls k1 ((rd_T25 l0 x5_1).f0) ((rd_T25 l0 x5_1).f1) ((rd_T25 l0 x5_1).f2) ((rd_T25 l1 x5_1).f0) ((rd_T25 l1 x5_1).f1) ((rd_T25 l1 x5_1).f2) true _ A7.out).mono ?_
        rintro e w10 ⟨rfl, hb⟩
        refine ⟨_, rfl, ?_⟩
        have n0_ := Z0 (Z4 HB.out hb)
        clear HB
        have HB := n0_
        clear n0_
        (try clear hb)
        (try clear hb2)
        (try clear hk)
        (try clear hi)
        refine hK.out _ _ ⟨((HB.out.cell (World.block_lt_of_cell? w _ hw331_0)).trans hw331_0), ((HB.out.cell (World.block_lt_of_cell? w _ hw331_1)).trans hw331_1), ((HB.out.cell (World.block_lt_of_cell? w _ hw331_2)).trans hw331_2), ((HB.out.cell (World.block_lt_of_cell? w _ hw332_0)).trans hw332_0), ((HB.out.cell (World.block_lt_of_cell? w _ hw332_1)).trans hw332_1), ((HB.out.cell (World.block_lt_of_cell? w _ hw332_2)).trans hw332_2)⟩ (fun hHeld => ?_)
        clear hK K
        refine norm_ (a' := ?_) ?_ ?_
        rotate_left
        ·show Act.put _ (some 25) _ = _
         simp only [Act.put, Z1, Z2, Z3, Y4, Y5]
         rfl
        refine Y8 (i := 9) (N := some 26) (v := ?_) (a' := ?_) (bs 10 1023) rfl rfl (Y3 HT_.out (by kernel_rfl)) (fun _ _ _ h => h) (Or.inl ⟨by rfl, ?_⟩) ?_ ?_
        rotate_left
        ·intro w'
         go_simp
         with_reducible rfl
        rotate_left
        ·simp only [Act.put, Z1, Z2, Z3, Y4, Y5]
         rfl
        refine done_ (done_of HT_.out (by kernel_rfl)) ?_
        try go_wp2
        go_roundg k1
        case measure => have := HK1.out; omega
        case rel => exact ⟨(wrap64 (x5_1 + 1)), V2, H', ⟨by have := HK1.out; omega⟩, ⟨V0⟩⟩
       ·replace c8 := Bool.eq_false_iff.mpr c8
        subst c8
        have H1 : (some false) = some r := by rw [if_neg (show ¬ (false = true) by decide)] at H; exact H
        clear H
        have H := H1
        clear H1
        obtain rfl := Option.some.inj H
        try go_wp2
        have n0_ := Z0 (below_drew1 HB.out)
        clear HB
        have HB := n0_
        clear n0_
        have p331 : 0 ≤ (x5_1 : Int) := of_decide_eq_true V3
        have q331 : x5_1 < (l0.length : Int) := of_decide_eq_true V3
        obtain ⟨ad331, e331, hx331_0, hx331_1, hx331_2⟩ := at_T25 HR0.out x5_1 p331 q331
        have hw331_2 := hx331_2
        have hw331_1 := hx331_1
        have hw331_0 := hx331_0
        cases e331
        replace hx331_0 := (HB.out.cell (World.block_lt_of_cell? w _ hx331_0)).trans hx331_0
        replace hx331_1 := (HB.out.cell (World.block_lt_of_cell? w _ hx331_1)).trans hx331_1
        replace hx331_2 := (HB.out.cell (World.block_lt_of_cell? w _ hx331_2)).trans hx331_2
        replace p331 := eq_true p331
        replace q331 := eq_true q331
        have p332 : 0 ≤ (x5_1 : Int) := of_decide_eq_true V3
        have q332 : x5_1 < (l1.length : Int) := of_decide_eq_true V3
        obtain ⟨ad332, e332, hx332_0, hx332_1, hx332_2⟩ := at_T25 HR1.out x5_1 p332 q332
        have hw332_2 := hx332_2
        have hw332_1 := hx332_1
        have hw332_0 := hx332_0
        cases e332
        replace hx332_0 := (HB.out.cell (World.block_lt_of_cell? w _ hx332_0)).trans hx332_0
        replace hx332_1 := (HB.out.cell (World.block_lt_of_cell? w _ hx332_1)).trans hx332_1
        replace hx332_2 := (HB.out.cell (World.block_lt_of_cell? w _ hx332_2)).trans hx332_2
        replace p332 := eq_true p332
        replace q332 := eq_true q332
        refine start_ (n := 10) (S := fun w' => w'.cell? (ad331.add ((x5_1).toNat * 3)) = some (.int .i64 ((rd_T25 l0 x5_1).f0)) ∧ w'.cell? ⟨(ad331.add ((x5_1).toNat * 3)).block, (ad331.add ((x5_1).toNat * 3)).off + 1, none⟩ = some (.int .i64 ((rd_T25 l0 x5_1).f1)) ∧ w'.cell? ⟨(ad331.add ((x5_1).toNat * 3)).block, (ad331.add ((x5_1).toNat * 3)).off + 2, none⟩ = some (.string ((rd_T25 l0 x5_1).f2)) ∧ w'.cell? (ad332.add ((x5_1).toNat * 3)) = some (.int .i64 ((rd_T25 l1 x5_1).f0)) ∧ w'.cell? ⟨(ad332.add ((x5_1).toNat * 3)).block, (ad332.add ((x5_1).toNat * 3)).off + 1, none⟩ = some (.int .i64 ((rd_T25 l1 x5_1).f1)) ∧ w'.cell? ⟨(ad332.add ((x5_1).toNat * 3)).block, (ad332.add ((x5_1).toNat * 3)).off + 2, none⟩ = some (.string ((rd_T25 l1 x5_1).f2))) (ds := []) (bs 10 0) (by kernel_rfl) rfl rfl ⟨((HB.out.cell (World.block_lt_of_cell? w _ hw331_0)).trans hw331_0), ((HB.out.cell (World.block_lt_of_cell? w _ hw331_1)).trans hw331_1), ((HB.out.cell (World.block_lt_of_cell? w _ hw331_2)).trans hw331_2), ((HB.out.cell (World.block_lt_of_cell? w _ hw332_0)).trans hw332_0), ((HB.out.cell (World.block_lt_of_cell? w _ hw332_1)).trans hw332_1), ((HB.out.cell (World.block_lt_of_cell? w _ hw332_2)).trans hw332_2)⟩ (fun hHeld => ?_); refine with_tabW cabinetryref01_SameValues.tab6 cabinetryref01_SameValues.bits6 (fun HT_ HW_ => ?_)
        generalize wr.drew = w11 at HB hx331_0 hx331_1 hx331_2 hx332_0 hx332_1 hx332_2 hHeld ⊢
        refine Y8 (i := 0) (N := some 17) (v := ?_) (a' := ?_) (bs 10 1) rfl rfl (Y3 HT_.out (by kernel_rfl)) (fun _ _ _ h => h) (Or.inl ⟨by rfl, ?_⟩) ?_ ?_
        rotate_left
        ·intro w'
         go_simp
         with_reducible rfl
        rotate_left
        ·simp only [Act.put, Z1, Z2, Z3, Y4, Y5]
         rfl
        refine Y8 (i := 1) (N := some 18) (v := ?_) (a' := ?_) (bs 10 3) rfl rfl (Y3 HT_.out (by kernel_rfl)) (fun _ _ _ h => h) (Or.inl ⟨by rfl, ?_⟩) ?_ ?_
        rotate_left
        ·intro w'
         go_simp
         with_reducible rfl
        rotate_left
        ·simp only [Act.put, Z1, Z2, Z3, Y4, Y5]
         rfl
        refine Y8 (i := 2) (N := some 19) (v := ?_) (a' := ?_) (bs 10 7) rfl rfl (Y3 HT_.out (by kernel_rfl)) (fun _ _ _ h => h) (Or.inl ⟨by rfl, ?_⟩) ?_ ?_
        rotate_left
        ·intro w'
         go_simp
         with_reducible rfl
        rotate_left
        ·simp only [Act.put, Z1, Z2, Z3, Y4, Y5]
         rfl
        refine Y8 (i := 4) (N := some 21) (v := ?_) (a' := ?_) (bs 10 23) rfl rfl (Y3 HT_.out (by kernel_rfl)) (fun _ _ _ h => h) (Or.inl ⟨by rfl, ?_⟩) ?_ ?_
        rotate_left
        ·intro w'
         go_simp
         with_reducible rfl
        rotate_left
        ·simp only [Act.put, Z1, Z2, Z3, Y4, Y5]
         rfl
        refine Y8 (i := 5) (N := some 22) (v := ?_) (a' := ?_) (bs 10 55) rfl rfl (Y3 HT_.out (by kernel_rfl)) (fun _ _ _ h => h) (Or.inl ⟨by rfl, ?_⟩) ?_ ?_
        rotate_left
        ·intro w'
         go_simp
         with_reducible rfl
        rotate_left
        ·simp only [Act.put, Z1, Z2, Z3, Y4, Y5]
         rfl
        refine Y8 (i := 6) (N := some 23) (v := ?_) (a' := ?_) (bs 10 119) rfl rfl (Y3 HT_.out (by kernel_rfl)) (fun _ _ _ h => h) (Or.inl ⟨by rfl, ?_⟩) ?_ ?_
        rotate_left
        ·intro w'
         go_simp
         with_reducible rfl
        rotate_left
        ·simp only [Act.put, Z1, Z2, Z3, Y4, Y5]
         rfl
        refine take_ (i := 3) (N := some 20) (v := ?_) (a' := ?_) (bs 10 127) rfl rfl (take_ofW HT_.out HW_.out (by kernel_rfl)) (fun _ _ _ h => h) (Or.inl ⟨by rfl, ?_⟩) hHeld ?_ ?_
        rotate_left
        ·rintro w' ⟨s0, s1, s2, s3, s4, s5⟩
         go_simp
         with_reducible rfl
        rotate_left
        ·simp only [Act.put, Z1, Z2, Z3, Y4, Y5]
         rfl
        refine take_ (i := 7) (N := some 24) (v := ?_) (a' := ?_) (bs 10 255) rfl rfl (take_ofW HT_.out HW_.out (by kernel_rfl)) (fun _ _ _ h => h) (Or.inl ⟨by rfl, ?_⟩) hHeld ?_ ?_
        rotate_left
        ·rintro w' ⟨s0, s1, s2, s3, s4, s5⟩
         go_simp
         with_reducible rfl
        rotate_left
        ·simp only [Act.put, Z1, Z2, Z3, Y4, Y5]
         rfl
        refine one_ (i := 8) (N := some 25) (bs 10 511) rfl rfl (one_of HT_.out (by kernel_rfl)) (by decide) (fun K hK => ?_)
        refine goes_ Tryz.func15 (by kernel_rfl) rfl #[.agg #[.int .i64 ((rd_T25 l0 x5_1).f0), .int .i64 ((rd_T25 l0 x5_1).f1), .string ((rd_T25 l0 x5_1).f2)], .agg #[.int .i64 ((rd_T25 l1 x5_1).f0), .int .i64 ((rd_T25 l1 x5_1).f1), .string ((rd_T25 l1 x5_1).f2)]] (by rfl) rfl rfl V1 ?_
        with_reducible refine (cabinetryref01_SameValue.calls k1 ((rd_T25 l0 x5_1).f0) ((rd_T25 l0 x5_1).f1) ((rd_T25 l0 x5_1).f2) ((rd_T25 l1 x5_1).f0) ((rd_T25 l1 x5_1).f1) ((rd_T25 l1 x5_1).f2) false _ A7.out).mono ?_
        rintro e w12 ⟨rfl, hb⟩
        refine ⟨_, rfl, ?_⟩
        have n0_ := Z0 (Z4 HB.out hb)
        clear HB
        have HB := n0_
        clear n0_
        (try clear hb)
        (try clear hb2)
        (try clear hk)
        (try clear hi)
        refine hK.out _ _ ⟨((HB.out.cell (World.block_lt_of_cell? w _ hw331_0)).trans hw331_0), ((HB.out.cell (World.block_lt_of_cell? w _ hw331_1)).trans hw331_1), ((HB.out.cell (World.block_lt_of_cell? w _ hw331_2)).trans hw331_2), ((HB.out.cell (World.block_lt_of_cell? w _ hw332_0)).trans hw332_0), ((HB.out.cell (World.block_lt_of_cell? w _ hw332_1)).trans hw332_1), ((HB.out.cell (World.block_lt_of_cell? w _ hw332_2)).trans hw332_2)⟩ (fun hHeld => ?_)
        clear hK K
        refine norm_ (a' := ?_) ?_ ?_
        rotate_left
        ·show Act.put _ (some 25) _ = _
         simp only [Act.put, Z1, Z2, Z3, Y4, Y5]
         rfl
        refine Y8 (i := 9) (N := some 26) (v := ?_) (a' := ?_) (bs 10 1023) rfl rfl (Y3 HT_.out (by kernel_rfl)) (fun _ _ _ h => h) (Or.inl ⟨by rfl, ?_⟩) ?_ ?_
        rotate_left
        ·intro w'
         go_simp
         with_reducible rfl
        rotate_left
        ·simp only [Act.put, Z1, Z2, Z3, Y4, Y5]
         rfl
        refine done_ (done_of HT_.out (by kernel_rfl)) ?_
        try go_wp2
        go_ret
        exact ⟨rfl, V0⟩
      ·rw [if_neg c6] at H
       exact absurd H (by simp)
     ·rw [if_neg c5] at H
      exact absurd H (by simp)
    ·rw [if_neg c4] at H
     have c4b0 : decide (x5_1 < (l0.length : Int)) = false := decide_eq_false c4
     clear c4
     obtain rfl := Option.some.inj H
     go_wp2
     go_ret
     exact ⟨rfl, V0⟩
 ·rw [if_neg c3] at H
  have c3b0 : ((l0.length : Int) == (l1.length : Int)) = false := beq_eq_false_iff_ne.mpr c3
  have c3b1 : ((l0.length : Int) != (l1.length : Int)) = true := bne_iff_ne.mpr c3
  have c3b2 : (l0.length == l1.length) = false := by first | simpa using c3 | (simp at c3 ⊢; omega)
  obtain rfl := Option.some.inj H
  go_enter Tryz.func68, Tryz.ntmps68
  go_wp2
  go_ret
  exact ⟨rfl, V0⟩
def cabinetryref03_SameRecord.f (k : Nat) (a0_0 : Bool) (l0_1 : List (S25)) (a1_0 : Bool) (l1_1 : List (S25)) : Option (Bool) := if (a0_0 == a1_0) = true then ((cabinetryref01_SameValues.f k l0_1 l1_1).bind fun t336 => (some t336)) else (some false)
theorem cabinetryref03_SameRecord.mono : ∀ a0 a1 a2 a3 k, LeO (cabinetryref03_SameRecord.f k a0 a1 a2 a3) (cabinetryref03_SameRecord.f (k + 1) a0 a1 a2 a3) := by
 intro a0 a1 a2 a3 k
 unfold cabinetryref03_SameRecord.f
 repeat' first
   | (with_reducible exact cabinetryref01_SameValues.mono _ _ _)
   | (with_reducible exact LeO.refl _)
   | (with_reducible exact LeO.none _)
   | (with_reducible refine LeO.ite ?_ ?_)
   | (with_reducible refine LeO.bind ?_ (fun _ => ?_))
set_option maxHeartbeats 8000000 in
set_option maxRecDepth 100000 in
theorem cabinetryref03_SameRecord.calls (k : Nat) (a0_0 : Bool) (A0_1 : Option Addr) (c0_1 : Nat) (l0_1 : List (S25)) (a1_0 : Bool) (A1_1 : Option Addr) (c1_1 : Nat) (l1_1 : List (S25)) (r : Bool) (w : World) (hr0_1 : Kd.C k25 w A0_1 l0_1.length l0_1) (hc0_1 : l0_1.length ≤ c0_1) (hr1_1 : Kd.C k25 w A1_1 l1_1.length l1_1) (hc1_1 : l1_1.length ≤ c1_1) (h : cabinetryref03_SameRecord.f k a0_0 l0_1 a1_0 l1_1 = some r) :
  Calls Tryz.prog 29 #[.agg #[.bool a0_0, .slice A0_1 l0_1.length c0_1], .agg #[.bool a1_0, .slice A1_1 l1_1.length c1_1]] w fun e w' => e = .returned (.bool r) ∧ Below w.heap.size w w' := by
 have hu46 := Tryz.underlying46
 have HR0_1 := Z0 hr0_1
 have HC0_1 := Z0 hc0_1
 clear hr0_1 hc0_1
 have HR1_1 := Z0 hr1_1
 have HC1_1 := Z0 hc1_1
 clear hr1_1 hc1_1
 have HB := Z0 (Below.refl w.heap.size w)
 have H : (if (a0_0 == a1_0) = true then ((cabinetryref01_SameValues.f k l0_1 l1_1).bind fun t336 => (some t336)) else (some false)) = some r := h
 clear h
 by_cases c3 : (a0_0 == a1_0) = true
 ·rw [if_pos c3] at H
  have c3b0 : (a0_0 == a1_0) = true := c3
  (try (have c3b1 : decide (a0_0 = a1_0) = true := by simpa using c3))
  (try (have c3b2 : (a0_0 == a1_0) = true := by simpa using c3))
  clear c3
  replace H := Option.bind_eq_some_iff.mp H
  obtain ⟨t336, A40, H⟩ := H
  replace H : (some t336) = some r := H
  have A4 := Z0 A40
  clear A40
  obtain rfl := Option.some.inj H
  go_enter Tryz.func29, Tryz.ntmps29
  go_wp2_with (first | ((with_reducible refine Y1 (N := 2) rfl ?_); refine bx (N := 2) (cs := #[.bool a0_0, .slice A0_1 l0_1.length c0_1]) (t := 46) ?_; intro gb334 hg w5 hbox hb; have BK334 := Z0 (hbox); have GE334 := Z0 ((by rw [hg]; exact (Z9 HB.out) : w.heap.size ≤ gb334)); replace HB := Z0 (Z4 HB.out hb); clear hb hbox hg) | ((with_reducible refine Y1 (N := 3) rfl ?_); refine bx (N := 3) (cs := #[.bool a1_0, .slice A1_1 l1_1.length c1_1]) (t := 46) ?_; intro gb335 hg w6 hbox hb; have BK335 := Z0 (hbox); have GE335 := Z0 ((by rw [hg]; exact (Z9 HB.out) : w.heap.size ≤ gb335)); replace HB := Z0 (Z4 HB.out hb); have NB334_335 := Z0 ((by rw [hg]; exact Nat.ne_of_lt (blk_lt BK334.out) : gb334 ≠ gb335)); have NB335_334 := Z0 ((by rw [hg]; exact Nat.ne_of_gt (blk_lt BK334.out) : gb335 ≠ gb334)); replace BK334 := Z0 (Z5 BK334.out hb); clear hb hbox hg; have hnb7 := NB334_335.out; have hnc7 := NB335_334.out; obtain ⟨hcz8_0, hcz8_1⟩ := bc2 BK334.out; obtain ⟨hfz8_0, hfz8_1⟩ := bf2 BK334.out; obtain ⟨hcz9_0, hcz9_1⟩ := bc2 BK335.out; obtain ⟨hfz9_0, hfz9_1⟩ := bf2 BK335.out) | (go_at_call 68; (with_reducible refine (cabinetryref01_SameValues.calls k _ _ l0_1 _ _ l1_1 t336 _ ?side1 ?side2 ?side3 ?side4 A4.out).mono ?_); (case side1 => repeat (first | exact (Kd.C_below HR0_1.out HB.out) | (with_reducible refine Kd.C_alloc ?_ _) | (with_reducible refine Kd.C_drewN ?_ _) | (with_reducible refine Kd.C_drew ?_))); (case side2 => exact HC0_1.out); (case side3 => repeat (first | exact (Kd.C_below HR1_1.out HB.out) | (with_reducible refine Kd.C_alloc ?_ _) | (with_reducible refine Kd.C_drewN ?_ _) | (with_reducible refine Kd.C_drew ?_))); (case side4 => exact HC1_1.out); rintro e w10 ⟨rfl, hb⟩; replace BK334 := Z0 (Z5 BK334.out hb); replace BK335 := Z0 (Z5 BK335.out hb); replace HB := Z0 (Z4 HB.out hb); (try clear hb); (try clear hb2); (try clear hk); (try clear hi)))
  go_ret
  exact ⟨rfl, V0⟩
 ·rw [if_neg c3] at H
  have c3b0 : (a0_0 == a1_0) = false := by simpa using c3
  (try (have c3b1 : decide (a0_0 = a1_0) = false := by simpa using c3))
  (try (have c3b2 : (a0_0 == a1_0) = false := by simpa using c3))
  (try (have c3b3 : ¬ (a0_0 = a1_0) := by simpa using c3))
  clear c3
  obtain rfl := Option.some.inj H
  go_enter Tryz.func29, Tryz.ntmps29
  go_wp2_with (first | ((with_reducible refine Y1 (N := 2) rfl ?_); refine bx (N := 2) (cs := #[.bool a0_0, .slice A0_1 l0_1.length c0_1]) (t := 46) ?_; intro gb334 hg w11 hbox hb; have BK334 := Z0 (hbox); have GE334 := Z0 ((by rw [hg]; exact (Z9 HB.out) : w.heap.size ≤ gb334)); replace HB := Z0 (Z4 HB.out hb); clear hb hbox hg) | ((with_reducible refine Y1 (N := 3) rfl ?_); refine bx (N := 3) (cs := #[.bool a1_0, .slice A1_1 l1_1.length c1_1]) (t := 46) ?_; intro gb335 hg w12 hbox hb; have BK335 := Z0 (hbox); have GE335 := Z0 ((by rw [hg]; exact (Z9 HB.out) : w.heap.size ≤ gb335)); replace HB := Z0 (Z4 HB.out hb); have NB334_335 := Z0 ((by rw [hg]; exact Nat.ne_of_lt (blk_lt BK334.out) : gb334 ≠ gb335)); have NB335_334 := Z0 ((by rw [hg]; exact Nat.ne_of_gt (blk_lt BK334.out) : gb335 ≠ gb334)); replace BK334 := Z0 (Z5 BK334.out hb); clear hb hbox hg; have hnb13 := NB334_335.out; have hnc13 := NB335_334.out; obtain ⟨hcz14_0, hcz14_1⟩ := bc2 BK334.out; obtain ⟨hfz14_0, hfz14_1⟩ := bf2 BK334.out; obtain ⟨hcz15_0, hcz15_1⟩ := bc2 BK335.out; obtain ⟨hfz15_0, hfz15_1⟩ := bf2 BK335.out))
  go_ret
  exact ⟨rfl, V0⟩
end Go.Proofs.YtldpdidlfbphcaaGreatDoor.P
end
section
namespace Go.Proofs.YtldpdidlfbphcaaGreatDoor.P
open Go.RowKit Go.Proofs.YtldpdidlfbphcaaGreatDoorW.PrintWords Go.Proofs.YtldpdidlfbphcaaGreatDoorW.PrintLast Go.Proofs.YtldpdidlfbphcaaGreatDoorW.PrintMore
attribute [local go_sem] max2_int min2_int max_two min_two max_three min_three max_four min_four
attribute [local go_sem high] eqA23
def cabinetryref03_SameFields.l0 : Nat → List (S23) → List (S23) → Int → Option (Bool)
 | 0, _, _, _ => none
 | k + 1, x0, x1, x5 => if x5 < (x0.length : Int) then (if 0 ≤ x5 then (if x5 < (x1.length : Int) then (if (!((((rd_T23 x0 x5).f0).toList) == (((rd_T23 x1 x5).f0).toList)) || (!(((rd_T23 x0 x5).f1) == ((rd_T23 x1 x5).f1)) || (!(((rd_T23 x0 x5).f2) == ((rd_T23 x1 x5).f2)) || (!(((rd_T23 x0 x5).f3) == ((rd_T23 x1 x5).f3)))))) = true then (some false) else (cabinetryref03_SameFields.l0 k x0 x1 (wrap64 (x5 + 1)))) else (none)) else (none)) else (some true)
def cabinetryref03_SameFields.f (k : Nat) (l0 : List (S23)) (l1 : List (S23)) : Option (Bool) := if (l0.length : Int) = (l1.length : Int) then (cabinetryref03_SameFields.l0 k l0 l1 0) else (some false)
theorem cabinetryref03_SameFields.mono_l : ∀ k, (∀ y0 y1 y2, LeO (cabinetryref03_SameFields.l0 k y0 y1 y2) (cabinetryref03_SameFields.l0 (k + 1) y0 y1 y2))
 | 0 => fun _ _ _ r h => by simp [cabinetryref03_SameFields.l0] at h
 | k + 1 => by
  have ih0 := cabinetryref03_SameFields.mono_l k
  ·intro y0 y1 y2
   unfold cabinetryref03_SameFields.l0
   repeat' first
   | (with_reducible exact ih0 _ _ _)
   | (with_reducible exact LeO.refl _)
   | (with_reducible exact LeO.none _)
   | (with_reducible refine LeO.ite ?_ ?_)
   | (with_reducible refine LeO.bind ?_ (fun _ => ?_))
theorem cabinetryref03_SameFields.mono : ∀ a0 a1 k, LeO (cabinetryref03_SameFields.f k a0 a1) (cabinetryref03_SameFields.f (k + 1) a0 a1) := by
 intro a0 a1 k
 have ih0 := cabinetryref03_SameFields.mono_l k
 unfold cabinetryref03_SameFields.f
 repeat' first
   | (with_reducible exact ih0 _ _ _)
   | (with_reducible exact LeO.refl _)
   | (with_reducible exact LeO.none _)
   | (with_reducible refine LeO.ite ?_ ?_)
   | (with_reducible refine LeO.bind ?_ (fun _ => ?_))
set_option maxHeartbeats 8000000 in
set_option maxRecDepth 100000 in
theorem cabinetryref03_SameFields.calls (k : Nat) (A0 : Option Addr) (c0 : Nat) (l0 : List (S23)) (A1 : Option Addr) (c1 : Nat) (l1 : List (S23)) (r : Bool) (w : World) (hr0 : Kd.C k23 w A0 l0.length l0) (hc0 : l0.length ≤ c0) (hr1 : Kd.C k23 w A1 l1.length l1) (hc1 : l1.length ≤ c1) (h : cabinetryref03_SameFields.f k l0 l1 = some r) :
  Calls Tryz.prog 79 #[.slice A0 l0.length c0, .slice A1 l1.length c1] w fun e w' => e = .returned (.bool r) ∧ Drawn0 w w' := by
 have hu23 := Tryz.underlying23
 have HR0 := Z0 hr0
 have HC0 := Z0 hc0
 clear hr0 hc0
 have HR1 := Z0 hr1
 have HC1 := Z0 hc1
 clear hr1 hc1
 have H : (if (l0.length : Int) = (l1.length : Int) then (cabinetryref03_SameFields.l0 k l0 l1 0) else (some false)) = some r := h
 clear h
 by_cases c3 : (l0.length : Int) = (l1.length : Int)
 ·rw [if_pos c3] at H
  have c3b0 : ((l0.length : Int) == (l1.length : Int)) = true := beq_iff_eq.mpr c3
  have c3b1 : ((l0.length : Int) != (l1.length : Int)) = false := bne_eq_false_iff_eq.mpr c3
  have c3b2 : (l0.length == l1.length) = true := by first | simpa using c3 | (simp at c3 ⊢; omega)
  clear c3
  have H' := Z0 H
  clear H
  go_enter Tryz.func79, Tryz.ntmps79
  go_wp2
  repeat (go_quiet (fail); try go_wp2)
  go_loopg [5] k (fun kq v5 w' => ∃ (x5_1 : Int), v5 = .int .i64 x5_1 ∧ Aside0 (cabinetryref03_SameFields.l0 kq l0 l1 x5_1 = some r) ∧ Aside0 (kq ≤ k) ∧ Drawn0 w w')
  case atStart => exact ⟨(0), V2, H', ⟨Nat.le_refl _⟩, by repeat (first | exact Y7 _ | apply Y6)⟩
  case round =>
   clear H'
   (try clear c1);(try clear p2);(try clear c3);(try clear c3b0);(try clear c3b1);(try clear c3b2)
   obtain ⟨x5_1, rfl, HA, HK1, ⟨m1, rfl⟩⟩ := hrel
   cases gk with
   | zero => exact absurd HA.out (by simp [cabinetryref03_SameFields.l0])
   | succ k1 =>
    have H := HA.out
    clear HA
    simp only [cabinetryref03_SameFields.l0] at H
    by_cases c4 : x5_1 < (l0.length : Int)
    ·rw [if_pos c4] at H
     have c4b0 : decide (x5_1 < (l0.length : Int)) = true := decide_eq_true c4
     clear c4
     by_cases c5 : 0 ≤ x5_1
     ·rw [if_pos c5] at H
      have c5b0 : decide (0 ≤ x5_1) = true := decide_eq_true c5
      clear c5
      by_cases c6 : x5_1 < (l1.length : Int)
      ·rw [if_pos c6] at H
       have c6b0 : decide (x5_1 < (l1.length : Int)) = true := decide_eq_true c6
       clear c6
       by_cases c7 : (!((((rd_T23 l0 x5_1).f0).toList) == (((rd_T23 l1 x5_1).f0).toList)) || (!(((rd_T23 l0 x5_1).f1) == ((rd_T23 l1 x5_1).f1)) || (!(((rd_T23 l0 x5_1).f2) == ((rd_T23 l1 x5_1).f2)) || (!(((rd_T23 l0 x5_1).f3) == ((rd_T23 l1 x5_1).f3)))))) = true
       ·rw [if_pos c7] at H
        have c7b0 : (!((((rd_T23 l0 x5_1).f0).toList) == (((rd_T23 l1 x5_1).f0).toList)) || (!(((rd_T23 l0 x5_1).f1) == ((rd_T23 l1 x5_1).f1)) || (!(((rd_T23 l0 x5_1).f2) == ((rd_T23 l1 x5_1).f2)) || (!(((rd_T23 l0 x5_1).f3) == ((rd_T23 l1 x5_1).f3)))))) = true := c7
        clear c7
        obtain rfl := Option.some.inj H
        have p419 : 0 ≤ (x5_1 : Int) := of_decide_eq_true V3
        have q419 : x5_1 < (l0.length : Int) := of_decide_eq_true V3
        obtain ⟨ad419, e419, hx419_0, hx419_1, hx419_2, hx419_3⟩ := at_T23 HR0.out x5_1 p419 q419
        cases e419
        replace p419 := eq_true p419
        replace q419 := eq_true q419
        have p420 : 0 ≤ (x5_1 : Int) := of_decide_eq_true V3
        have q420 : x5_1 < (l1.length : Int) := of_decide_eq_true V3
        obtain ⟨ad420, e420, hx420_0, hx420_1, hx420_2, hx420_3⟩ := at_T23 HR1.out x5_1 p420 q420
        cases e420
        replace p420 := eq_true p420
        replace q420 := eq_true q420
        go_wp2
        repeat (go_quiet (fail); try go_wp2)
        go_ret
        exact ⟨V2, by repeat (first | exact Y7 _ | apply Y6)⟩
       ·rw [if_neg c7] at H
        have c7b0 : (!((((rd_T23 l0 x5_1).f0).toList) == (((rd_T23 l1 x5_1).f0).toList)) || (!(((rd_T23 l0 x5_1).f1) == ((rd_T23 l1 x5_1).f1)) || (!(((rd_T23 l0 x5_1).f2) == ((rd_T23 l1 x5_1).f2)) || (!(((rd_T23 l0 x5_1).f3) == ((rd_T23 l1 x5_1).f3)))))) = false := by simpa using c7
        clear c7
        have H' := Z0 H
        clear H
        have p419 : 0 ≤ (x5_1 : Int) := of_decide_eq_true V3
        have q419 : x5_1 < (l0.length : Int) := of_decide_eq_true V3
        obtain ⟨ad419, e419, hx419_0, hx419_1, hx419_2, hx419_3⟩ := at_T23 HR0.out x5_1 p419 q419
        cases e419
        replace p419 := eq_true p419
        replace q419 := eq_true q419
        have p420 : 0 ≤ (x5_1 : Int) := of_decide_eq_true V3
        have q420 : x5_1 < (l1.length : Int) := of_decide_eq_true V3
        obtain ⟨ad420, e420, hx420_0, hx420_1, hx420_2, hx420_3⟩ := at_T23 HR1.out x5_1 p420 q420
        cases e420
        replace p420 := eq_true p420
        replace q420 := eq_true q420
        go_wp2
        repeat (go_quiet (fail); try go_wp2)
        go_roundg k1
        case measure => have := HK1.out; omega
        case rel => exact ⟨(wrap64 (x5_1 + 1)), V2, H', ⟨by have := HK1.out; omega⟩, by repeat (first | exact Y7 _ | apply Y6)⟩
      ·rw [if_neg c6] at H
       exact absurd H (by simp)
     ·rw [if_neg c5] at H
      exact absurd H (by simp)
    ·rw [if_neg c4] at H
     have c4b0 : decide (x5_1 < (l0.length : Int)) = false := decide_eq_false c4
     clear c4
     obtain rfl := Option.some.inj H
     go_wp2
     repeat (go_quiet (fail); try go_wp2)
     go_ret
     exact ⟨V2, by repeat (first | exact Y7 _ | apply Y6)⟩
 ·rw [if_neg c3] at H
  have c3b0 : ((l0.length : Int) == (l1.length : Int)) = false := beq_eq_false_iff_ne.mpr c3
  have c3b1 : ((l0.length : Int) != (l1.length : Int)) = true := bne_iff_ne.mpr c3
  have c3b2 : (l0.length == l1.length) = false := by first | simpa using c3 | (simp at c3 ⊢; omega)
  obtain rfl := Option.some.inj H
  go_enter Tryz.func79, Tryz.ntmps79
  go_wp2
  repeat (go_quiet (fail); try go_wp2)
  go_ret
  exact ⟨V2, by repeat (first | exact Y7 _ | apply Y6)⟩
end Go.Proofs.YtldpdidlfbphcaaGreatDoor.P
end
section
namespace Go.Proofs.YtldpdidlfbphcaaGreatDoor.P
open Go.RowKit Go.Proofs.YtldpdidlfbphcaaGreatDoorW.PrintWords Go.Proofs.YtldpdidlfbphcaaGreatDoorW.PrintLast Go.Proofs.YtldpdidlfbphcaaGreatDoorW.PrintMore
attribute [local go_sem] max2_int min2_int max_two min_two max_three min_three max_four min_four
mutual
def cabinetryref03_Differ.j0 : Nat → Bool → Int → List (S23) → List (S46) → Int → List (S23) → List (S46) → Option (List Int × Int)
 | 0, _, _, _, _, _, _, _ => none
 | k + 1, x32, x151000, x151001, x151002, x152000, x152001, x152002 => if x32 = true then (some (([] : List Int), 10)) else (cabinetryref03_Differ.l0 k ([] : List Int) 0 x151000 x151001 x151002 x152000 x152001 x152002)
def cabinetryref03_Differ.l0 : Nat → List Int → Int → Int → List (S23) → List (S46) → Int → List (S23) → List (S46) → Option (List Int × Int)
 | 0, _, _, _, _, _, _, _, _ => none
 | k + 1, x8, x9, x151000, x151001, x151002, x152000, x152001, x152002 => if x9 < (x151002.length : Int) then (cabinetryref03_Differ.j2 k x8 x9 true x151000 x151001 x151002 x152000 x152001 x152002) else (cabinetryref03_Differ.j2 k x8 x9 (decide (x9 < (x152002.length : Int))) x151000 x151001 x151002 x152000 x152001 x152002)
def cabinetryref03_Differ.j2 : Nat → List Int → Int → Bool → Int → List (S23) → List (S46) → Int → List (S23) → List (S46) → Option (List Int × Int)
 | 0, _, _, _, _, _, _, _, _, _ => none
 | k + 1, x8, x9, x44, x151000, x151001, x151002, x152000, x152001, x152002 => if x44 = true then (if x9 ≥ (x151002.length : Int) then (cabinetryref03_Differ.j3 k x8 x9 true x151000 x151001 x151002 x152000 x152001 x152002) else (if x9 ≥ (x152002.length : Int) then (cabinetryref03_Differ.j3 k x8 x9 true x151000 x151001 x151002 x152000 x152001 x152002) else (if 0 ≤ x9 then (if x9 < (x151002.length : Int) then (if x9 < (x152002.length : Int) then ((cabinetryref03_SameRecord.f k ((rd_T46 x151002 x9).f0) ((rd_T46 x151002 x9).f1) ((rd_T46 x152002 x9).f0) ((rd_T46 x152002 x9).f1)).bind fun t157 => (cabinetryref03_Differ.j3 k x8 x9 (!t157) x151000 x151001 x151002 x152000 x152001 x152002)) else (none)) else (none)) else (none)))) else (some (x8, 0))
def cabinetryref03_Differ.j3 : Nat → List Int → Int → Bool → Int → List (S23) → List (S46) → Int → List (S23) → List (S46) → Option (List Int × Int)
 | 0, _, _, _, _, _, _, _, _, _ => none
 | k + 1, x8, x9, x72, x151000, x151001, x151002, x152000, x152001, x152002 => if x72 = true then (if x8.length < 17592186044416 then (cabinetryref03_Differ.l0 k (x8 ++ [wrap64 (x9 + 1)]) (wrap64 (x9 + 1)) x151000 x151001 x151002 x152000 x152001 x152002) else (none)) else (cabinetryref03_Differ.l0 k x8 (wrap64 (x9 + 1)) x151000 x151001 x151002 x152000 x152001 x152002)
end
def cabinetryref03_Differ.f (k : Nat) (a0_0 : Int) (l0_1 : List (S23)) (l0_2 : List (S46)) (a1_0 : Int) (l1_1 : List (S23)) (l1_2 : List (S46)) : Option (List Int × Int) := (cabinetryref03_Validate.f k a0_0 l0_1 l0_2).bind fun t152 => (if t152 = 0 then ((cabinetryref03_Validate.f k a1_0 l1_1 l1_2).bind fun t153 => (if t153 = 0 then (if a0_0 = a1_0 then ((cabinetryref03_SameFields.f k l0_1 l1_1).bind fun t154 => (cabinetryref03_Differ.j0 k (!t154) a0_0 l0_1 l0_2 a1_0 l1_1 l1_2)) else (cabinetryref03_Differ.j0 k true a0_0 l0_1 l0_2 a1_0 l1_1 l1_2)) else (some (([] : List Int), t153)))) else (some (([] : List Int), t152)))
theorem cabinetryref03_Differ.mono_l : ∀ k, (∀ y0 y1 y2 y3 y4 y5 y6, LeO (cabinetryref03_Differ.j0 k y0 y1 y2 y3 y4 y5 y6) (cabinetryref03_Differ.j0 (k + 1) y0 y1 y2 y3 y4 y5 y6)) ∧ (∀ y0 y1 y2 y3 y4 y5 y6 y7, LeO (cabinetryref03_Differ.l0 k y0 y1 y2 y3 y4 y5 y6 y7) (cabinetryref03_Differ.l0 (k + 1) y0 y1 y2 y3 y4 y5 y6 y7)) ∧ (∀ y0 y1 y2 y3 y4 y5 y6 y7 y8, LeO (cabinetryref03_Differ.j2 k y0 y1 y2 y3 y4 y5 y6 y7 y8) (cabinetryref03_Differ.j2 (k + 1) y0 y1 y2 y3 y4 y5 y6 y7 y8)) ∧ (∀ y0 y1 y2 y3 y4 y5 y6 y7 y8, LeO (cabinetryref03_Differ.j3 k y0 y1 y2 y3 y4 y5 y6 y7 y8) (cabinetryref03_Differ.j3 (k + 1) y0 y1 y2 y3 y4 y5 y6 y7 y8))
 | 0 => ⟨fun _ _ _ _ _ _ _ r h => by simp [cabinetryref03_Differ.j0] at h, fun _ _ _ _ _ _ _ _ r h => by simp [cabinetryref03_Differ.l0] at h, fun _ _ _ _ _ _ _ _ _ r h => by simp [cabinetryref03_Differ.j2] at h, fun _ _ _ _ _ _ _ _ _ r h => by simp [cabinetryref03_Differ.j3] at h⟩
 | k + 1 => by
  obtain ⟨ih0, ih1, ih2, ih3⟩ := cabinetryref03_Differ.mono_l k
  refine ⟨?_, ?_, ?_, ?_⟩
  ·intro y0 y1 y2 y3 y4 y5 y6
   unfold cabinetryref03_Differ.j0
   repeat' first
   | (with_reducible exact ih0 _ _ _ _ _ _ _)
   | (with_reducible exact ih1 _ _ _ _ _ _ _ _)
   | (with_reducible exact ih2 _ _ _ _ _ _ _ _ _)
   | (with_reducible exact ih3 _ _ _ _ _ _ _ _ _)
   | (with_reducible exact cabinetryref03_SameFields.mono _ _ _)
   | (with_reducible exact cabinetryref03_SameRecord.mono _ _ _ _ _)
   | (with_reducible exact cabinetryref03_Validate.mono _ _ _ _)
   | (with_reducible exact LeO.refl _)
   | (with_reducible exact LeO.none _)
   | (with_reducible refine LeO.ite ?_ ?_)
   | (with_reducible refine LeO.bind ?_ (fun _ => ?_))
  ·intro y0 y1 y2 y3 y4 y5 y6 y7
   unfold cabinetryref03_Differ.l0
   repeat' first
   | (with_reducible exact ih0 _ _ _ _ _ _ _)
   | (with_reducible exact ih1 _ _ _ _ _ _ _ _)
   | (with_reducible exact ih2 _ _ _ _ _ _ _ _ _)
   | (with_reducible exact ih3 _ _ _ _ _ _ _ _ _)
   | (with_reducible exact cabinetryref03_SameFields.mono _ _ _)
   | (with_reducible exact cabinetryref03_SameRecord.mono _ _ _ _ _)
   | (with_reducible exact cabinetryref03_Validate.mono _ _ _ _)
   | (with_reducible exact LeO.refl _)
   | (with_reducible exact LeO.none _)
   | (with_reducible refine LeO.ite ?_ ?_)
   | (with_reducible refine LeO.bind ?_ (fun _ => ?_))
  ·intro y0 y1 y2 y3 y4 y5 y6 y7 y8
   unfold cabinetryref03_Differ.j2
   repeat' first
   | (with_reducible exact ih0 _ _ _ _ _ _ _)
   | (with_reducible exact ih1 _ _ _ _ _ _ _ _)
   | (with_reducible exact ih2 _ _ _ _ _ _ _ _ _)
   | (with_reducible exact ih3 _ _ _ _ _ _ _ _ _)
   | (with_reducible exact cabinetryref03_SameFields.mono _ _ _)
   | (with_reducible exact cabinetryref03_SameRecord.mono _ _ _ _ _)
   | (with_reducible exact cabinetryref03_Validate.mono _ _ _ _)
   | (with_reducible exact LeO.refl _)
   | (with_reducible exact LeO.none _)
   | (with_reducible refine LeO.ite ?_ ?_)
   | (with_reducible refine LeO.bind ?_ (fun _ => ?_))
  ·intro y0 y1 y2 y3 y4 y5 y6 y7 y8
   unfold cabinetryref03_Differ.j3
   repeat' first
   | (with_reducible exact ih0 _ _ _ _ _ _ _)
   | (with_reducible exact ih1 _ _ _ _ _ _ _ _)
   | (with_reducible exact ih2 _ _ _ _ _ _ _ _ _)
   | (with_reducible exact ih3 _ _ _ _ _ _ _ _ _)
   | (with_reducible exact cabinetryref03_SameFields.mono _ _ _)
   | (with_reducible exact cabinetryref03_SameRecord.mono _ _ _ _ _)
   | (with_reducible exact cabinetryref03_Validate.mono _ _ _ _)
   | (with_reducible exact LeO.refl _)
   | (with_reducible exact LeO.none _)
   | (with_reducible refine LeO.ite ?_ ?_)
   | (with_reducible refine LeO.bind ?_ (fun _ => ?_))
theorem cabinetryref03_Differ.mono : ∀ a0 a1 a2 a3 a4 a5 k, LeO (cabinetryref03_Differ.f k a0 a1 a2 a3 a4 a5) (cabinetryref03_Differ.f (k + 1) a0 a1 a2 a3 a4 a5) := by
 intro a0 a1 a2 a3 a4 a5 k
 obtain ⟨ih0, ih1, ih2, ih3⟩ := cabinetryref03_Differ.mono_l k
 unfold cabinetryref03_Differ.f
 repeat' first
   | (with_reducible exact ih0 _ _ _ _ _ _ _)
   | (with_reducible exact ih1 _ _ _ _ _ _ _ _)
   | (with_reducible exact ih2 _ _ _ _ _ _ _ _ _)
   | (with_reducible exact ih3 _ _ _ _ _ _ _ _ _)
   | (with_reducible exact cabinetryref03_SameFields.mono _ _ _)
   | (with_reducible exact cabinetryref03_SameRecord.mono _ _ _ _ _)
   | (with_reducible exact cabinetryref03_Validate.mono _ _ _ _)
   | (with_reducible exact LeO.refl _)
   | (with_reducible exact LeO.none _)
   | (with_reducible refine LeO.ite ?_ ?_)
   | (with_reducible refine LeO.bind ?_ (fun _ => ?_))
def cabinetryref03_Differ.T13 : Bool × List (List Nat × List Nat) := (true, [([], []), ([], []), ([1], [1]), ([2], [2]), ([0, 3], [0, 3]), ([4], [4]), ([5], [5]), ([5], [5]), ([7, 5], [5, 7]), ([8, 5], [5, 8]), ([6, 9, 5], [5, 6, 9]), ([5, 10], [5, 10]), ([11, 5], [11]), ([12], [12]), ([13, 12], [12, 13]), ([12], [12]), ([14, 15, 12], [12, 14, 15]), ([16, 12], [12, 16]), ([12], [12]), ([18, 12], [12, 18]), ([12], [12]), ([19, 20, 12], [12, 19, 20]), ([21, 12], [12, 21]), ([17, 22, 12, 12], [12, 17, 22]), ([23, 12], [12, 23]), ([12, 24], [12, 24])])
def cabinetryref03_Differ.B13 : List Nat := [0, 0, 2, 6, 15, 31, 63, 63, 191, 447, 1023, 2047, 4095, 8191, 16383, 8191, 65535, 131071, 8191, 270335, 8191, 1843199, 3940351, 8388607, 16777215, 33554431]
theorem cabinetryref03_Differ.tab13 : rtab .any (opsOf Tryz.f40 13) = cabinetryref03_Differ.T13 := by kernel_rfl
theorem cabinetryref03_Differ.bits13 : waitsOk cabinetryref03_Differ.T13.2 cabinetryref03_Differ.B13 = true := by kernel_rfl
set_option maxHeartbeats 8000000 in
set_option maxRecDepth 100000 in
theorem cabinetryref03_Differ.calls (k : Nat) (a0_0 : Int) (A0_1 : Option Addr) (c0_1 : Nat) (l0_1 : List (S23)) (A0_2 : Option Addr) (c0_2 : Nat) (l0_2 : List (S46)) (a1_0 : Int) (A1_1 : Option Addr) (c1_1 : Nat) (l1_1 : List (S23)) (A1_2 : Option Addr) (c1_2 : Nat) (l1_2 : List (S46)) (r1 : List Int) (r2 : Int) (w : World) (hr0_1 : Kd.C k23 w A0_1 l0_1.length l0_1) (hc0_1 : l0_1.length ≤ c0_1) (hr0_2 : Kd.C k46 w A0_2 l0_2.length l0_2) (hc0_2 : l0_2.length ≤ c0_2) (hr1_1 : Kd.C k23 w A1_1 l1_1.length l1_1) (hc1_1 : l1_1.length ≤ c1_1) (hr1_2 : Kd.C k46 w A1_2 l1_2.length l1_2) (hc1_2 : l1_2.length ≤ c1_2) (h : cabinetryref03_Differ.f k a0_0 l0_1 l0_2 a1_0 l1_1 l1_2 = some (r1, r2)) :
  Calls Tryz.prog 40 #[.agg #[.int .i64 a0_0, .slice A0_1 l0_1.length c0_1, .slice A0_2 l0_2.length c0_2], .agg #[.int .i64 a1_0, .slice A1_1 l1_1.length c1_1, .slice A1_2 l1_2.length c1_2]] w fun e w' => ∃ v0_ : Value, e = .returned (.tuple #[v0_, .int .i64 r2]) ∧ Kd.R (Kd.int .i64) 3 w' w.heap.size (fun _ => True) v0_ r1 ∧ Below w.heap.size w w' := by
 have hu35 := Tryz.underlying35
 have hu46 := Tryz.underlying46
 have HR0_1 := Z0 hr0_1
 have HC0_1 := Z0 hc0_1
 clear hr0_1 hc0_1
 have HR0_2 := Z0 hr0_2
 have HC0_2 := Z0 hc0_2
 clear hr0_2 hc0_2
 have HR1_1 := Z0 hr1_1
 have HC1_1 := Z0 hc1_1
 clear hr1_1 hc1_1
 have HR1_2 := Z0 hr1_2
 have HC1_2 := Z0 hc1_2
 clear hr1_2 hc1_2
 have HB := Z0 (Below.refl w.heap.size w)
 have H : ((cabinetryref03_Validate.f k a0_0 l0_1 l0_2).bind fun t152 => (if t152 = 0 then ((cabinetryref03_Validate.f k a1_0 l1_1 l1_2).bind fun t153 => (if t153 = 0 then (if a0_0 = a1_0 then ((cabinetryref03_SameFields.f k l0_1 l1_1).bind fun t154 => (cabinetryref03_Differ.j0 k (!t154) a0_0 l0_1 l0_2 a1_0 l1_1 l1_2)) else (cabinetryref03_Differ.j0 k true a0_0 l0_1 l0_2 a1_0 l1_1 l1_2)) else (some (([] : List Int), t153)))) else (some (([] : List Int), t152)))) = some (r1, r2) := h
 clear h
 replace H := Option.bind_eq_some_iff.mp H
 obtain ⟨t152, A30, H⟩ := H
 replace H : (if t152 = 0 then ((cabinetryref03_Validate.f k a1_0 l1_1 l1_2).bind fun t153 => (if t153 = 0 then (if a0_0 = a1_0 then ((cabinetryref03_SameFields.f k l0_1 l1_1).bind fun t154 => (cabinetryref03_Differ.j0 k (!t154) a0_0 l0_1 l0_2 a1_0 l1_1 l1_2)) else (cabinetryref03_Differ.j0 k true a0_0 l0_1 l0_2 a1_0 l1_1 l1_2)) else (some (([] : List Int), t153)))) else (some (([] : List Int), t152))) = some (r1, r2) := H
 have A3 := Z0 A30
 clear A30
 by_cases c4 : t152 = 0
 ·rw [if_pos c4] at H
  have c4b0 : (t152 == 0) = true := beq_iff_eq.mpr c4
  have c4b1 : (t152 != 0) = false := bne_eq_false_iff_eq.mpr c4
  clear c4
  replace H := Option.bind_eq_some_iff.mp H
  obtain ⟨t153, A50, H⟩ := H
  replace H : (if t153 = 0 then (if a0_0 = a1_0 then ((cabinetryref03_SameFields.f k l0_1 l1_1).bind fun t154 => (cabinetryref03_Differ.j0 k (!t154) a0_0 l0_1 l0_2 a1_0 l1_1 l1_2)) else (cabinetryref03_Differ.j0 k true a0_0 l0_1 l0_2 a1_0 l1_1 l1_2)) else (some (([] : List Int), t153))) = some (r1, r2) := H
  have A5 := Z0 A50
  clear A50
  by_cases c6 : t153 = 0
  ·rw [if_pos c6] at H
   have c6b0 : (t153 == 0) = true := beq_iff_eq.mpr c6
   have c6b1 : (t153 != 0) = false := bne_eq_false_iff_eq.mpr c6
   clear c6
   have HC7 := Z0 H
   clear H
   go_enter Tryz.func40, Tryz.ntmps40
   go_upto_region 7 with (first | ((with_reducible refine Y1 (N := 2) rfl ?_); (try (refine gate_guard (by rfl) ?_; dsimp only)); refine bx (N := 2) (cs := #[.int .i64 a0_0, .slice A0_1 l0_1.length c0_1, .slice A0_2 l0_2.length c0_2]) (t := 35) ?_; intro gb150 hg w8 hbox hb; have BK150 := Z0 (hbox); have GE150 := Z0 ((by rw [hg]; exact (Z9 HB.out) : w.heap.size ≤ gb150)); replace HB := Z0 (Z4 HB.out hb); clear hb hbox hg) | ((with_reducible refine Y1 (N := 3) rfl ?_); (try (refine gate_guard (by rfl) ?_; dsimp only)); refine bx (N := 3) (cs := #[.int .i64 a1_0, .slice A1_1 l1_1.length c1_1, .slice A1_2 l1_2.length c1_2]) (t := 35) ?_; intro gb151 hg w9 hbox hb; have BK151 := Z0 (hbox); have GE151 := Z0 ((by rw [hg]; exact (Z9 HB.out) : w.heap.size ≤ gb151)); replace HB := Z0 (Z4 HB.out hb); have NB150_151 := Z0 ((by rw [hg]; exact Nat.ne_of_lt (blk_lt BK150.out) : gb150 ≠ gb151)); have NB151_150 := Z0 ((by rw [hg]; exact Nat.ne_of_gt (blk_lt BK150.out) : gb151 ≠ gb150)); replace BK150 := Z0 (Z5 BK150.out hb); clear hb hbox hg; have hnb10 := NB150_151.out; have hnc10 := NB151_150.out; obtain ⟨hcz11_0, hcz11_1, hcz11_2⟩ := bc3 BK150.out; obtain ⟨hfz11_0, hfz11_1, hfz11_2⟩ := bf3 BK150.out) | ((with_reducible refine Y2 (f := 35) rfl ?_); refine goesL_ (some 11) rfl rfl Tryz.func35 (by kernel_rfl) rfl #[.agg #[.int .i64 a0_0, .slice A0_1 l0_1.length c0_1, .slice A0_2 l0_2.length c0_2]] rfl V1 ?_; (with_reducible refine (cabinetryref03_Validate.calls k a0_0 _ _ l0_1 _ _ l0_2 t152 _ ?side1 ?side2 ?side3 ?side4 A3.out).mono ?_); (case side1 => repeat (first | exact (Kd.C_below HR0_1.out HB.out) | (with_reducible refine Kd.C_alloc ?_ _) | (with_reducible refine Kd.C_drewN ?_ _) | (with_reducible refine Kd.C_drew ?_))); (case side2 => exact HC0_1.out); (case side3 => repeat (first | exact (Kd.C_below HR0_2.out HB.out) | (with_reducible refine Kd.C_alloc ?_ _) | (with_reducible refine Kd.C_drewN ?_ _) | (with_reducible refine Kd.C_drew ?_))); (case side4 => exact HC0_2.out); rintro e w12 ⟨rfl, hb⟩; refine ⟨_, rfl, ?_⟩; replace BK150 := Z0 (Z5 BK150.out hb); replace BK151 := Z0 (Z5 BK151.out hb); replace HB := Z0 (Z4 HB.out hb); (try clear hb); (try clear hb2); (try clear hk); (try clear hi); obtain ⟨hcz13_0, hcz13_1, hcz13_2⟩ := bc3 BK151.out; obtain ⟨hfz13_0, hfz13_1, hfz13_2⟩ := bf3 BK151.out) | ((with_reducible refine Y2 (f := 35) rfl ?_); refine goesL_ (some 16) rfl rfl Tryz.func35 (by kernel_rfl) rfl #[.agg #[.int .i64 a1_0, .slice A1_1 l1_1.length c1_1, .slice A1_2 l1_2.length c1_2]] rfl V1 ?_; (with_reducible refine (cabinetryref03_Validate.calls k a1_0 _ _ l1_1 _ _ l1_2 t153 _ ?side1 ?side2 ?side3 ?side4 A5.out).mono ?_); (case side1 => repeat (first | exact (Kd.C_below HR1_1.out HB.out) | (with_reducible refine Kd.C_alloc ?_ _) | (with_reducible refine Kd.C_drewN ?_ _) | (with_reducible refine Kd.C_drew ?_))); (case side2 => exact HC1_1.out); (case side3 => repeat (first | exact (Kd.C_below HR1_2.out HB.out) | (with_reducible refine Kd.C_alloc ?_ _) | (with_reducible refine Kd.C_drewN ?_ _) | (with_reducible refine Kd.C_drew ?_))); (case side4 => exact HC1_2.out); rintro e w14 ⟨rfl, hb⟩; refine ⟨_, rfl, ?_⟩; replace BK150 := Z0 (Z5 BK150.out hb); replace BK151 := Z0 (Z5 BK151.out hb); replace HB := Z0 (Z4 HB.out hb); (try clear hb); (try clear hb2); (try clear hk); (try clear hi)))
   (try simp only [Act.put, Z1, Z2, Z3])
   go_cut [32] (fun v32 wc => ∃ (kq : Nat) (x32_6 : Bool), v32 = .bool x32_6 ∧ Aside0 (cabinetryref03_Differ.j0 kq x32_6 a0_0 l0_1 l0_2 a1_0 l1_1 l1_2 = some (r1, r2)) ∧ Aside0 (kq ≤ k) ∧ Aside0 (wc.heap[gb150]? = some (.cells #[.int .i64 a0_0, (.slice A0_1 l0_1.length c0_1), (.slice A0_2 l0_2.length c0_2)] 35 (0, 0))) ∧ Aside0 (wc.heap[gb151]? = some (.cells #[.int .i64 a1_0, (.slice A1_1 l1_1.length c1_1), (.slice A1_2 l1_2.length c1_2)] 35 (0, 0))) ∧ Aside0 (Below w.heap.size w wc))
   case first =>
    have H := HC7.out
    clear HC7
    by_cases c15 : a0_0 = a1_0
    ·rw [if_pos c15] at H
     have c15b0 : (a0_0 == a1_0) = true := beq_iff_eq.mpr c15
     have c15b1 : (a0_0 != a1_0) = false := bne_eq_false_iff_eq.mpr c15
     clear c15
     (first | rw [c15b0] | (simp only [Y4, Y5]; rw [c15b0]) | skip)
     replace H := Option.bind_eq_some_iff.mp H
     obtain ⟨t154, A160, H⟩ := H
     replace H : (cabinetryref03_Differ.j0 k (!t154) a0_0 l0_1 l0_2 a1_0 l1_1 l1_2) = some (r1, r2) := H
     have A16 := Z0 A160
     clear A160
     have H' := Z0 H
     clear H
     have hnb17 := NB150_151.out
     have hnc17 := NB151_150.out
     obtain ⟨hcz18_0, hcz18_1, hcz18_2⟩ := bc3 BK150.out
     obtain ⟨hfz18_0, hfz18_1, hfz18_2⟩ := bf3 BK150.out
     obtain ⟨hcz19_0, hcz19_1, hcz19_2⟩ := bc3 BK151.out
     obtain ⟨hfz19_0, hfz19_1, hfz19_2⟩ := bf3 BK151.out
     go_wp2_with (first | (go_at_call 79; (with_reducible refine (cabinetryref03_SameFields.calls k _ _ l0_1 _ _ l1_1 t154 _ ?side1 ?side2 ?side3 ?side4 A16.out).mono ?_); (case side1 => repeat (first | exact (Kd.C_below HR0_1.out HB.out) | (with_reducible refine Kd.C_alloc ?_ _) | (with_reducible refine Kd.C_drewN ?_ _) | (with_reducible refine Kd.C_drew ?_))); (case side2 => exact HC0_1.out); (case side3 => repeat (first | exact (Kd.C_below HR1_1.out HB.out) | (with_reducible refine Kd.C_alloc ?_ _) | (with_reducible refine Kd.C_drewN ?_ _) | (with_reducible refine Kd.C_drew ?_))); (case side4 => exact HC1_1.out); rintro e w' ⟨rfl, ⟨nd, rfl⟩⟩))
     go_meet
     case rel => exact ⟨_, (!t154), V2, H', ⟨by first | omega | exact Nat.le_refl _⟩, ⟨by (with_reducible repeat (first | refine Z6 ?_ _ | refine Z8 ?_ | refine Z7 ?_ _)); exact BK150.out⟩, ⟨by (with_reducible repeat (first | refine Z6 ?_ _ | refine Z8 ?_ | refine Z7 ?_ _)); exact BK151.out⟩, ⟨V0⟩⟩
    ·rw [if_neg c15] at H
     have c15b0 : (a0_0 == a1_0) = false := beq_eq_false_iff_ne.mpr c15
     have c15b1 : (a0_0 != a1_0) = true := bne_iff_ne.mpr c15
     (first | rw [c15b0] | (simp only [Y4, Y5]; rw [c15b0]) | skip)
     have H' := Z0 H
     clear H
     have hnb20 := NB150_151.out
     have hnc20 := NB151_150.out
     obtain ⟨hcz21_0, hcz21_1, hcz21_2⟩ := bc3 BK150.out
     obtain ⟨hfz21_0, hfz21_1, hfz21_2⟩ := bf3 BK150.out
     obtain ⟨hcz22_0, hcz22_1, hcz22_2⟩ := bc3 BK151.out
     obtain ⟨hfz22_0, hfz22_1, hfz22_2⟩ := bf3 BK151.out
     go_wp2
     go_meet
     case rel => exact ⟨_, (true), V2, H', ⟨by first | omega | exact Nat.le_refl _⟩, ⟨by (with_reducible repeat (first | refine Z6 ?_ _ | refine Z8 ?_ | refine Z7 ?_ _)); exact BK150.out⟩, ⟨by (with_reducible repeat (first | refine Z6 ?_ _ | refine Z8 ?_ | refine Z7 ?_ _)); exact BK151.out⟩, ⟨V0⟩⟩
   case rest =>
    clear HC7
    (try clear c1);(try clear c2);(try clear p2);(try clear c3);(try clear c4);(try clear c4b0);(try clear c4b1);(try clear c6);(try clear c6b0);(try clear c6b1);(try clear c10);(try clear c15);(try clear c15b0);(try clear c15b1);(try clear c17);(try clear c20);(try clear hcz11_0);(try clear hcz11_1);(try clear hcz11_2);(try clear hcz13_0);(try clear hcz13_1);(try clear hcz13_2);(try clear hcz18_0);(try clear hcz18_1);(try clear hcz18_2);(try clear hcz19_0);(try clear hcz19_1);(try clear hcz19_2);(try clear hcz21_0);(try clear hcz21_1);(try clear hcz21_2);(try clear hcz22_0);(try clear hcz22_1);(try clear hcz22_2);(try clear hfz11_0);(try clear hfz11_1);(try clear hfz11_2);(try clear hfz13_0);(try clear hfz13_1);(try clear hfz13_2);(try clear hfz18_0);(try clear hfz18_1);(try clear hfz18_2);(try clear hfz19_0);(try clear hfz19_1);(try clear hfz19_2);(try clear hfz21_0);(try clear hfz21_1);(try clear hfz21_2);(try clear hfz22_0);(try clear hfz22_1);(try clear hfz22_2)
    obtain ⟨kq, x32_6, rfl, HA, HJ6, BK150, BK151, HB⟩ := hcut
    cases kq with
    | zero => exact absurd HA.out (by simp [cabinetryref03_Differ.j0])
    | succ kj6 =>
     have H := HA.out
     clear HA
     simp only [cabinetryref03_Differ.j0] at H
     by_cases c23 : x32_6 = true
     ·subst c23
      have H1 : (some (([] : List Int), 10)) = some (r1, r2) := by rw [if_pos rfl] at H; exact H
      clear H
      have H := H1
      clear H1
      simp only [Option.some.injEq, Prod.mk.injEq] at H
      obtain ⟨rfl, rfl⟩ := H
      go_wp2
      go_ret2
      exact ⟨_, rfl, by first | exact Kd.R_nil _ _ _ _ _ | exact Kd.N_nil _ _ _ _ _ | exact Kd.V_nil _ _ _ _ _ | exact Kd.Q_nil _ _ _ _ _ | exact Kd.S_nil _ _ _ _ _, V0⟩
     ·replace c23 := Bool.eq_false_iff.mpr c23
      subst c23
      have H1 : (cabinetryref03_Differ.l0 kj6 ([] : List Int) 0 a0_0 l0_1 l0_2 a1_0 l1_1 l1_2) = some (r1, r2) := by rw [if_neg (show ¬ (false = true) by decide)] at H; exact H
      clear H
      have H := H1
      clear H1
      have H' := Z0 H
      clear H
      go_wp2
      go_loopg [8, 9] kj6 (fun kq v8 v9 w' => ∃ (x8_2 : List Int) (x9_2 : Int), v9 = .int .i64 x9_2 ∧ Aside0 (cabinetryref03_Differ.l0 kq x8_2 x9_2 a0_0 l0_1 l0_2 a1_0 l1_1 l1_2 = some (r1, r2)) ∧ Aside0 (kq ≤ kj6) ∧ Aside0 (Kd.R (Kd.int .i64) 3 w' w.heap.size (fun _ => True) v8 x8_2) ∧ Aside0 (w'.heap[gb150]? = some (.cells #[.int .i64 a0_0, (.slice A0_1 l0_1.length c0_1), (.slice A0_2 l0_2.length c0_2)] 35 (0, 0))) ∧ Aside0 (w'.heap[gb151]? = some (.cells #[.int .i64 a1_0, (.slice A1_1 l1_1.length c1_1), (.slice A1_2 l1_2.length c1_2)] 35 (0, 0))) ∧ Aside0 (Below w.heap.size w w'))
      case atStart => exact ⟨(([] : List Int)), (0), V2, H', ⟨Nat.le_refl _⟩, ⟨by first | exact Kd.R_nil _ _ _ _ _ | exact Kd.N_nil _ _ _ _ _ | exact Kd.V_nil _ _ _ _ _ | exact Kd.Q_nil _ _ _ _ _ | exact Kd.S_nil _ _ _ _ _⟩, ⟨by (with_reducible repeat (first | refine Z6 ?_ _ | refine Z8 ?_ | refine Z7 ?_ _)); exact BK150.out⟩, ⟨by (with_reducible repeat (first | refine Z6 ?_ _ | refine Z8 ?_ | refine Z7 ?_ _)); exact BK151.out⟩, ⟨V0⟩⟩
      case round =>
       clear H'
       (try clear c1);(try clear c2);(try clear p2);(try clear c3);(try clear c4);(try clear c4b0);(try clear c4b1);(try clear c6);(try clear c6b0);(try clear c6b1);(try clear c10);(try clear c15);(try clear c15b0);(try clear c15b1);(try clear c17);(try clear c20);(try clear c23);(try clear hcz11_0);(try clear hcz11_1);(try clear hcz11_2);(try clear hcz13_0);(try clear hcz13_1);(try clear hcz13_2);(try clear hcz18_0);(try clear hcz18_1);(try clear hcz18_2);(try clear hcz19_0);(try clear hcz19_1);(try clear hcz19_2);(try clear hcz21_0);(try clear hcz21_1);(try clear hcz21_2);(try clear hcz22_0);(try clear hcz22_1);(try clear hcz22_2);(try clear hfz11_0);(try clear hfz11_1);(try clear hfz11_2);(try clear hfz13_0);(try clear hfz13_1);(try clear hfz13_2);(try clear hfz18_0);(try clear hfz18_1);(try clear hfz18_2);(try clear hfz19_0);(try clear hfz19_1);(try clear hfz19_2);(try clear hfz21_0);(try clear hfz21_1);(try clear hfz21_2);(try clear hfz22_0);(try clear hfz22_1);(try clear hfz22_2);(try clear p2)
       obtain ⟨x8_2, x9_2, rfl, HA, HK2, HO_8, BK150, BK151, HB⟩ := hrel
       cases gk with
       | zero => exact absurd HA.out (by simp [cabinetryref03_Differ.l0])
       | succ k2 =>
        have H := HA.out
        clear HA
        simp only [cabinetryref03_Differ.l0] at H
        have HC24 := Z0 H
        clear H
        go_upto_region 11 with (fail)
        go_cut [44] (fun v44 wc => ∃ (kq : Nat) (x44_23 : Bool), v44 = .bool x44_23 ∧ Aside0 (cabinetryref03_Differ.j2 kq x8_2 x9_2 x44_23 a0_0 l0_1 l0_2 a1_0 l1_1 l1_2 = some (r1, r2)) ∧ Aside0 (kq ≤ k2) ∧ Aside0 (Kd.R (Kd.int .i64) 3 wc w.heap.size (fun _ => True) u8 x8_2) ∧ Aside0 (wc.heap[gb150]? = some (.cells #[.int .i64 a0_0, (.slice A0_1 l0_1.length c0_1), (.slice A0_2 l0_2.length c0_2)] 35 (0, 0))) ∧ Aside0 (wc.heap[gb151]? = some (.cells #[.int .i64 a1_0, (.slice A1_1 l1_1.length c1_1), (.slice A1_2 l1_2.length c1_2)] 35 (0, 0))) ∧ Aside0 (Below w.heap.size w wc))
        case first =>
         have H := HC24.out
         clear HC24
         by_cases c25 : x9_2 < (l0_2.length : Int)
         ·rw [if_pos c25] at H
          have c25b0 : decide (x9_2 < (l0_2.length : Int)) = true := decide_eq_true c25
          clear c25
          (first | rw [c25b0] | (simp only [Y4, Y5]; rw [c25b0]) | skip)
          have H' := Z0 H
          clear H
          have hnb26 := NB150_151.out
          have hnc26 := NB151_150.out
          obtain ⟨hcz27_0, hcz27_1, hcz27_2⟩ := bc3 BK150.out
          obtain ⟨hfz27_0, hfz27_1, hfz27_2⟩ := bf3 BK150.out
          go_wp2
          go_meet
          case rel => exact ⟨_, (true), V2, H', ⟨by have := HJ6.out; have := HK2.out; first | omega | exact Nat.le_refl _⟩, ⟨by (with_reducible repeat (first | apply Kd.R_alloc | apply Kd.R_drewN | apply Kd.R_drew)); exact HO_8.out⟩, ⟨by (with_reducible repeat (first | refine Z6 ?_ _ | refine Z8 ?_ | refine Z7 ?_ _)); exact BK150.out⟩, ⟨by (with_reducible repeat (first | refine Z6 ?_ _ | refine Z8 ?_ | refine Z7 ?_ _)); exact BK151.out⟩, ⟨V0⟩⟩
         ·rw [if_neg c25] at H
          have c25b0 : decide (x9_2 < (l0_2.length : Int)) = false := decide_eq_false c25
          clear c25
          (first | rw [c25b0] | (simp only [Y4, Y5]; rw [c25b0]) | skip)
          have H' := Z0 H
          clear H
          have hnb28 := NB150_151.out
          have hnc28 := NB151_150.out
          obtain ⟨hcz29_0, hcz29_1, hcz29_2⟩ := bc3 BK150.out
          obtain ⟨hfz29_0, hfz29_1, hfz29_2⟩ := bf3 BK150.out
          obtain ⟨hcz30_0, hcz30_1, hcz30_2⟩ := bc3 BK151.out
          obtain ⟨hfz30_0, hfz30_1, hfz30_2⟩ := bf3 BK151.out
          go_wp2
          go_meet
          case rel => exact ⟨_, (decide (x9_2 < (l1_2.length : Int))), V2, H', ⟨by have := HJ6.out; have := HK2.out; first | omega | exact Nat.le_refl _⟩, ⟨by (with_reducible repeat (first | apply Kd.R_alloc | apply Kd.R_drewN | apply Kd.R_drew)); exact HO_8.out⟩, ⟨by (with_reducible repeat (first | refine Z6 ?_ _ | refine Z8 ?_ | refine Z7 ?_ _)); exact BK150.out⟩, ⟨by (with_reducible repeat (first | refine Z6 ?_ _ | refine Z8 ?_ | refine Z7 ?_ _)); exact BK151.out⟩, ⟨V0⟩⟩
        case rest =>
         clear HC24
         (try clear c1);(try clear c2);(try clear p2);(try clear c3);(try clear c4);(try clear c4b0);(try clear c4b1);(try clear c6);(try clear c6b0);(try clear c6b1);(try clear c10);(try clear c15);(try clear c15b0);(try clear c15b1);(try clear c17);(try clear c20);(try clear c23);(try clear c25);(try clear c25b0);(try clear c26);(try clear c28);(try clear hcz11_0);(try clear hcz11_1);(try clear hcz11_2);(try clear hcz13_0);(try clear hcz13_1);(try clear hcz13_2);(try clear hcz18_0);(try clear hcz18_1);(try clear hcz18_2);(try clear hcz19_0);(try clear hcz19_1);(try clear hcz19_2);(try clear hcz21_0);(try clear hcz21_1);(try clear hcz21_2);(try clear hcz22_0);(try clear hcz22_1);(try clear hcz22_2);(try clear hcz27_0);(try clear hcz27_1);(try clear hcz27_2);(try clear hcz29_0);(try clear hcz29_1);(try clear hcz29_2);(try clear hcz30_0);(try clear hcz30_1);(try clear hcz30_2);(try clear hfz11_0);(try clear hfz11_1);(try clear hfz11_2);(try clear hfz13_0);(try clear hfz13_1);(try clear hfz13_2);(try clear hfz18_0);(try clear hfz18_1);(try clear hfz18_2);(try clear hfz19_0);(try clear hfz19_1);(try clear hfz19_2);(try clear hfz21_0);(try clear hfz21_1);(try clear hfz21_2);(try clear hfz22_0);(try clear hfz22_1);(try clear hfz22_2);(try clear hfz27_0);(try clear hfz27_1);(try clear hfz27_2);(try clear hfz29_0);(try clear hfz29_1);(try clear hfz29_2);(try clear hfz30_0);(try clear hfz30_1);(try clear hfz30_2);(try clear p2)
         obtain ⟨kq, x44_23, rfl, HA, HJ23, HO_8, BK150, BK151, HB⟩ := hcut
         cases kq with
         | zero => exact absurd HA.out (by simp [cabinetryref03_Differ.j2])
         | succ kj23 =>
          have H := HA.out
          clear HA
          simp only [cabinetryref03_Differ.j2] at H
          by_cases c31 : x44_23 = true
          ·subst c31
           have H1 : (if x9_2 ≥ (l0_2.length : Int) then (cabinetryref03_Differ.j3 kj23 x8_2 x9_2 true a0_0 l0_1 l0_2 a1_0 l1_1 l1_2) else (if x9_2 ≥ (l1_2.length : Int) then (cabinetryref03_Differ.j3 kj23 x8_2 x9_2 true a0_0 l0_1 l0_2 a1_0 l1_1 l1_2) else (if 0 ≤ x9_2 then (if x9_2 < (l0_2.length : Int) then (if x9_2 < (l1_2.length : Int) then ((cabinetryref03_SameRecord.f kj23 ((rd_T46 l0_2 x9_2).f0) ((rd_T46 l0_2 x9_2).f1) ((rd_T46 l1_2 x9_2).f0) ((rd_T46 l1_2 x9_2).f1)).bind fun t157 => (cabinetryref03_Differ.j3 kj23 x8_2 x9_2 (!t157) a0_0 l0_1 l0_2 a1_0 l1_1 l1_2)) else (none)) else (none)) else (none)))) = some (r1, r2) := by rw [if_pos rfl] at H; exact H
           clear H
           have H := H1
           clear H1
           have HC32 := Z0 H
           clear H
           go_upto_region 13 with (fail)
           go_cut [72] (fun v72 wc => ∃ (kq : Nat) (x72_31 : Bool), v72 = .bool x72_31 ∧ Aside0 (cabinetryref03_Differ.j3 kq x8_2 x9_2 x72_31 a0_0 l0_1 l0_2 a1_0 l1_1 l1_2 = some (r1, r2)) ∧ Aside0 (kq ≤ kj23) ∧ Aside0 (Kd.R (Kd.int .i64) 3 wc w.heap.size (fun _ => True) u8 x8_2) ∧ Aside0 (wc.heap[gb150]? = some (.cells #[.int .i64 a0_0, (.slice A0_1 l0_1.length c0_1), (.slice A0_2 l0_2.length c0_2)] 35 (0, 0))) ∧ Aside0 (wc.heap[gb151]? = some (.cells #[.int .i64 a1_0, (.slice A1_1 l1_1.length c1_1), (.slice A1_2 l1_2.length c1_2)] 35 (0, 0))) ∧ Aside0 (Below w.heap.size w wc))
           case first =>
            have H := HC32.out
            clear HC32
            by_cases c33 : x9_2 ≥ (l0_2.length : Int)
            ·rw [if_pos c33] at H
             have c33b0 : decide ((l0_2.length : Int) ≤ x9_2) = true := decide_eq_true c33
             clear c33
             (first | rw [c33b0] | (simp only [Y4, Y5]; rw [c33b0]) | skip)
             have H' := Z0 H
             clear H
             try go_wp2
             have n0_ := Z0 (Kd.R_drew HO_8.out)
             have n1_ := Z0 (Z8 BK150.out)
             have n2_ := Z0 (Z8 BK151.out)
             have n3_ := Z0 (below_drew1 HB.out)
             clear HO_8
             clear BK150
             clear BK151
             clear HB
             have HO_8 := n0_
             have BK150 := n1_
             have BK151 := n2_
             have HB := n3_
             clear n0_ n1_ n2_ n3_
             refine start_ (n := 26) (S := fun w' => w'.cell? ⟨gb150, 0, none⟩ = some (.int .i64 a0_0) ∧ w'.cell? ⟨gb150, 1, none⟩ = some (.slice A0_1 l0_1.length c0_1) ∧ w'.cell? ⟨gb150, 2, none⟩ = some (.slice A0_2 l0_2.length c0_2)) (ds := []) (bs 26 0) (by kernel_rfl) rfl rfl ⟨(Y0 BK150.out 0).trans rfl, (Y0 BK150.out 1).trans rfl, (Y0 BK150.out 2).trans rfl⟩ (fun hHeld => ?_); refine with_tabW cabinetryref03_Differ.tab13 cabinetryref03_Differ.bits13 (fun HT_ HW_ => ?_)
             generalize wc.drew = w34 at HO_8 BK150 BK151 HB hHeld ⊢
             refine Y8 (i := 0) (N := some 47) (v := ?_) (a' := ?_) (bs 26 1) rfl rfl (Y3 HT_.out (by kernel_rfl)) (fun _ _ _ h => h) (Or.inl ⟨by rfl, ?_⟩) ?_ ?_
             rotate_left
             ·intro w'
              go_simp
              with_reducible rfl
             rotate_left
             ·simp only [Act.put, Z1, Z2, Z3, Y4, Y5]
              rfl
             refine Y8 (i := 1) (N := some 48) (v := ?_) (a' := ?_) (bs 26 3) rfl rfl (Y3 HT_.out (by kernel_rfl)) (fun _ _ _ h => h) (Or.inl ⟨by rfl, ?_⟩) ?_ ?_
             rotate_left
             ·intro w'
              go_simp
              with_reducible rfl
             rotate_left
             ·simp only [Act.put, Z1, Z2, Z3, Y4, Y5]
              rfl
             refine take_ (i := 2) (N := some 49) (v := ?_) (a' := ?_) (bs 26 7) rfl rfl (take_ofW HT_.out HW_.out (by kernel_rfl)) (fun _ _ _ h => h) (Or.inl ⟨by rfl, ?_⟩) hHeld ?_ ?_
             rotate_left
             ·rintro w' ⟨s0, s1, s2⟩
              go_simp
              with_reducible rfl
             rotate_left
             ·simp only [Act.put, Z1, Z2, Z3, Y4, Y5]
              rfl
             refine Y8 (i := 3) (N := some 50) (v := ?_) (a' := ?_) (bs 26 15) rfl rfl (Y3 HT_.out (by kernel_rfl)) (fun _ _ _ h => h) (Or.inl ⟨by rfl, ?_⟩) ?_ ?_
             rotate_left
             ·intro w'
              go_simp
              with_reducible rfl
             rotate_left
             ·simp only [Act.put, Z1, Z2, Z3, Y4, Y5]
              rfl
             refine Y8 (i := 4) (N := some 51) (v := ?_) (a' := ?_) (bs 26 31) rfl rfl (Y3 HT_.out (by kernel_rfl)) (fun _ _ _ h => h) (Or.inl ⟨by rfl, ?_⟩) ?_ ?_
             rotate_left
             ·intro w'
              go_simp
              with_reducible rfl
             rotate_left
             ·simp only [Act.put, Z1, Z2, Z3, Y4, Y5]
              rfl
             refine Y8 (i := 5) (N := some 52) (v := ?_) (a' := ?_) (bs 26 63) rfl rfl (Y3 HT_.out (by kernel_rfl)) (fun _ _ _ h => h) (Or.inl ⟨by rfl, ?_⟩) ?_ ?_
             rotate_left
             ·intro w'
              go_simp
              with_reducible rfl
             rotate_left
             ·simp only [Act.put, Z1, Z2, Z3, Y4, Y5]
              rfl
             refine Y8 (i := 6) (N := some 53) (v := undef) (a' := ?_) (bs 26 127) rfl rfl (Y3 HT_.out (by kernel_rfl)) (fun _ _ _ h => h) (Or.inr ⟨by rfl, rfl⟩) ?_ ?_
             rotate_left
             ·simp only [Act.put, Z1, Z2, Z3, Y4, Y5]
              rfl
             refine Y8 (i := 7) (N := some 54) (v := undef) (a' := ?_) (bs 26 255) rfl rfl (Y3 HT_.out (by kernel_rfl)) (fun _ _ _ h => h) (Or.inr ⟨by rfl, rfl⟩) ?_ ?_
             rotate_left
             ·simp only [Act.put, Z1, Z2, Z3, Y4, Y5]
              rfl
             refine Y8 (i := 8) (N := some 55) (v := undef) (a' := ?_) (bs 26 511) rfl rfl (Y3 HT_.out (by kernel_rfl)) (fun _ _ _ h => h) (Or.inr ⟨by rfl, rfl⟩) ?_ ?_
             rotate_left
             ·simp only [Act.put, Z1, Z2, Z3, Y4, Y5]
              rfl
             refine Y8 (i := 9) (N := some 56) (v := undef) (a' := ?_) (bs 26 1023) rfl rfl (Y3 HT_.out (by kernel_rfl)) (fun _ _ _ h => h) (Or.inr ⟨by rfl, rfl⟩) ?_ ?_
             rotate_left
             ·simp only [Act.put, Z1, Z2, Z3, Y4, Y5]
              rfl
             refine Y8 (i := 10) (N := some 57) (v := undef) (a' := ?_) (bs 26 2047) rfl rfl (Y3 HT_.out (by kernel_rfl)) (fun _ _ _ h => h) (Or.inr ⟨by rfl, rfl⟩) ?_ ?_
             rotate_left
             ·simp only [Act.put, Z1, Z2, Z3, Y4, Y5]
              rfl
             refine Y8 (i := 11) (N := some 58) (v := ?_) (a' := ?_) (bs 26 4095) rfl rfl (Y3 HT_.out (by kernel_rfl)) (fun _ _ _ h => h) (Or.inl ⟨by rfl, ?_⟩) ?_ ?_
             rotate_left
             ·intro w'
              go_simp
              with_reducible rfl
             rotate_left
             ·simp only [Act.put, Z1, Z2, Z3, Y4, Y5]
              rfl
             refine Y8 (i := 12) (N := some 59) (v := ?_) (a' := ?_) (bs 26 8191) rfl rfl (Y3 HT_.out (by kernel_rfl)) (fun _ _ _ h => h) (Or.inl ⟨by rfl, ?_⟩) ?_ ?_
             rotate_left
             ·intro w'
              go_simp
              with_reducible rfl
             rotate_left
             ·simp only [Act.put, Z1, Z2, Z3, Y4, Y5]
              rfl
             refine Y8 (i := 13) (N := some 60) (v := undef) (a' := ?_) (bs 26 16383) rfl rfl (Y3 HT_.out (by kernel_rfl)) (fun _ _ _ h => h) (Or.inr ⟨by rfl, rfl⟩) ?_ ?_
             rotate_left
             ·simp only [Act.put, Z1, Z2, Z3, Y4, Y5]
              rfl
             refine Y8 (i := 14) (N := some 61) (v := undef) (a' := ?_) (bs 26 32767) rfl rfl (Y3 HT_.out (by kernel_rfl)) (fun _ _ _ h => h) (Or.inr ⟨by rfl, rfl⟩) ?_ ?_
             rotate_left
             ·simp only [Act.put, Z1, Z2, Z3, Y4, Y5]
              rfl
             refine Y8 (i := 15) (N := some 62) (v := undef) (a' := ?_) (bs 26 65535) rfl rfl (Y3 HT_.out (by kernel_rfl)) (fun _ _ _ h => h) (Or.inr ⟨by rfl, rfl⟩) ?_ ?_
             rotate_left
             ·simp only [Act.put, Z1, Z2, Z3, Y4, Y5]
              rfl
             refine Y8 (i := 16) (N := some 63) (v := undef) (a' := ?_) (bs 26 131071) rfl rfl (Y3 HT_.out (by kernel_rfl)) (fun _ _ _ h => h) (Or.inr ⟨by rfl, rfl⟩) ?_ ?_
             rotate_left
             ·simp only [Act.put, Z1, Z2, Z3, Y4, Y5]
              rfl
             refine Y8 (i := 17) (N := some 64) (v := undef) (a' := ?_) (bs 26 262143) rfl rfl (Y3 HT_.out (by kernel_rfl)) (fun _ _ _ h => h) (Or.inr ⟨by rfl, rfl⟩) ?_ ?_
             rotate_left
             ·simp only [Act.put, Z1, Z2, Z3, Y4, Y5]
              rfl
             refine Y8 (i := 18) (N := some 65) (v := undef) (a' := ?_) (bs 26 524287) rfl rfl (Y3 HT_.out (by kernel_rfl)) (fun _ _ _ h => h) (Or.inr ⟨by rfl, rfl⟩) ?_ ?_
             rotate_left
             ·simp only [Act.put, Z1, Z2, Z3, Y4, Y5]
              rfl
             refine Y8 (i := 19) (N := some 66) (v := undef) (a' := ?_) (bs 26 1048575) rfl rfl (Y3 HT_.out (by kernel_rfl)) (fun _ _ _ h => h) (Or.inr ⟨by rfl, rfl⟩) ?_ ?_
             rotate_left
             ·simp only [Act.put, Z1, Z2, Z3, Y4, Y5]
              rfl
             refine Y8 (i := 20) (N := some 67) (v := undef) (a' := ?_) (bs 26 2097151) rfl rfl (Y3 HT_.out (by kernel_rfl)) (fun _ _ _ h => h) (Or.inr ⟨by rfl, rfl⟩) ?_ ?_
             rotate_left
             ·simp only [Act.put, Z1, Z2, Z3, Y4, Y5]
              rfl
             refine Y8 (i := 21) (N := some 68) (v := undef) (a' := ?_) (bs 26 4194303) rfl rfl (Y3 HT_.out (by kernel_rfl)) (fun _ _ _ h => h) (Or.inr ⟨by rfl, rfl⟩) ?_ ?_
             rotate_left
             ·simp only [Act.put, Z1, Z2, Z3, Y4, Y5]
              rfl
             refine Y8 (i := 22) (N := some 69) (v := undef) (a' := ?_) (bs 26 8388607) rfl rfl (Y3 HT_.out (by kernel_rfl)) (fun _ _ _ h => h) (Or.inr ⟨by rfl, rfl⟩) ?_ ?_
             rotate_left
             ·simp only [Act.put, Z1, Z2, Z3, Y4, Y5]
              rfl
             refine Y8 (i := 23) (N := some 70) (v := undef) (a' := ?_) (bs 26 16777215) rfl rfl (Y3 HT_.out (by kernel_rfl)) (fun _ _ _ h => h) (Or.inr ⟨by rfl, rfl⟩) ?_ ?_
             rotate_left
             ·simp only [Act.put, Z1, Z2, Z3, Y4, Y5]
              rfl
             refine Y8 (i := 24) (N := some 71) (v := undef) (a' := ?_) (bs 26 33554431) rfl rfl (Y3 HT_.out (by kernel_rfl)) (fun _ _ _ h => h) (Or.inr ⟨by rfl, rfl⟩) ?_ ?_
             rotate_left
             ·simp only [Act.put, Z1, Z2, Z3, Y4, Y5]
              rfl
             refine Y8 (i := 25) (N := some 72) (v := ?_) (a' := ?_) (bs 26 67108863) rfl rfl (Y3 HT_.out (by kernel_rfl)) (fun _ _ _ h => h) (Or.inl ⟨by rfl, ?_⟩) ?_ ?_
             rotate_left
             ·intro w'
              go_simp
              with_reducible rfl
             rotate_left
             ·simp only [Act.put, Z1, Z2, Z3, Y4, Y5]
              rfl
             refine done_ (done_of HT_.out (by kernel_rfl)) ?_
             try go_wp2
             go_meet
             case rel => exact ⟨_, (true), V2, H', ⟨by have := HJ6.out; have := HK2.out; have := HJ23.out; first | omega | exact Nat.le_refl _⟩, ⟨by (with_reducible repeat (first | apply Kd.R_alloc | apply Kd.R_drewN | apply Kd.R_drew)); exact HO_8.out⟩, ⟨by (with_reducible repeat (first | refine Z6 ?_ _ | refine Z8 ?_ | refine Z7 ?_ _)); exact BK150.out⟩, ⟨by (with_reducible repeat (first | refine Z6 ?_ _ | refine Z8 ?_ | refine Z7 ?_ _)); exact BK151.out⟩, ⟨V0⟩⟩
            ·rw [if_neg c33] at H
             have c33b0 : decide ((l0_2.length : Int) ≤ x9_2) = false := decide_eq_false c33
             clear c33
             (first | rw [c33b0] | (simp only [Y4, Y5]; rw [c33b0]) | skip)
             by_cases c35 : x9_2 ≥ (l1_2.length : Int)
             ·rw [if_pos c35] at H
              have c35b0 : decide ((l1_2.length : Int) ≤ x9_2) = true := decide_eq_true c35
              clear c35
              have H' := Z0 H
              clear H
              try go_wp2
              have n0_ := Z0 (Kd.R_drew HO_8.out)
              have n1_ := Z0 (Z8 BK150.out)
              have n2_ := Z0 (Z8 BK151.out)
              have n3_ := Z0 (below_drew1 HB.out)
              clear HO_8
              clear BK150
              clear BK151
              clear HB
              have HO_8 := n0_
              have BK150 := n1_
              have BK151 := n2_
              have HB := n3_
              clear n0_ n1_ n2_ n3_
              refine start_ (n := 26) (S := fun w' => w'.cell? ⟨gb150, 0, none⟩ = some (.int .i64 a0_0) ∧ w'.cell? ⟨gb150, 1, none⟩ = some (.slice A0_1 l0_1.length c0_1) ∧ w'.cell? ⟨gb150, 2, none⟩ = some (.slice A0_2 l0_2.length c0_2) ∧ w'.cell? ⟨gb151, 0, none⟩ = some (.int .i64 a1_0) ∧ w'.cell? ⟨gb151, 1, none⟩ = some (.slice A1_1 l1_1.length c1_1) ∧ w'.cell? ⟨gb151, 2, none⟩ = some (.slice A1_2 l1_2.length c1_2)) (ds := []) (bs 26 0) (by kernel_rfl) rfl rfl ⟨(Y0 BK150.out 0).trans rfl, (Y0 BK150.out 1).trans rfl, (Y0 BK150.out 2).trans rfl, (Y0 BK151.out 0).trans rfl, (Y0 BK151.out 1).trans rfl, (Y0 BK151.out 2).trans rfl⟩ (fun hHeld => ?_); refine with_tabW cabinetryref03_Differ.tab13 cabinetryref03_Differ.bits13 (fun HT_ HW_ => ?_)
              generalize wc.drew = w36 at HO_8 BK150 BK151 HB hHeld ⊢
              refine Y8 (i := 0) (N := some 47) (v := ?_) (a' := ?_) (bs 26 1) rfl rfl (Y3 HT_.out (by kernel_rfl)) (fun _ _ _ h => h) (Or.inl ⟨by rfl, ?_⟩) ?_ ?_
              rotate_left
              ·intro w'
               go_simp
               with_reducible rfl
              rotate_left
              ·simp only [Act.put, Z1, Z2, Z3, Y4, Y5]
               rfl
              refine Y8 (i := 1) (N := some 48) (v := ?_) (a' := ?_) (bs 26 3) rfl rfl (Y3 HT_.out (by kernel_rfl)) (fun _ _ _ h => h) (Or.inl ⟨by rfl, ?_⟩) ?_ ?_
              rotate_left
              ·intro w'
               go_simp
               with_reducible rfl
              rotate_left
              ·simp only [Act.put, Z1, Z2, Z3, Y4, Y5]
               rfl
              refine take_ (i := 2) (N := some 49) (v := ?_) (a' := ?_) (bs 26 7) rfl rfl (take_ofW HT_.out HW_.out (by kernel_rfl)) (fun _ _ _ h => h) (Or.inl ⟨by rfl, ?_⟩) hHeld ?_ ?_
              rotate_left
              ·rintro w' ⟨s0, s1, s2, s3, s4, s5⟩
               go_simp
               with_reducible rfl
              rotate_left
              ·simp only [Act.put, Z1, Z2, Z3, Y4, Y5]
               rfl
              refine Y8 (i := 3) (N := some 50) (v := ?_) (a' := ?_) (bs 26 15) rfl rfl (Y3 HT_.out (by kernel_rfl)) (fun _ _ _ h => h) (Or.inl ⟨by rfl, ?_⟩) ?_ ?_
              rotate_left
              ·intro w'
               go_simp
               with_reducible rfl
              rotate_left
              ·simp only [Act.put, Z1, Z2, Z3, Y4, Y5]
               rfl
              refine Y8 (i := 4) (N := some 51) (v := ?_) (a' := ?_) (bs 26 31) rfl rfl (Y3 HT_.out (by kernel_rfl)) (fun _ _ _ h => h) (Or.inl ⟨by rfl, ?_⟩) ?_ ?_
              rotate_left
              ·intro w'
               go_simp
               with_reducible rfl
              rotate_left
              ·simp only [Act.put, Z1, Z2, Z3, Y4, Y5]
               rfl
              refine Y8 (i := 5) (N := some 52) (v := ?_) (a' := ?_) (bs 26 63) rfl rfl (Y3 HT_.out (by kernel_rfl)) (fun _ _ _ h => h) (Or.inl ⟨by rfl, ?_⟩) ?_ ?_
              rotate_left
              ·intro w'
               go_simp
               with_reducible rfl
              rotate_left
              ·simp only [Act.put, Z1, Z2, Z3, Y4, Y5]
               rfl
              refine Y8 (i := 6) (N := some 53) (v := ?_) (a' := ?_) (bs 26 127) rfl rfl (Y3 HT_.out (by kernel_rfl)) (fun _ _ _ h => h) (Or.inl ⟨by rfl, ?_⟩) ?_ ?_
              rotate_left
              ·intro w'
               go_simp
               with_reducible rfl
              rotate_left
              ·simp only [Act.put, Z1, Z2, Z3, Y4, Y5]
               rfl
              refine Y8 (i := 7) (N := some 54) (v := ?_) (a' := ?_) (bs 26 255) rfl rfl (Y3 HT_.out (by kernel_rfl)) (fun _ _ _ h => h) (Or.inl ⟨by rfl, ?_⟩) ?_ ?_
              rotate_left
              ·intro w'
               go_simp
               with_reducible rfl
              rotate_left
              ·simp only [Act.put, Z1, Z2, Z3, Y4, Y5]
               rfl
              refine take_ (i := 8) (N := some 55) (v := ?_) (a' := ?_) (bs 26 511) rfl rfl (take_ofW HT_.out HW_.out (by kernel_rfl)) (fun _ _ _ h => h) (Or.inl ⟨by rfl, ?_⟩) hHeld ?_ ?_
              rotate_left
              ·rintro w' ⟨s0, s1, s2, s3, s4, s5⟩
               go_simp
               with_reducible rfl
              rotate_left
              ·simp only [Act.put, Z1, Z2, Z3, Y4, Y5]
               rfl
              refine Y8 (i := 9) (N := some 56) (v := ?_) (a' := ?_) (bs 26 1023) rfl rfl (Y3 HT_.out (by kernel_rfl)) (fun _ _ _ h => h) (Or.inl ⟨by rfl, ?_⟩) ?_ ?_
              rotate_left
              ·intro w'
               go_simp
               with_reducible rfl
              rotate_left
              ·simp only [Act.put, Z1, Z2, Z3, Y4, Y5]
               rfl
              refine Y8 (i := 10) (N := some 57) (v := ?_) (a' := ?_) (bs 26 2047) rfl rfl (Y3 HT_.out (by kernel_rfl)) (fun _ _ _ h => h) (Or.inl ⟨by rfl, ?_⟩) ?_ ?_
              rotate_left
              ·intro w'
               go_simp
               with_reducible rfl
              rotate_left
              ·simp only [Act.put, Z1, Z2, Z3, Y4, Y5]
               rfl
              refine Y8 (i := 11) (N := some 58) (v := ?_) (a' := ?_) (bs 26 4095) rfl rfl (Y3 HT_.out (by kernel_rfl)) (fun _ _ _ h => h) (Or.inl ⟨by rfl, ?_⟩) ?_ ?_
              rotate_left
              ·intro w'
               go_simp
               with_reducible rfl
              rotate_left
              ·simp only [Act.put, Z1, Z2, Z3, Y4, Y5]
               rfl
              refine Y8 (i := 12) (N := some 59) (v := ?_) (a' := ?_) (bs 26 8191) rfl rfl (Y3 HT_.out (by kernel_rfl)) (fun _ _ _ h => h) (Or.inl ⟨by rfl, ?_⟩) ?_ ?_
              rotate_left
              ·intro w'
               go_simp
               with_reducible rfl
              rotate_left
              ·simp only [Act.put, Z1, Z2, Z3, Y4, Y5]
               rfl
              refine Y8 (i := 13) (N := some 60) (v := undef) (a' := ?_) (bs 26 16383) rfl rfl (Y3 HT_.out (by kernel_rfl)) (fun _ _ _ h => h) (Or.inr ⟨by rfl, rfl⟩) ?_ ?_
              rotate_left
              ·simp only [Act.put, Z1, Z2, Z3, Y4, Y5]
               rfl
              refine Y8 (i := 14) (N := some 61) (v := undef) (a' := ?_) (bs 26 32767) rfl rfl (Y3 HT_.out (by kernel_rfl)) (fun _ _ _ h => h) (Or.inr ⟨by rfl, rfl⟩) ?_ ?_
              rotate_left
              ·simp only [Act.put, Z1, Z2, Z3, Y4, Y5]
               rfl
              refine Y8 (i := 15) (N := some 62) (v := undef) (a' := ?_) (bs 26 65535) rfl rfl (Y3 HT_.out (by kernel_rfl)) (fun _ _ _ h => h) (Or.inr ⟨by rfl, rfl⟩) ?_ ?_
              rotate_left
              ·simp only [Act.put, Z1, Z2, Z3, Y4, Y5]
               rfl
              refine Y8 (i := 16) (N := some 63) (v := undef) (a' := ?_) (bs 26 131071) rfl rfl (Y3 HT_.out (by kernel_rfl)) (fun _ _ _ h => h) (Or.inr ⟨by rfl, rfl⟩) ?_ ?_
              rotate_left
              ·simp only [Act.put, Z1, Z2, Z3, Y4, Y5]
               rfl
              refine Y8 (i := 17) (N := some 64) (v := undef) (a' := ?_) (bs 26 262143) rfl rfl (Y3 HT_.out (by kernel_rfl)) (fun _ _ _ h => h) (Or.inr ⟨by rfl, rfl⟩) ?_ ?_
              rotate_left
              ·simp only [Act.put, Z1, Z2, Z3, Y4, Y5]
               rfl
              refine Y8 (i := 18) (N := some 65) (v := undef) (a' := ?_) (bs 26 524287) rfl rfl (Y3 HT_.out (by kernel_rfl)) (fun _ _ _ h => h) (Or.inr ⟨by rfl, rfl⟩) ?_ ?_
              rotate_left
              ·simp only [Act.put, Z1, Z2, Z3, Y4, Y5]
               rfl
              refine Y8 (i := 19) (N := some 66) (v := undef) (a' := ?_) (bs 26 1048575) rfl rfl (Y3 HT_.out (by kernel_rfl)) (fun _ _ _ h => h) (Or.inr ⟨by rfl, rfl⟩) ?_ ?_
              rotate_left
              ·simp only [Act.put, Z1, Z2, Z3, Y4, Y5]
               rfl
              refine Y8 (i := 20) (N := some 67) (v := undef) (a' := ?_) (bs 26 2097151) rfl rfl (Y3 HT_.out (by kernel_rfl)) (fun _ _ _ h => h) (Or.inr ⟨by rfl, rfl⟩) ?_ ?_
              rotate_left
              ·simp only [Act.put, Z1, Z2, Z3, Y4, Y5]
               rfl
              refine Y8 (i := 21) (N := some 68) (v := undef) (a' := ?_) (bs 26 4194303) rfl rfl (Y3 HT_.out (by kernel_rfl)) (fun _ _ _ h => h) (Or.inr ⟨by rfl, rfl⟩) ?_ ?_
              rotate_left
              ·simp only [Act.put, Z1, Z2, Z3, Y4, Y5]
               rfl
              refine Y8 (i := 22) (N := some 69) (v := undef) (a' := ?_) (bs 26 8388607) rfl rfl (Y3 HT_.out (by kernel_rfl)) (fun _ _ _ h => h) (Or.inr ⟨by rfl, rfl⟩) ?_ ?_
              rotate_left
              ·simp only [Act.put, Z1, Z2, Z3, Y4, Y5]
               rfl
              refine Y8 (i := 23) (N := some 70) (v := undef) (a' := ?_) (bs 26 16777215) rfl rfl (Y3 HT_.out (by kernel_rfl)) (fun _ _ _ h => h) (Or.inr ⟨by rfl, rfl⟩) ?_ ?_
              rotate_left
              ·simp only [Act.put, Z1, Z2, Z3, Y4, Y5]
               rfl
              refine Y8 (i := 24) (N := some 71) (v := undef) (a' := ?_) (bs 26 33554431) rfl rfl (Y3 HT_.out (by kernel_rfl)) (fun _ _ _ h => h) (Or.inr ⟨by rfl, rfl⟩) ?_ ?_
              rotate_left
              ·simp only [Act.put, Z1, Z2, Z3, Y4, Y5]
               rfl
              refine Y8 (i := 25) (N := some 72) (v := ?_) (a' := ?_) (bs 26 67108863) rfl rfl (Y3 HT_.out (by kernel_rfl)) (fun _ _ _ h => h) (Or.inl ⟨by rfl, ?_⟩) ?_ ?_
              rotate_left
              ·intro w'
               go_simp
               with_reducible rfl
              rotate_left
              ·simp only [Act.put, Z1, Z2, Z3, Y4, Y5]
               rfl
              refine done_ (done_of HT_.out (by kernel_rfl)) ?_
              try go_wp2
              go_meet
              case rel => exact ⟨_, (true), V2, H', ⟨by have := HJ6.out; have := HK2.out; have := HJ23.out; first | omega | exact Nat.le_refl _⟩, ⟨by (with_reducible repeat (first | apply Kd.R_alloc | apply Kd.R_drewN | apply Kd.R_drew)); exact HO_8.out⟩, ⟨by (with_reducible repeat (first | refine Z6 ?_ _ | refine Z8 ?_ | refine Z7 ?_ _)); exact BK150.out⟩, ⟨by (with_reducible repeat (first | refine Z6 ?_ _ | refine Z8 ?_ | refine Z7 ?_ _)); exact BK151.out⟩, ⟨V0⟩⟩
             ·rw [if_neg c35] at H
              have c35b0 : decide ((l1_2.length : Int) ≤ x9_2) = false := decide_eq_false c35
              clear c35
              by_cases c37 : 0 ≤ x9_2
              ·rw [if_pos c37] at H
               have c37b0 : decide (0 ≤ x9_2) = true := decide_eq_true c37
               clear c37
               by_cases c38 : x9_2 < (l0_2.length : Int)
               ·rw [if_pos c38] at H
                have c38b0 : decide (x9_2 < (l0_2.length : Int)) = true := decide_eq_true c38
                clear c38
                by_cases c39 : x9_2 < (l1_2.length : Int)
                ·rw [if_pos c39] at H
                 have c39b0 : decide (x9_2 < (l1_2.length : Int)) = true := decide_eq_true c39
                 clear c39
                 replace H := Option.bind_eq_some_iff.mp H
                 obtain ⟨t157, A400, H⟩ := H
                 replace H : (cabinetryref03_Differ.j3 kj23 x8_2 x9_2 (!t157) a0_0 l0_1 l0_2 a1_0 l1_1 l1_2) = some (r1, r2) := H
                 have A40 := Z0 A400
                 clear A400
                 have H' := Z0 H
                 clear H
                 try go_wp2
                 have n0_ := Z0 (Kd.R_drew HO_8.out)
                 have n1_ := Z0 (Z8 BK150.out)
                 have n2_ := Z0 (Z8 BK151.out)
                 have n3_ := Z0 (below_drew1 HB.out)
                 clear HO_8
                 clear BK150
                 clear BK151
                 clear HB
                 have HO_8 := n0_
                 have BK150 := n1_
                 have BK151 := n2_
                 have HB := n3_
                 clear n0_ n1_ n2_ n3_
                 have p155 : 0 ≤ (x9_2 : Int) := of_decide_eq_true V3
                 have q155 : x9_2 < (l0_2.length : Int) := of_decide_eq_true V3
                 obtain ⟨ad155, A155_1, c155_1, e155, hx155_0, hx155_1, hl155_1, hi155_1⟩ := at_T46 HR0_2.out x9_2 p155 q155
                 have hw155_1 := hx155_1
                 have hw155_0 := hx155_0
                 cases e155
                 replace hx155_0 := (HB.out.cell (World.block_lt_of_cell? w _ hx155_0)).trans hx155_0
                 replace hx155_1 := (HB.out.cell (World.block_lt_of_cell? w _ hx155_1)).trans hx155_1
                 have HR155_1 := Z0 hi155_1
                 have HC155_1 := Z0 hl155_1
                 clear hi155_1 hl155_1
                 replace p155 := eq_true p155
                 replace q155 := eq_true q155
                 have p156 : 0 ≤ (x9_2 : Int) := of_decide_eq_true V3
                 have q156 : x9_2 < (l1_2.length : Int) := of_decide_eq_true V3
                 obtain ⟨ad156, A156_1, c156_1, e156, hx156_0, hx156_1, hl156_1, hi156_1⟩ := at_T46 HR1_2.out x9_2 p156 q156
                 have hw156_1 := hx156_1
                 have hw156_0 := hx156_0
                 cases e156
                 replace hx156_0 := (HB.out.cell (World.block_lt_of_cell? w _ hx156_0)).trans hx156_0
                 replace hx156_1 := (HB.out.cell (World.block_lt_of_cell? w _ hx156_1)).trans hx156_1
                 have HR156_1 := Z0 hi156_1
                 have HC156_1 := Z0 hl156_1
                 clear hi156_1 hl156_1
                 replace p156 := eq_true p156
                 replace q156 := eq_true q156
                 refine start_ (n := 26) (S := fun w' => w'.cell? ⟨gb150, 0, none⟩ = some (.int .i64 a0_0) ∧ w'.cell? ⟨gb150, 1, none⟩ = some (.slice A0_1 l0_1.length c0_1) ∧ w'.cell? ⟨gb150, 2, none⟩ = some (.slice (some ad155) l0_2.length c0_2) ∧ w'.cell? ⟨gb151, 0, none⟩ = some (.int .i64 a1_0) ∧ w'.cell? ⟨gb151, 1, none⟩ = some (.slice A1_1 l1_1.length c1_1) ∧ w'.cell? ⟨gb151, 2, none⟩ = some (.slice (some ad156) l1_2.length c1_2) ∧ w'.cell? (ad155.add ((x9_2).toNat * 2)) = some (.bool ((rd_T46 l0_2 x9_2).f0)) ∧ w'.cell? ⟨(ad155.add ((x9_2).toNat * 2)).block, (ad155.add ((x9_2).toNat * 2)).off + 1, none⟩ = some (.slice A155_1 ((rd_T46 l0_2 x9_2).f1).length c155_1) ∧ w'.cell? (ad156.add ((x9_2).toNat * 2)) = some (.bool ((rd_T46 l1_2 x9_2).f0)) ∧ w'.cell? ⟨(ad156.add ((x9_2).toNat * 2)).block, (ad156.add ((x9_2).toNat * 2)).off + 1, none⟩ = some (.slice A156_1 ((rd_T46 l1_2 x9_2).f1).length c156_1)) (ds := []) (bs 26 0) (by kernel_rfl) rfl rfl ⟨(Y0 BK150.out 0).trans rfl, (Y0 BK150.out 1).trans rfl, (Y0 BK150.out 2).trans rfl, (Y0 BK151.out 0).trans rfl, (Y0 BK151.out 1).trans rfl, (Y0 BK151.out 2).trans rfl, ((HB.out.cell (World.block_lt_of_cell? w _ hw155_0)).trans hw155_0), ((HB.out.cell (World.block_lt_of_cell? w _ hw155_1)).trans hw155_1), ((HB.out.cell (World.block_lt_of_cell? w _ hw156_0)).trans hw156_0), ((HB.out.cell (World.block_lt_of_cell? w _ hw156_1)).trans hw156_1)⟩ (fun hHeld => ?_); refine with_tabW cabinetryref03_Differ.tab13 cabinetryref03_Differ.bits13 (fun HT_ HW_ => ?_)
                 generalize wc.drew = w41 at HO_8 BK150 BK151 HB HR155_1 HR156_1 hx155_0 hx155_1 hx156_0 hx156_1 hHeld ⊢
                 refine Y8 (i := 0) (N := some 47) (v := ?_) (a' := ?_) (bs 26 1) rfl rfl (Y3 HT_.out (by kernel_rfl)) (fun _ _ _ h => h) (Or.inl ⟨by rfl, ?_⟩) ?_ ?_
                 rotate_left
                 ·intro w'
                  go_simp
                  with_reducible rfl
                 rotate_left
                 ·simp only [Act.put, Z1, Z2, Z3, Y4, Y5]
                  rfl
                 refine Y8 (i := 1) (N := some 48) (v := ?_) (a' := ?_) (bs 26 3) rfl rfl (Y3 HT_.out (by kernel_rfl)) (fun _ _ _ h => h) (Or.inl ⟨by rfl, ?_⟩) ?_ ?_
                 rotate_left
                 ·intro w'
                  go_simp
                  with_reducible rfl
                 rotate_left
                 ·simp only [Act.put, Z1, Z2, Z3, Y4, Y5]
                  rfl
                 refine take_ (i := 2) (N := some 49) (v := ?_) (a' := ?_) (bs 26 7) rfl rfl (take_ofW HT_.out HW_.out (by kernel_rfl)) (fun _ _ _ h => h) (Or.inl ⟨by rfl, ?_⟩) hHeld ?_ ?_
                 rotate_left
                 ·rintro w' ⟨s0, s1, s2, s3, s4, s5, s6, s7, s8, s9⟩
                  go_simp
                  with_reducible rfl
                 rotate_left
                 ·simp only [Act.put, Z1, Z2, Z3, Y4, Y5]
                  rfl
                 refine Y8 (i := 3) (N := some 50) (v := ?_) (a' := ?_) (bs 26 15) rfl rfl (Y3 HT_.out (by kernel_rfl)) (fun _ _ _ h => h) (Or.inl ⟨by rfl, ?_⟩) ?_ ?_
                 rotate_left
                 ·intro w'
                  go_simp
                  with_reducible rfl
                 rotate_left
                 ·simp only [Act.put, Z1, Z2, Z3, Y4, Y5]
                  rfl
                 refine Y8 (i := 4) (N := some 51) (v := ?_) (a' := ?_) (bs 26 31) rfl rfl (Y3 HT_.out (by kernel_rfl)) (fun _ _ _ h => h) (Or.inl ⟨by rfl, ?_⟩) ?_ ?_
                 rotate_left
                 ·intro w'
                  go_simp
                  with_reducible rfl
                 rotate_left
                 ·simp only [Act.put, Z1, Z2, Z3, Y4, Y5]
                  rfl
                 refine Y8 (i := 5) (N := some 52) (v := ?_) (a' := ?_) (bs 26 63) rfl rfl (Y3 HT_.out (by kernel_rfl)) (fun _ _ _ h => h) (Or.inl ⟨by rfl, ?_⟩) ?_ ?_
                 rotate_left
                 ·intro w'
                  go_simp
                  with_reducible rfl
                 rotate_left
                 ·simp only [Act.put, Z1, Z2, Z3, Y4, Y5]
                  rfl
                 refine Y8 (i := 6) (N := some 53) (v := ?_) (a' := ?_) (bs 26 127) rfl rfl (Y3 HT_.out (by kernel_rfl)) (fun _ _ _ h => h) (Or.inl ⟨by rfl, ?_⟩) ?_ ?_
                 rotate_left
                 ·intro w'
                  go_simp
                  with_reducible rfl
                 rotate_left
                 ·simp only [Act.put, Z1, Z2, Z3, Y4, Y5]
                  rfl
                 refine Y8 (i := 7) (N := some 54) (v := ?_) (a' := ?_) (bs 26 255) rfl rfl (Y3 HT_.out (by kernel_rfl)) (fun _ _ _ h => h) (Or.inl ⟨by rfl, ?_⟩) ?_ ?_
                 rotate_left
                 ·intro w'
                  go_simp
                  with_reducible rfl
                 rotate_left
                 ·simp only [Act.put, Z1, Z2, Z3, Y4, Y5]
                  rfl
                 refine take_ (i := 8) (N := some 55) (v := ?_) (a' := ?_) (bs 26 511) rfl rfl (take_ofW HT_.out HW_.out (by kernel_rfl)) (fun _ _ _ h => h) (Or.inl ⟨by rfl, ?_⟩) hHeld ?_ ?_
                 rotate_left
                 ·rintro w' ⟨s0, s1, s2, s3, s4, s5, s6, s7, s8, s9⟩
                  go_simp
                  with_reducible rfl
                 rotate_left
                 ·simp only [Act.put, Z1, Z2, Z3, Y4, Y5]
                  rfl
                 refine Y8 (i := 9) (N := some 56) (v := ?_) (a' := ?_) (bs 26 1023) rfl rfl (Y3 HT_.out (by kernel_rfl)) (fun _ _ _ h => h) (Or.inl ⟨by rfl, ?_⟩) ?_ ?_
                 rotate_left
                 ·intro w'
                  go_simp
                  with_reducible rfl
                 rotate_left
                 ·simp only [Act.put, Z1, Z2, Z3, Y4, Y5]
                  rfl
                 refine Y8 (i := 10) (N := some 57) (v := ?_) (a' := ?_) (bs 26 2047) rfl rfl (Y3 HT_.out (by kernel_rfl)) (fun _ _ _ h => h) (Or.inl ⟨by rfl, ?_⟩) ?_ ?_
                 rotate_left
                 ·intro w'
                  go_simp
                  with_reducible rfl
                 rotate_left
                 ·simp only [Act.put, Z1, Z2, Z3, Y4, Y5]
                  rfl
                 refine Y8 (i := 11) (N := some 58) (v := ?_) (a' := ?_) (bs 26 4095) rfl rfl (Y3 HT_.out (by kernel_rfl)) (fun _ _ _ h => h) (Or.inl ⟨by rfl, ?_⟩) ?_ ?_
                 rotate_left
                 ·intro w'
                  go_simp
                  with_reducible rfl
                 rotate_left
                 ·simp only [Act.put, Z1, Z2, Z3, Y4, Y5]
                  rfl
                 refine Y8 (i := 12) (N := some 59) (v := ?_) (a' := ?_) (bs 26 8191) rfl rfl (Y3 HT_.out (by kernel_rfl)) (fun _ _ _ h => h) (Or.inl ⟨by rfl, ?_⟩) ?_ ?_
                 rotate_left
                 ·intro w'
                  go_simp
                  with_reducible rfl
                 rotate_left
                 ·simp only [Act.put, Z1, Z2, Z3, Y4, Y5]
                  rfl
                 refine Y8 (i := 13) (N := some 60) (v := ?_) (a' := ?_) (bs 26 16383) rfl rfl (Y3 HT_.out (by kernel_rfl)) (fun _ _ _ h => h) (Or.inl ⟨by rfl, ?_⟩) ?_ ?_
                 rotate_left
                 ·intro w'
                  go_simp
                  with_reducible rfl
                 rotate_left
                 ·simp only [Act.put, Z1, Z2, Z3, Y4, Y5]
                  rfl
                 refine Y8 (i := 15) (N := some 62) (v := ?_) (a' := ?_) (bs 26 49151) rfl rfl (Y3 HT_.out (by kernel_rfl)) (fun _ _ _ h => h) (Or.inl ⟨by rfl, ?_⟩) ?_ ?_
                 rotate_left
                 ·intro w'
                  go_simp
                  with_reducible rfl
                 rotate_left
                 ·simp only [Act.put, Z1, Z2, Z3, Y4, Y5]
                  rfl
                 refine Y8 (i := 18) (N := some 65) (v := ?_) (a' := ?_) (bs 26 311295) rfl rfl (Y3 HT_.out (by kernel_rfl)) (fun _ _ _ h => h) (Or.inl ⟨by rfl, ?_⟩) ?_ ?_
                 rotate_left
                 ·intro w'
                  go_simp
                  with_reducible rfl
                 rotate_left
                 ·simp only [Act.put, Z1, Z2, Z3, Y4, Y5]
                  rfl
                 refine Y8 (i := 20) (N := some 67) (v := ?_) (a' := ?_) (bs 26 1359871) rfl rfl (Y3 HT_.out (by kernel_rfl)) (fun _ _ _ h => h) (Or.inl ⟨by rfl, ?_⟩) ?_ ?_
                 rotate_left
                 ·intro w'
                  go_simp
                  with_reducible rfl
                 rotate_left
                 ·simp only [Act.put, Z1, Z2, Z3, Y4, Y5]
                  rfl
                 refine take_ (i := 14) (N := some 61) (v := ?_) (a' := ?_) (bs 26 1376255) rfl rfl (take_ofW HT_.out HW_.out (by kernel_rfl)) (fun _ _ _ h => h) (Or.inl ⟨by rfl, ?_⟩) hHeld ?_ ?_
                 rotate_left
                 ·rintro w' ⟨s0, s1, s2, s3, s4, s5, s6, s7, s8, s9⟩
                  go_simp
                  with_reducible rfl
                 rotate_left
                 ·simp only [Act.put, Z1, Z2, Z3, Y4, Y5]
                  rfl
                 refine Y8 (i := 16) (N := some 63) (v := ?_) (a' := ?_) (bs 26 1441791) rfl rfl (Y3 HT_.out (by kernel_rfl)) (fun _ _ _ h => h) (Or.inl ⟨by rfl, ?_⟩) ?_ ?_
                 rotate_left
                 ·intro w'
                  go_simp
                  with_reducible rfl
                 rotate_left
                 ·simp only [Act.put, Z1, Z2, Z3, Y4, Y5]
                  rfl
                 refine take_ (i := 17) (N := some 64) (v := ?_) (a' := ?_) (bs 26 1572863) rfl rfl (take_ofW HT_.out HW_.out (by kernel_rfl)) (fun _ _ _ h => h) (Or.inl ⟨by rfl, ?_⟩) hHeld ?_ ?_
                 rotate_left
                 ·rintro w' ⟨s0, s1, s2, s3, s4, s5, s6, s7, s8, s9⟩
                  go_simp
                  with_reducible rfl
                 rotate_left
                 ·simp only [Act.put, Z1, Z2, Z3, Y4, Y5]
                  rfl
                 refine take_ (i := 19) (N := some 66) (v := ?_) (a' := ?_) (bs 26 2097151) rfl rfl (take_ofW HT_.out HW_.out (by kernel_rfl)) (fun _ _ _ h => h) (Or.inl ⟨by rfl, ?_⟩) hHeld ?_ ?_
                 rotate_left
                 ·rintro w' ⟨s0, s1, s2, s3, s4, s5, s6, s7, s8, s9⟩
                  go_simp
                  with_reducible rfl
                 rotate_left
                 ·simp only [Act.put, Z1, Z2, Z3, Y4, Y5]
                  rfl
                 refine Y8 (i := 21) (N := some 68) (v := ?_) (a' := ?_) (bs 26 4194303) rfl rfl (Y3 HT_.out (by kernel_rfl)) (fun _ _ _ h => h) (Or.inl ⟨by rfl, ?_⟩) ?_ ?_
                 rotate_left
                 ·intro w'
                  go_simp
                  with_reducible rfl
                 rotate_left
                 ·simp only [Act.put, Z1, Z2, Z3, Y4, Y5]
                  rfl
                 refine take_ (i := 22) (N := some 69) (v := ?_) (a' := ?_) (bs 26 8388607) rfl rfl (take_ofW HT_.out HW_.out (by kernel_rfl)) (fun _ _ _ h => h) (Or.inl ⟨by rfl, ?_⟩) hHeld ?_ ?_
                 rotate_left
                 ·rintro w' ⟨s0, s1, s2, s3, s4, s5, s6, s7, s8, s9⟩
                  go_simp
                  with_reducible rfl
                 rotate_left
                 ·simp only [Act.put, Z1, Z2, Z3, Y4, Y5]
                  rfl
                 refine one_ (i := 23) (N := some 70) (bs 26 16777215) rfl rfl (one_of HT_.out (by kernel_rfl)) (by decide) (fun K hK => ?_)
                 refine goes_ Tryz.func29 (by kernel_rfl) rfl #[.agg #[.bool ((rd_T46 l0_2 x9_2).f0), .slice A155_1 ((rd_T46 l0_2 x9_2).f1).length c155_1], .agg #[.bool ((rd_T46 l1_2 x9_2).f0), .slice A156_1 ((rd_T46 l1_2 x9_2).f1).length c156_1]] (by rfl) rfl rfl V1 ?_
                 with_reducible refine (cabinetryref03_SameRecord.calls kj23 ((rd_T46 l0_2 x9_2).f0) _ _ ((rd_T46 l0_2 x9_2).f1) ((rd_T46 l1_2 x9_2).f0) _ _ ((rd_T46 l1_2 x9_2).f1) t157 _ ?side1 ?side2 ?side3 ?side4 A40.out).mono ?_
                 (case side1 => repeat (first | exact (Kd.C_below HR155_1.out HB.out) | (with_reducible refine Kd.C_alloc ?_ _) | (with_reducible refine Kd.C_drewN ?_ _) | (with_reducible refine Kd.C_drew ?_)))
                 (case side2 => exact HC155_1.out)
                 (case side3 => repeat (first | exact (Kd.C_below HR156_1.out HB.out) | (with_reducible refine Kd.C_alloc ?_ _) | (with_reducible refine Kd.C_drewN ?_ _) | (with_reducible refine Kd.C_drew ?_)))
                 (case side4 => exact HC156_1.out)
                 rintro e w42 ⟨rfl, hb⟩
                 refine ⟨_, rfl, ?_⟩
                 have n0_ := Z0 (Kd.R_below HO_8.out hb)
                 have n1_ := Z0 (Z5 BK150.out hb)
                 have n2_ := Z0 (Z5 BK151.out hb)
                 have n3_ := Z0 (Z4 HB.out hb)
                 clear HO_8
                 clear BK150
                 clear BK151
                 clear HB
                 have HO_8 := n0_
                 have BK150 := n1_
                 have BK151 := n2_
                 have HB := n3_
                 clear n0_ n1_ n2_ n3_
                 (try clear hb)
                 (try clear hb2)
                 (try clear hk)
                 (try clear hi)
                 refine hK.out _ _ ⟨(Y0 BK150.out 0).trans rfl, (Y0 BK150.out 1).trans rfl, (Y0 BK150.out 2).trans rfl, (Y0 BK151.out 0).trans rfl, (Y0 BK151.out 1).trans rfl, (Y0 BK151.out 2).trans rfl, ((HB.out.cell (World.block_lt_of_cell? w _ hw155_0)).trans hw155_0), ((HB.out.cell (World.block_lt_of_cell? w _ hw155_1)).trans hw155_1), ((HB.out.cell (World.block_lt_of_cell? w _ hw156_0)).trans hw156_0), ((HB.out.cell (World.block_lt_of_cell? w _ hw156_1)).trans hw156_1)⟩ (fun hHeld => ?_)
                 clear hK K
                 refine norm_ (a' := ?_) ?_ ?_
                 rotate_left
                 ·show Act.put _ (some 70) _ = _
                  simp only [Act.put, Z1, Z2, Z3, Y4, Y5]
                  rfl
                 refine Y8 (i := 24) (N := some 71) (v := ?_) (a' := ?_) (bs 26 33554431) rfl rfl (Y3 HT_.out (by kernel_rfl)) (fun _ _ _ h => h) (Or.inl ⟨by rfl, ?_⟩) ?_ ?_
                 rotate_left
                 ·intro w'
                  go_simp
                  with_reducible rfl
                 rotate_left
                 ·simp only [Act.put, Z1, Z2, Z3, Y4, Y5]
                  rfl
                 refine Y8 (i := 25) (N := some 72) (v := ?_) (a' := ?_) (bs 26 67108863) rfl rfl (Y3 HT_.out (by kernel_rfl)) (fun _ _ _ h => h) (Or.inl ⟨by rfl, ?_⟩) ?_ ?_
                 rotate_left
                 ·intro w'
                  go_simp
                  with_reducible rfl
                 rotate_left
                 ·simp only [Act.put, Z1, Z2, Z3, Y4, Y5]
                  rfl
                 refine done_ (done_of HT_.out (by kernel_rfl)) ?_
                 try go_wp2
                 go_meet
                 case rel => exact ⟨_, (!t157), V2, H', ⟨by have := HJ6.out; have := HK2.out; have := HJ23.out; first | omega | exact Nat.le_refl _⟩, ⟨by (with_reducible repeat (first | apply Kd.R_alloc | apply Kd.R_drewN | apply Kd.R_drew)); exact HO_8.out⟩, ⟨by (with_reducible repeat (first | refine Z6 ?_ _ | refine Z8 ?_ | refine Z7 ?_ _)); exact BK150.out⟩, ⟨by (with_reducible repeat (first | refine Z6 ?_ _ | refine Z8 ?_ | refine Z7 ?_ _)); exact BK151.out⟩, ⟨V0⟩⟩
                ·rw [if_neg c39] at H
                 exact absurd H (by simp)
               ·rw [if_neg c38] at H
                exact absurd H (by simp)
              ·rw [if_neg c37] at H
               exact absurd H (by simp)
           case rest =>
            clear HC32
            (try clear c1);(try clear p1);(try clear q1);(try clear hx1);(try clear c2);(try clear p2);(try clear c3);(try clear c15);(try clear p15);(try clear q15);(try clear hx15);(try clear c29);(try clear c33);(try clear c33b0);(try clear c35);(try clear c35b0);(try clear c37);(try clear c37b0);(try clear c38);(try clear c38b0);(try clear c39);(try clear c39b0);(try clear hx155_0);(try clear hx155_1);(try clear hx156_0);(try clear hx156_1);(try clear p155);(try clear p156);(try clear q155);(try clear q156)
            obtain ⟨kq, x72_31, rfl, HA, HJ31, HO_8, BK150, BK151, HB⟩ := hcut
            cases kq with
            | zero => exact absurd HA.out (by simp [cabinetryref03_Differ.j3])
            | succ kj31 =>
             have H := HA.out
             clear HA
             simp only [cabinetryref03_Differ.j3] at H
             by_cases c43 : x72_31 = true
             ·subst c43
              have H1 : (if x8_2.length < 17592186044416 then (cabinetryref03_Differ.l0 kj31 (x8_2 ++ [wrap64 (x9_2 + 1)]) (wrap64 (x9_2 + 1)) a0_0 l0_1 l0_2 a1_0 l1_1 l1_2) else (none)) = some (r1, r2) := by rw [if_pos rfl] at H; exact H
              clear H
              have H := H1
              clear H1
              by_cases c44 : x8_2.length < 17592186044416
              ·rw [if_pos c44] at H
               have LMc44 := Z0 c44
               clear c44
               obtain ⟨y158, hy158⟩ : ∃ y_ : List Int, y_ = (x8_2 ++ [wrap64 (x9_2 + 1)]) := ⟨_, rfl⟩
               replace H : (cabinetryref03_Differ.l0 kj31 y158 (wrap64 (x9_2 + 1)) a0_0 l0_1 l0_2 a1_0 l1_1 l1_2) = some (r1, r2) := by rw [hy158]; exact H
               have Ny158 := Z0 hy158
               clear hy158
               have H' := Z0 H
               clear H
               go_wp2_with (first | ((with_reducible refine gate_builtin (b := .append) (xs := #[.tmp 73, .tmp 76]) rfl ?_); (try (refine gate_guard (by rfl) ?_; dsimp only)); at_builtin; refine Kd.R_append (Kd.int .i64) (w0 := w) w.heap.size rfl (.tmp 73) (.tmp 76) 55 3 (.int .i64 0) 8 rfl Tryz.underlying55 info3 rfl (by decide) (by omega) u8 x8_2 (wrap64 (x9_2 + 1)) [.int .i64 (wrap64 (x9_2 + 1))] (fun _ => True) (fun _ => False) rfl rfl ?aP (fun _ hk => hk.elim) ?aF ?aO ?aB ?aS ?aL ?_; (case aP => exact rfl); (case aB => exact HB.out); (case aF => exact (fun _ _ => trivial)); (case aO => exact HO_8.out); (case aS => exact (Z9 HB.out)); (case aL => have := LMc44.out; omega); intro v159 w45 ho hb hg hat; rw [← Ny158.out] at ho; replace BK150 := Z0 (blk_grown (g := gb150) (o := .cells #[.int .i64 a0_0, .slice A0_1 l0_1.length c0_1, .slice A0_2 l0_2.length c0_2] 35 (0, 0)) BK150.out hg (Kd.R_ne HO_8.out BK150.out (by decide))); replace BK151 := Z0 (blk_grown (g := gb151) (o := .cells #[.int .i64 a1_0, .slice A1_1 l1_1.length c1_1, .slice A1_2 l1_2.length c1_2] 35 (0, 0)) BK151.out hg (Kd.R_ne HO_8.out BK151.out (by decide))); replace HB := Z0 (hb); have HO160 := Z0 (ho); clear HO_8; clear ho hb hg hat))
               go_roundg kj31
               case measure => have := HJ6.out; have := HK2.out; have := HJ23.out; have := HJ31.out; omega
               case rel => exact ⟨(y158), (wrap64 (x9_2 + 1)), V2, H', ⟨by have := HJ6.out; have := HK2.out; have := HJ23.out; have := HJ31.out; omega⟩, ⟨by (with_reducible repeat (first | apply Kd.R_alloc | apply Kd.R_drewN | apply Kd.R_drew)); exact HO160.out⟩, ⟨by (with_reducible repeat (first | refine Z6 ?_ _ | refine Z8 ?_ | refine Z7 ?_ _)); exact BK150.out⟩, ⟨by (with_reducible repeat (first | refine Z6 ?_ _ | refine Z8 ?_ | refine Z7 ?_ _)); exact BK151.out⟩, ⟨V0⟩⟩
              ·rw [if_neg c44] at H
               exact absurd H (by simp)
             ·replace c43 := Bool.eq_false_iff.mpr c43
              subst c43
              have H1 : (cabinetryref03_Differ.l0 kj31 x8_2 (wrap64 (x9_2 + 1)) a0_0 l0_1 l0_2 a1_0 l1_1 l1_2) = some (r1, r2) := by rw [if_neg (show ¬ (false = true) by decide)] at H; exact H
              clear H
              have H := H1
              clear H1
              have H' := Z0 H
              clear H
              go_wp2
              go_roundg kj31
              case measure => have := HJ6.out; have := HK2.out; have := HJ23.out; have := HJ31.out; omega
              case rel => exact ⟨(x8_2), (wrap64 (x9_2 + 1)), V2, H', ⟨by have := HJ6.out; have := HK2.out; have := HJ23.out; have := HJ31.out; omega⟩, ⟨by (with_reducible repeat (first | apply Kd.R_alloc | apply Kd.R_drewN | apply Kd.R_drew)); exact HO_8.out⟩, ⟨by (with_reducible repeat (first | refine Z6 ?_ _ | refine Z8 ?_ | refine Z7 ?_ _)); exact BK150.out⟩, ⟨by (with_reducible repeat (first | refine Z6 ?_ _ | refine Z8 ?_ | refine Z7 ?_ _)); exact BK151.out⟩, ⟨V0⟩⟩
          ·replace c31 := Bool.eq_false_iff.mpr c31
           subst c31
           have H1 : (some (x8_2, 0)) = some (r1, r2) := by rw [if_neg (show ¬ (false = true) by decide)] at H; exact H
           clear H
           have H := H1
           clear H1
           simp only [Option.some.injEq, Prod.mk.injEq] at H
           obtain ⟨rfl, rfl⟩ := H
           go_wp2
           go_ret2
           exact ⟨_, rfl, by (with_reducible repeat (first | apply Kd.R_alloc | apply Kd.R_drewN | apply Kd.R_drew)); exact HO_8.out, V0⟩
  ·rw [if_neg c6] at H
   have c6b0 : (t153 == 0) = false := beq_eq_false_iff_ne.mpr c6
   have c6b1 : (t153 != 0) = true := bne_iff_ne.mpr c6
   simp only [Option.some.injEq, Prod.mk.injEq] at H
   obtain ⟨rfl, rfl⟩ := H
   go_enter Tryz.func40, Tryz.ntmps40
   go_wp2_with (first | ((with_reducible refine Y1 (N := 2) rfl ?_); (try (refine gate_guard (by rfl) ?_; dsimp only)); refine bx (N := 2) (cs := #[.int .i64 a0_0, .slice A0_1 l0_1.length c0_1, .slice A0_2 l0_2.length c0_2]) (t := 35) ?_; intro gb150 hg w46 hbox hb; have BK150 := Z0 (hbox); have GE150 := Z0 ((by rw [hg]; exact (Z9 HB.out) : w.heap.size ≤ gb150)); replace HB := Z0 (Z4 HB.out hb); clear hb hbox hg) | ((with_reducible refine Y1 (N := 3) rfl ?_); (try (refine gate_guard (by rfl) ?_; dsimp only)); refine bx (N := 3) (cs := #[.int .i64 a1_0, .slice A1_1 l1_1.length c1_1, .slice A1_2 l1_2.length c1_2]) (t := 35) ?_; intro gb151 hg w47 hbox hb; have BK151 := Z0 (hbox); have GE151 := Z0 ((by rw [hg]; exact (Z9 HB.out) : w.heap.size ≤ gb151)); replace HB := Z0 (Z4 HB.out hb); have NB150_151 := Z0 ((by rw [hg]; exact Nat.ne_of_lt (blk_lt BK150.out) : gb150 ≠ gb151)); have NB151_150 := Z0 ((by rw [hg]; exact Nat.ne_of_gt (blk_lt BK150.out) : gb151 ≠ gb150)); replace BK150 := Z0 (Z5 BK150.out hb); clear hb hbox hg; have hnb48 := NB150_151.out; have hnc48 := NB151_150.out; obtain ⟨hcz49_0, hcz49_1, hcz49_2⟩ := bc3 BK150.out; obtain ⟨hfz49_0, hfz49_1, hfz49_2⟩ := bf3 BK150.out) | ((with_reducible refine Y2 (f := 35) rfl ?_); refine goesL_ (some 11) rfl rfl Tryz.func35 (by kernel_rfl) rfl #[.agg #[.int .i64 a0_0, .slice A0_1 l0_1.length c0_1, .slice A0_2 l0_2.length c0_2]] rfl V1 ?_; (with_reducible refine (cabinetryref03_Validate.calls k a0_0 _ _ l0_1 _ _ l0_2 t152 _ ?side1 ?side2 ?side3 ?side4 A3.out).mono ?_); (case side1 => repeat (first | exact (Kd.C_below HR0_1.out HB.out) | (with_reducible refine Kd.C_alloc ?_ _) | (with_reducible refine Kd.C_drewN ?_ _) | (with_reducible refine Kd.C_drew ?_))); (case side2 => exact HC0_1.out); (case side3 => repeat (first | exact (Kd.C_below HR0_2.out HB.out) | (with_reducible refine Kd.C_alloc ?_ _) | (with_reducible refine Kd.C_drewN ?_ _) | (with_reducible refine Kd.C_drew ?_))); (case side4 => exact HC0_2.out); rintro e w50 ⟨rfl, hb⟩; refine ⟨_, rfl, ?_⟩; replace BK150 := Z0 (Z5 BK150.out hb); replace BK151 := Z0 (Z5 BK151.out hb); replace HB := Z0 (Z4 HB.out hb); (try clear hb); (try clear hb2); (try clear hk); (try clear hi); obtain ⟨hcz51_0, hcz51_1, hcz51_2⟩ := bc3 BK151.out; obtain ⟨hfz51_0, hfz51_1, hfz51_2⟩ := bf3 BK151.out) | ((with_reducible refine Y2 (f := 35) rfl ?_); refine goesL_ (some 16) rfl rfl Tryz.func35 (by kernel_rfl) rfl #[.agg #[.int .i64 a1_0, .slice A1_1 l1_1.length c1_1, .slice A1_2 l1_2.length c1_2]] rfl V1 ?_; (with_reducible refine (cabinetryref03_Validate.calls k a1_0 _ _ l1_1 _ _ l1_2 t153 _ ?side1 ?side2 ?side3 ?side4 A5.out).mono ?_); (case side1 => repeat (first | exact (Kd.C_below HR1_1.out HB.out) | (with_reducible refine Kd.C_alloc ?_ _) | (with_reducible refine Kd.C_drewN ?_ _) | (with_reducible refine Kd.C_drew ?_))); (case side2 => exact HC1_1.out); (case side3 => repeat (first | exact (Kd.C_below HR1_2.out HB.out) | (with_reducible refine Kd.C_alloc ?_ _) | (with_reducible refine Kd.C_drewN ?_ _) | (with_reducible refine Kd.C_drew ?_))); (case side4 => exact HC1_2.out); rintro e w52 ⟨rfl, hb⟩; refine ⟨_, rfl, ?_⟩; replace BK150 := Z0 (Z5 BK150.out hb); replace BK151 := Z0 (Z5 BK151.out hb); replace HB := Z0 (Z4 HB.out hb); (try clear hb); (try clear hb2); (try clear hk); (try clear hi)))
   go_ret2
   exact ⟨_, rfl, by first | exact Kd.R_nil _ _ _ _ _ | exact Kd.N_nil _ _ _ _ _ | exact Kd.V_nil _ _ _ _ _ | exact Kd.Q_nil _ _ _ _ _ | exact Kd.S_nil _ _ _ _ _, V0⟩
 ·rw [if_neg c4] at H
  have c4b0 : (t152 == 0) = false := beq_eq_false_iff_ne.mpr c4
  have c4b1 : (t152 != 0) = true := bne_iff_ne.mpr c4
  simp only [Option.some.injEq, Prod.mk.injEq] at H
  obtain ⟨rfl, rfl⟩ := H
  go_enter Tryz.func40, Tryz.ntmps40
  go_wp2_with (first | ((with_reducible refine Y1 (N := 2) rfl ?_); (try (refine gate_guard (by rfl) ?_; dsimp only)); refine bx (N := 2) (cs := #[.int .i64 a0_0, .slice A0_1 l0_1.length c0_1, .slice A0_2 l0_2.length c0_2]) (t := 35) ?_; intro gb150 hg w53 hbox hb; have BK150 := Z0 (hbox); have GE150 := Z0 ((by rw [hg]; exact (Z9 HB.out) : w.heap.size ≤ gb150)); replace HB := Z0 (Z4 HB.out hb); clear hb hbox hg) | ((with_reducible refine Y1 (N := 3) rfl ?_); (try (refine gate_guard (by rfl) ?_; dsimp only)); refine bx (N := 3) (cs := #[.int .i64 a1_0, .slice A1_1 l1_1.length c1_1, .slice A1_2 l1_2.length c1_2]) (t := 35) ?_; intro gb151 hg w54 hbox hb; have BK151 := Z0 (hbox); have GE151 := Z0 ((by rw [hg]; exact (Z9 HB.out) : w.heap.size ≤ gb151)); replace HB := Z0 (Z4 HB.out hb); have NB150_151 := Z0 ((by rw [hg]; exact Nat.ne_of_lt (blk_lt BK150.out) : gb150 ≠ gb151)); have NB151_150 := Z0 ((by rw [hg]; exact Nat.ne_of_gt (blk_lt BK150.out) : gb151 ≠ gb150)); replace BK150 := Z0 (Z5 BK150.out hb); clear hb hbox hg; have hnb55 := NB150_151.out; have hnc55 := NB151_150.out; obtain ⟨hcz56_0, hcz56_1, hcz56_2⟩ := bc3 BK150.out; obtain ⟨hfz56_0, hfz56_1, hfz56_2⟩ := bf3 BK150.out) | ((with_reducible refine Y2 (f := 35) rfl ?_); refine goesL_ (some 11) rfl rfl Tryz.func35 (by kernel_rfl) rfl #[.agg #[.int .i64 a0_0, .slice A0_1 l0_1.length c0_1, .slice A0_2 l0_2.length c0_2]] rfl V1 ?_; (with_reducible refine (cabinetryref03_Validate.calls k a0_0 _ _ l0_1 _ _ l0_2 t152 _ ?side1 ?side2 ?side3 ?side4 A3.out).mono ?_); (case side1 => repeat (first | exact (Kd.C_below HR0_1.out HB.out) | (with_reducible refine Kd.C_alloc ?_ _) | (with_reducible refine Kd.C_drewN ?_ _) | (with_reducible refine Kd.C_drew ?_))); (case side2 => exact HC0_1.out); (case side3 => repeat (first | exact (Kd.C_below HR0_2.out HB.out) | (with_reducible refine Kd.C_alloc ?_ _) | (with_reducible refine Kd.C_drewN ?_ _) | (with_reducible refine Kd.C_drew ?_))); (case side4 => exact HC0_2.out); rintro e w57 ⟨rfl, hb⟩; refine ⟨_, rfl, ?_⟩; replace BK150 := Z0 (Z5 BK150.out hb); replace BK151 := Z0 (Z5 BK151.out hb); replace HB := Z0 (Z4 HB.out hb); (try clear hb); (try clear hb2); (try clear hk); (try clear hi)))
  go_ret2
  exact ⟨_, rfl, by first | exact Kd.R_nil _ _ _ _ _ | exact Kd.N_nil _ _ _ _ _ | exact Kd.V_nil _ _ _ _ _ | exact Kd.Q_nil _ _ _ _ _ | exact Kd.S_nil _ _ _ _ _, V0⟩
end Go.Proofs.YtldpdidlfbphcaaGreatDoor.P
end
section
namespace Go.Proofs.YtldpdidlfbphcaaGreatDoor.P
open Go.RowKit Go.Proofs.YtldpdidlfbphcaaGreatDoorW.PrintWords Go.Proofs.YtldpdidlfbphcaaGreatDoorW.PrintLast Go.Proofs.YtldpdidlfbphcaaGreatDoorW.PrintMore
def nameL (s : ByteArray) : List Int := s.data.toList.map (fun b => (b.toNat : Int)) ++ List.replicate (10 - s.size) 0
def kindLetter (n : Int) : Int := if n = 1 then 76 else if n = 2 then 78 else if n = 3 then 68 else if n = 4 then 67 else if n = 5 then 77 else 0
def descL (x : S23) : List Int := nameL x.f0 ++ [kindLetter x.f1, x.f2 % 256, if x.f3 = true then 1 else 0, 0, 0, 0]
def descO (x : S23) : Option (List Int) := if x.f0.size ≤ 10 then some (descL x) else none
theorem nameL_len {s : ByteArray} (h : s.size ≤ 10) : (nameL s).length = 10 := by
 unfold nameL
 rw [List.length_append, List.length_map, List.length_replicate]
 have e : s.data.toList.length = s.size := rfl
 omega
theorem descO_some {x : S23} {l : List Int} (h : descO x = some l) : x.f0.size ≤ 10 ∧ l.length = 16 ∧ l = descL x := by
 unfold descO at h
 split at h
 ·rename_i hs
  cases h
  refine ⟨hs, ?_, rfl⟩
  unfold descL
  rw [List.length_append, nameL_len hs]
  rfl
 ·cases h
def u8s (l : List Int) : Array Value := (l.map (Value.int .u8)).toArray
theorem set16 : ∀ (L : List Int), L.length = 10 → ∀ a b c d e f x : Int, (u8s (L ++ [a, b, c, d, e, f])).setIfInBounds 10 (.int .u8 x) = u8s (L ++ [x, b, c, d, e, f]) ∧ (u8s (L ++ [a, b, c, d, e, f])).setIfInBounds 11 (.int .u8 x) = u8s (L ++ [a, x, c, d, e, f]) ∧ (u8s (L ++ [a, b, c, d, e, f])).setIfInBounds 12 (.int .u8 x) = u8s (L ++ [a, b, x, d, e, f])
 | [a0, a1, a2, a3, a4, a5, a6, a7, a8, a9], _, _, _, _, _, _, _, _ => ⟨rfl, rfl, rfl⟩
theorem u8s_some {l : List Int} {i : Nat} (h : i < l.length) : (u8s l)[i]? = some ((u8s l)[i]'(by unfold u8s; simpa using h)) := Array.getElem?_eq_getElem _
theorem copy_arr (W : World) (g : Nat) (s : ByteArray) (hg : W.heap[g]? = some (.cells #[.int .u8 0, .int .u8 0, .int .u8 0, .int .u8 0, .int .u8 0, .int .u8 0, .int .u8 0, .int .u8 0, .int .u8 0, .int .u8 0, .int .u8 0, .int .u8 0, .int .u8 0, .int .u8 0, .int .u8 0, .int .u8 0] 123 (0, 0))) (hs : s.size ≤ 10) :
  (Builtin.copy_ #[37, 9] 3 #[.slice (some ⟨g, 0, none⟩) 10 10, .string s]).run Tryz.prog W = .ok (goInt s.size) (W.setRow g (u8s (nameL s ++ [0, 0, 0, 0, 0, 0]))) := by
 have h := Lib.run_copy_row_string (P := Tryz.prog) W 37 9 3 5 g 0 10 10 s _ 123 Tryz.underlying37 (by kernel_rfl) hg hs (by simp; omega)
 have e2 : ((#[.int .u8 0, .int .u8 0, .int .u8 0, .int .u8 0, .int .u8 0, .int .u8 0, .int .u8 0, .int .u8 0, .int .u8 0, .int .u8 0, .int .u8 0, .int .u8 0, .int .u8 0, .int .u8 0, .int .u8 0, .int .u8 0] : Array Value).toList.take 0 ++ Lib.byteCells s.data.toList ++ (#[.int .u8 0, .int .u8 0, .int .u8 0, .int .u8 0, .int .u8 0, .int .u8 0, .int .u8 0, .int .u8 0, .int .u8 0, .int .u8 0, .int .u8 0, .int .u8 0, .int .u8 0, .int .u8 0, .int .u8 0, .int .u8 0] : Array Value).toList.drop (0 + s.size)).toArray = u8s (nameL s ++ [0, 0, 0, 0, 0, 0]) := by
  unfold u8s nameL
  refine congrArg List.toArray ?_
  rw [List.map_append, List.map_append, List.map_map, List.map_replicate, Nat.zero_add]
  rw [List.take_zero, List.nil_append, List.append_assoc]
  show Lib.byteCells s.data.toList ++ _ = Lib.byteCells s.data.toList ++ _
  refine congrArg (Lib.byteCells s.data.toList ++ ·) ?_
  obtain ⟨n, hn⟩ : ∃ n, s.size = n := ⟨_, rfl⟩
  rw [hn] at hs ⊢
  rcases n with _ | _ | _ | _ | _ | _ | _ | _ | _ | _ | _ | n
  all_goals first | rfl | (exfalso; omega)
 rw [e2] at h
 exact h
theorem rowset_far {W : World} {g k : Nat} {o : Obj} (h : W.heap[k]? = some o) (hk : k ≠ g) (cs : Array Value) : (W.setRow g cs).heap[k]? = some o := (setRow_other W g k cs hk).trans h
theorem rowset_R {W : World} {g base : Nat} {v : Value} {xs : List Int} {cs0 : Array Value} {t : TypeId} (h : Kd.R (Kd.int .u8) 5 W base (fun _ => True) v xs) (hg : W.heap[g]? = some (.cells cs0 t (0, 0))) (cs : Array Value) (hne : (5 : Nat) ≠ t) : Kd.R (Kd.int .u8) 5 (W.setRow g cs) base (fun _ => True) v xs := by
 exact Kd.R_mono (Kd.R_step (Kd.R_types h hg (by intro q hq; rcases List.mem_cons.1 hq with rfl | hq; exact hne; exact absurd hq (by simp [Kd.int, Kd.scalar]))) (fun k ho _ => setRow_other W g k cs ho.2)) (fun _ _ => trivial)
theorem cellset_R {W : World} {g base j : Nat} {v u : Value} {xs : List Int} {cs0 : Array Value} {t : TypeId} (h : Kd.R (Kd.int .u8) 5 W base (fun _ => True) v xs) (hg : W.heap[g]? = some (.cells cs0 t (0, 0))) (hne : (5 : Nat) ≠ t) : Kd.R (Kd.int .u8) 5 (W.setCell ⟨g, j, none⟩ u) base (fun _ => True) v xs :=
 Kd.R_mono (Kd.R_far (p := ⟨g, j, none⟩) (Kd.R_types h hg (by intro q hq; rcases List.mem_cons.1 hq with rfl | hq; exact hne; exact absurd hq (by simp [Kd.int, Kd.scalar]))) (fun _ hk => hk.2) u) (fun _ _ => trivial)
theorem kindVal_letter (n : Int) : ∃ f1 f2 : Value, kindVal n = .agg #[.int .u8 (kindLetter n), .int .i64 (kindLo n), .int .i64 (kindHi n), f1, f2] := by
 by_cases h1 : n = 1
 ·subst h1; exact ⟨_, _, rfl⟩
 by_cases h2 : n = 2
 ·subst h2; exact ⟨_, _, rfl⟩
 by_cases h3 : n = 3
 ·subst h3; exact ⟨_, _, rfl⟩
 by_cases h4 : n = 4
 ·subst h4; exact ⟨_, _, rfl⟩
 by_cases h5 : n = 5
 ·subst h5; exact ⟨_, _, rfl⟩
 have e1 : kindLo n = 0 := by unfold kindLo kindFound; rw [if_neg (by omega), if_neg (by simp; omega)]
 have e2 : kindHi n = 0 := by unfold kindHi; rw [if_neg (by omega), if_neg h1, if_neg h2, if_neg h4]
 have e3 : kindLetter n = 0 := by unfold kindLetter; rw [if_neg h1, if_neg h2, if_neg h3, if_neg h4, if_neg h5]
 rw [e1, e2, e3]
 unfold kindVal
 rw [if_neg h1, if_neg h2, if_neg h3, if_neg h4, if_neg h5]
 exact ⟨_, _, rfl⟩
theorem run_look' (W : World) (r : Nat) (hb : W.heap[r]? = some (.map kindsEs 5)) (n : Int) (v : Value) (hv : kindVal n = v) : (Instr.lookup 104 (.map (some r)) (.int .i64 n) false).run Tryz.prog W = .ok v W := by
 rw [run_look W r hb n false, ← hv]; rfl
theorem blk_C {W : World} {g : Nat} {t : TypeId} (xs : List Int) (h : W.heap[g]? = some (.cells (u8s xs) t (0, 0))) (hl : xs.length ≤ 9223372036854775807) : (Kd.int .u8).C W (some ⟨g, 0, none⟩) xs.length xs := by
 refine ⟨rfl, hl, fun _ => ⟨_, rfl, fun j p hj => ⟨[.int .u8 p], rfl, rfl, fun i u hu => ?_⟩⟩⟩
 have hi : i = 0 := by
  have := (List.getElem?_eq_some_iff.1 hu).1
  simpa using this
 subst hi
 have hc := Y0 h j
 have e : (u8s xs)[j]? = some (.int .u8 p) := by
  unfold u8s
  rw [List.getElem?_toArray, List.getElem?_map, hj]
  rfl
 have hu' : Value.int .u8 p = u := by simpa using hu
 rw [← hu', ← e, ← hc]
 simp [Addr.add, Kd.int, Kd.scalar]
 split
 ·rename_i h0; rw [h0]
 ·rfl
theorem hd_C {W : World} {g : Nat} {t : TypeId} {l ys : List Int} (h : W.heap[g]? = some (.cells (u8s l) t (0, 0))) (hy : ys = l) (hl : ys.length = 16) : (Kd.int .u8).C W (some ⟨g, 0, none⟩) 16 ys := by
 subst hy
 have := blk_C ys h (by omega)
 rw [hl] at this
 exact this
def hd_T9 : Bool × List (List Nat × List Nat) := (true, [([], []), ([], []), ([1], [1]), ([0, 2], [0, 2])])
theorem hd_tab9 : rtab .any (opsOf Tryz.f62 9) = hd_T9 := by kernel_rfl
def hd_T10 : Bool × List (List Nat × List Nat) := (true, [([], []), ([], []), ([1], [1]), ([0, 2], [0, 2]), ([3], [3]), ([], []), ([5], [5]), ([6], [6]), ([0, 1, 2, 3, 4], []), ([8, 4, 0, 0, 1, 2, 3, 4], [4, 8]), ([0, 1, 2, 3, 4, 5, 6, 7, 8, 9], []), ([10, 7, 9, 0, 1, 2, 3, 4, 5, 6, 7, 8, 9], [7, 10])])
theorem hd_tab10 : rtab .any (opsOf Tryz.f62 10) = hd_T10 := by kernel_rfl
end Go.Proofs.YtldpdidlfbphcaaGreatDoor.P
end
section
namespace Go.Proofs.YtldpdidlfbphcaaGreatDoor.P
open Go.RowKit Go.Proofs.YtldpdidlfbphcaaGreatDoorW.PrintWords Go.Proofs.YtldpdidlfbphcaaGreatDoorW.PrintLast Go.Proofs.YtldpdidlfbphcaaGreatDoorW.PrintMore
attribute [local go_sem] max2_int min2_int max_two min_two max_three min_three max_four min_four
def table_writeTruth.f (a0_0 : ByteArray) (a0_1 : Int) (a0_2 : Int) (a0_3 : Bool) (a1_0 : Int) (a1_1 : Int) (a1_2 : ByteArray) : Option (ByteArray) := if 0 ≤ a1_1 then (if a1_1 ≤ (wrap64 (a1_1 + 1)) then (if (wrap64 (a1_1 + 1)) ≤ 2 then (some ((⟨#[70, 84]⟩ : ByteArray).extract (a1_1 : Int).toNat ((wrap64 (a1_1 + 1)) : Int).toNat)) else (none)) else (none)) else (none)
set_option maxHeartbeats 8000000 in
set_option maxRecDepth 100000 in
theorem table_writeTruth.calls (a0_0 : ByteArray) (a0_1 : Int) (a0_2 : Int) (a0_3 : Bool) (a1_0 : Int) (a1_1 : Int) (a1_2 : ByteArray) (r : ByteArray) (w : World) (h : table_writeTruth.f a0_0 a0_1 a0_2 a0_3 a1_0 a1_1 a1_2 = some r) :
  Calls Tryz.prog 125 #[.agg #[.string a0_0, .int .i64 a0_1, .int .i64 a0_2, .bool a0_3], .agg #[.int .i64 a1_0, .int .i64 a1_1, .string a1_2]] w fun e w' => e = .returned (.string r) ∧ Below w.heap.size w w' := by
 have hu23 := Tryz.underlying23
 have hu25 := Tryz.underlying25
 have HB := Z0 (Below.refl w.heap.size w)
 have H : (if 0 ≤ a1_1 then (if a1_1 ≤ (wrap64 (a1_1 + 1)) then (if (wrap64 (a1_1 + 1)) ≤ 2 then (some ((⟨#[70, 84]⟩ : ByteArray).extract (a1_1 : Int).toNat ((wrap64 (a1_1 + 1)) : Int).toNat)) else (none)) else (none)) else (none)) = some r := h
 clear h
 by_cases c3 : 0 ≤ a1_1
 ·rw [if_pos c3] at H
  have c3b0 := eq_true c3
  have c3b1 : decide (0 ≤ a1_1) = true := decide_eq_true c3
  clear c3
  by_cases c4 : a1_1 ≤ (wrap64 (a1_1 + 1))
  ·rw [if_pos c4] at H
   have c4b0 := eq_true c4
   have c4b1 : decide (a1_1 ≤ (wrap64 (a1_1 + 1))) = true := decide_eq_true c4
   by_cases c5 : (wrap64 (a1_1 + 1)) ≤ 2
   ·rw [if_pos c5] at H
    have c5b0 := eq_true c5
    have c5b1 : decide ((wrap64 (a1_1 + 1)) ≤ 2) = true := decide_eq_true c5
    obtain rfl := Option.some.inj H
    go_enter Tryz.func125, Tryz.ntmps125
    go_wp2_with (first | ((with_reducible refine Y1 (N := 2) rfl ?_); refine bx (N := 2) (cs := #[.string a0_0, .int .i64 a0_1, .int .i64 a0_2, .bool a0_3]) (t := 23) ?_; intro gb563 hg w6 hbox hb; have BK563 := Z0 (hbox); have GE563 := Z0 ((by rw [hg]; exact (Z9 HB.out) : w.heap.size ≤ gb563)); replace HB := Z0 (Z4 HB.out hb); clear hb hbox hg) | ((with_reducible refine Y1 (N := 3) rfl ?_); refine bx (N := 3) (cs := #[.int .i64 a1_0, .int .i64 a1_1, .string a1_2]) (t := 25) ?_; intro gb564 hg w7 hbox hb; have BK564 := Z0 (hbox); have GE564 := Z0 ((by rw [hg]; exact (Z9 HB.out) : w.heap.size ≤ gb564)); replace HB := Z0 (Z4 HB.out hb); have NB563_564 := Z0 ((by rw [hg]; exact Nat.ne_of_lt (blk_lt BK563.out) : gb563 ≠ gb564)); have NB564_563 := Z0 ((by rw [hg]; exact Nat.ne_of_gt (blk_lt BK563.out) : gb564 ≠ gb563)); replace BK563 := Z0 (Z5 BK563.out hb); clear hb hbox hg; have hnb8 := NB564_563.out; have hnc8 := NB563_564.out; obtain ⟨hcz9_0, hcz9_1, hcz9_2⟩ := bc3 BK564.out; obtain ⟨hfz9_0, hfz9_1, hfz9_2⟩ := bf3 BK564.out))
    go_ret
    exact ⟨rfl, V0⟩
   ·rw [if_neg c5] at H
    exact absurd H (by simp)
  ·rw [if_neg c4] at H
   exact absurd H (by simp)
 ·rw [if_neg c3] at H
  exact absurd H (by simp)
def table_writeNum.f (k : Nat) (a0_0 : ByteArray) (a0_1 : Int) (a0_2 : Int) (a0_3 : Bool) (a1_0 : Int) (a1_1 : Int) (a1_2 : ByteArray) : Option (ByteArray) := (val_Str.f k a1_1 a0_2).bind fun bt554 => (some bt554.1)
theorem table_writeNum.mono : ∀ a0 a1 a2 a3 a4 a5 a6 k, LeO (table_writeNum.f k a0 a1 a2 a3 a4 a5 a6) (table_writeNum.f (k + 1) a0 a1 a2 a3 a4 a5 a6) := by
 intro a0 a1 a2 a3 a4 a5 a6 k
 unfold table_writeNum.f
 repeat' first
   | (with_reducible exact val_Str.mono _ _ _)
   | (with_reducible exact LeO.refl _)
   | (with_reducible exact LeO.none _)
   | (with_reducible refine LeO.ite ?_ ?_)
   | (with_reducible refine LeO.bind ?_ (fun _ => ?_))
set_option maxHeartbeats 8000000 in
set_option maxRecDepth 100000 in
theorem table_writeNum.calls (k : Nat) (a0_0 : ByteArray) (a0_1 : Int) (a0_2 : Int) (a0_3 : Bool) (a1_0 : Int) (a1_1 : Int) (a1_2 : ByteArray) (r : ByteArray) (w : World) (h : table_writeNum.f k a0_0 a0_1 a0_2 a0_3 a1_0 a1_1 a1_2 = some r) :
  Calls Tryz.prog 127 #[.agg #[.string a0_0, .int .i64 a0_1, .int .i64 a0_2, .bool a0_3], .agg #[.int .i64 a1_0, .int .i64 a1_1, .string a1_2]] w fun e w' => e = .returned (.string r) ∧ Below w.heap.size w w' := by
 have hu23 := Tryz.underlying23
 have hu25 := Tryz.underlying25
 have HB := Z0 (Below.refl w.heap.size w)
 have H : ((val_Str.f k a1_1 a0_2).bind fun bt554 => (some bt554.1)) = some r := h
 clear h
 replace H := Option.bind_eq_some_iff.mp H
 obtain ⟨⟨t554, t555⟩, A30, H⟩ := H
 replace H : (some t554) = some r := H
 have A3 := Z0 A30
 clear A30
 obtain rfl := Option.some.inj H
 go_enter Tryz.func127, Tryz.ntmps127
 go_wp2_with (first | ((with_reducible refine Y1 (N := 2) rfl ?_); refine bx (N := 2) (cs := #[.string a0_0, .int .i64 a0_1, .int .i64 a0_2, .bool a0_3]) (t := 23) ?_; intro gb552 hg w4 hbox hb; have BK552 := Z0 (hbox); have GE552 := Z0 ((by rw [hg]; exact (Z9 HB.out) : w.heap.size ≤ gb552)); replace HB := Z0 (Z4 HB.out hb); clear hb hbox hg) | ((with_reducible refine Y1 (N := 3) rfl ?_); refine bx (N := 3) (cs := #[.int .i64 a1_0, .int .i64 a1_1, .string a1_2]) (t := 25) ?_; intro gb553 hg w5 hbox hb; have BK553 := Z0 (hbox); have GE553 := Z0 ((by rw [hg]; exact (Z9 HB.out) : w.heap.size ≤ gb553)); replace HB := Z0 (Z4 HB.out hb); have NB552_553 := Z0 ((by rw [hg]; exact Nat.ne_of_lt (blk_lt BK552.out) : gb552 ≠ gb553)); have NB553_552 := Z0 ((by rw [hg]; exact Nat.ne_of_gt (blk_lt BK552.out) : gb553 ≠ gb552)); replace BK552 := Z0 (Z5 BK552.out hb); clear hb hbox hg; have hnb6 := NB553_552.out; have hnc6 := NB552_553.out; obtain ⟨hcz7_0, hcz7_1, hcz7_2⟩ := bc3 BK553.out; obtain ⟨hfz7_0, hfz7_1, hfz7_2⟩ := bf3 BK553.out; obtain ⟨hcz8_0, hcz8_1, hcz8_2, hcz8_3⟩ := bc4 BK552.out; obtain ⟨hfz8_0, hfz8_1, hfz8_2, hfz8_3⟩ := bf4 BK552.out) | ((with_reducible refine Y2 (f := 53) rfl ?_); refine goesL_ (some 12) rfl rfl Tryz.func53 (by kernel_rfl) rfl #[.int .i64 a1_1, .int .i64 a0_2] rfl V1 ?_; (with_reducible refine (val_Str.calls k a1_1 a0_2 t554 t555 _ A3.out).mono ?_); rintro e w9 ⟨rfl, hb⟩; refine ⟨_, rfl, ?_⟩; replace BK552 := Z0 (Z5 BK552.out hb); replace BK553 := Z0 (Z5 BK553.out hb); replace HB := Z0 (Z4 HB.out hb); (try clear hb); (try clear hb2); (try clear hk); (try clear hi)))
 go_ret
 exact ⟨rfl, V0⟩
def val_yearsDays.f (a0 : Int) : Option (Int) := some (wrap64 ((wrap64 ((wrap64 ((wrap64 (365 * (wrap64 (a0 - 1)))) + (wrap64 (Int.tdiv (wrap64 (a0 - 1)) 4)))) - (wrap64 (Int.tdiv (wrap64 (a0 - 1)) 100)))) + (wrap64 (Int.tdiv (wrap64 (a0 - 1)) 400))))
set_option maxHeartbeats 8000000 in
set_option maxRecDepth 100000 in
theorem val_yearsDays.calls (a0 : Int) (r : Int) (w : World) (h : val_yearsDays.f a0 = some r) :
  Calls Tryz.prog 180 #[.int .i64 a0] w fun e w' => e = .returned (.int .i64 r) ∧ Drawn0 w w' := by
 have H : (some (wrap64 ((wrap64 ((wrap64 ((wrap64 (365 * (wrap64 (a0 - 1)))) + (wrap64 (Int.tdiv (wrap64 (a0 - 1)) 4)))) - (wrap64 (Int.tdiv (wrap64 (a0 - 1)) 100)))) + (wrap64 (Int.tdiv (wrap64 (a0 - 1)) 400))))) = some r := h
 clear h
 obtain rfl := Option.some.inj H
 go_enter Tryz.func180, Tryz.ntmps180
 go_wp2
 go_ret
 exact ⟨V2, by repeat (first | exact Y7 _ | apply Y6)⟩
def val_isLeap.j0 : Nat → Bool → Option (Bool)
 | 0, _ => none
 | k + 1, x2 => some x2
def val_isLeap.f (k : Nat) (a0 : Int) : Option (Bool) := if (Int.tmod a0 4) = 0 then (if (Int.tmod a0 100) = 0 then (val_isLeap.j0 k ((Int.tmod a0 400) == 0)) else (val_isLeap.j0 k true)) else (val_isLeap.j0 k false)
theorem val_isLeap.mono_l : ∀ k, (∀ y0, LeO (val_isLeap.j0 k y0) (val_isLeap.j0 (k + 1) y0))
 | 0 => fun _ r h => by simp [val_isLeap.j0] at h
 | k + 1 => by
  have ih0 := val_isLeap.mono_l k
  ·intro y0
   unfold val_isLeap.j0
   repeat' first
   | (with_reducible exact ih0 _)
   | (with_reducible exact LeO.refl _)
   | (with_reducible exact LeO.none _)
   | (with_reducible refine LeO.ite ?_ ?_)
   | (with_reducible refine LeO.bind ?_ (fun _ => ?_))
theorem val_isLeap.mono : ∀ a0 k, LeO (val_isLeap.f k a0) (val_isLeap.f (k + 1) a0) := by
 intro a0 k
 have ih0 := val_isLeap.mono_l k
 unfold val_isLeap.f
 repeat' first
   | (with_reducible exact ih0 _)
   | (with_reducible exact LeO.refl _)
   | (with_reducible exact LeO.none _)
   | (with_reducible refine LeO.ite ?_ ?_)
   | (with_reducible refine LeO.bind ?_ (fun _ => ?_))
set_option maxHeartbeats 8000000 in
set_option maxRecDepth 100000 in
theorem val_isLeap.calls (k : Nat) (a0 : Int) (r : Bool) (w : World) (h : val_isLeap.f k a0 = some r) :
  Calls Tryz.prog 183 #[.int .i64 a0] w fun e w' => e = .returned (.bool r) ∧ Drawn0 w w' := by
 have H : (if (Int.tmod a0 4) = 0 then (if (Int.tmod a0 100) = 0 then (val_isLeap.j0 k ((Int.tmod a0 400) == 0)) else (val_isLeap.j0 k true)) else (val_isLeap.j0 k false)) = some r := h
 clear h
 have HC2 := Z0 H
 clear H
 go_enter Tryz.func183, Tryz.ntmps183
 go_upto_region 1 with (fail)
 go_cut [2] (fun v2 wc => ∃ (kq : Nat) (x2_1 : Bool), v2 = .bool x2_1 ∧ Aside0 (val_isLeap.j0 kq x2_1 = some r) ∧ Aside0 (kq ≤ k) ∧ Drawn0 w wc)
 case first =>
  have H := HC2.out
  clear HC2
  by_cases c3 : (Int.tmod a0 4) = 0
  ·rw [if_pos c3] at H
   have c3b0 : ((Int.tmod a0 4) == 0) = true := beq_iff_eq.mpr c3
   have c3b1 : ((Int.tmod a0 4) != 0) = false := bne_eq_false_iff_eq.mpr c3
   clear c3
   (first | rw [c3b0] | (simp only [Y4, Y5]; rw [c3b0]) | skip)
   by_cases c4 : (Int.tmod a0 100) = 0
   ·rw [if_pos c4] at H
    have c4b0 : ((Int.tmod a0 100) == 0) = true := beq_iff_eq.mpr c4
    have c4b1 : ((Int.tmod a0 100) != 0) = false := bne_eq_false_iff_eq.mpr c4
    clear c4
    have H' := Z0 H
    clear H
    go_wp2
    go_meet
    case rel => exact ⟨_, (((Int.tmod a0 400) == 0)), V2, H', ⟨by first | omega | exact Nat.le_refl _⟩, by repeat (first | exact Y7 _ | apply Y6)⟩
   ·rw [if_neg c4] at H
    have c4b0 : ((Int.tmod a0 100) == 0) = false := beq_eq_false_iff_ne.mpr c4
    have c4b1 : ((Int.tmod a0 100) != 0) = true := bne_iff_ne.mpr c4
    have H' := Z0 H
    clear H
    go_wp2
    go_meet
    case rel => exact ⟨_, (true), V2, H', ⟨by first | omega | exact Nat.le_refl _⟩, by repeat (first | exact Y7 _ | apply Y6)⟩
  ·rw [if_neg c3] at H
   have c3b0 : ((Int.tmod a0 4) == 0) = false := beq_eq_false_iff_ne.mpr c3
   have c3b1 : ((Int.tmod a0 4) != 0) = true := bne_iff_ne.mpr c3
   (first | rw [c3b0] | (simp only [Y4, Y5]; rw [c3b0]) | skip)
   have H' := Z0 H
   clear H
   go_wp2
   go_meet
   case rel => exact ⟨_, (false), V2, H', ⟨by first | omega | exact Nat.le_refl _⟩, by repeat (first | exact Y7 _ | apply Y6)⟩
 case rest =>
  clear HC2
  (try clear c1);(try clear p2);(try clear c3);(try clear c3b0);(try clear c3b1);(try clear c4);(try clear c4b0);(try clear c4b1)
  obtain ⟨kq, x2_1, rfl, HA, HJ1, ⟨mc1, rfl⟩⟩ := hcut
  cases kq with
  | zero => exact absurd HA.out (by simp [val_isLeap.j0])
  | succ kj1 =>
   have H := HA.out
   clear HA
   simp only [val_isLeap.j0] at H
   obtain rfl := Option.some.inj H
   go_wp2
   go_ret
   exact ⟨V2, by repeat (first | exact Y7 _ | apply Y6)⟩
end Go.Proofs.YtldpdidlfbphcaaGreatDoor.P
end
section
namespace Go.Proofs.YtldpdidlfbphcaaGreatDoor.P
open Go.RowKit Go.Proofs.YtldpdidlfbphcaaGreatDoorW.PrintWords Go.Proofs.YtldpdidlfbphcaaGreatDoorW.PrintLast Go.Proofs.YtldpdidlfbphcaaGreatDoorW.PrintMore
def mdS (m : Int) : Int := if m = 2 then 28 else if m = 4 ∨ m = 6 ∨ m = 9 ∨ m = 11 then 30 else 31
def val_monthDays.f (a0 : Int) (a1 : Int) : Option (Int) := if 1 ≤ a1 ∧ a1 ≤ 12 then (if a1 = 2 then (val_isLeap.f 1 a0).bind fun l => some (if l = true then 29 else 28) else some (mdS a1)) else none
set_option maxHeartbeats 8000000 in
set_option maxRecDepth 100000 in
theorem md_1 (y : Int) (w : World) : Calls Tryz.prog 179 #[.int .i64 y, .int .i64 1] w fun e w' => e = .returned (.int .i64 31) ∧ Below w.heap.size w w' := by
 have HB := Z0 (Below.refl w.heap.size w)
 go_enter Tryz.func179, Tryz.ntmps179
 go_wp2_with (first | fail)
 go_ret
 exact ⟨rfl, by repeat (first | exact HB.out | exact below_alloc HB.out _ | refine below_set ?_ (Nat.le_refl _))⟩
set_option maxHeartbeats 8000000 in
set_option maxRecDepth 100000 in
theorem md_2t (y : Int) (w : World) (hl : ∀ W, Calls Tryz.prog 183 #[.int .i64 y] W fun e w' => e = .returned (.bool true) ∧ Below W.heap.size W w') : Calls Tryz.prog 179 #[.int .i64 y, .int .i64 2] w fun e w' => e = .returned (.int .i64 29) ∧ Below w.heap.size w w' := by
 have HB := Z0 (Below.refl w.heap.size w)
 go_enter Tryz.func179, Tryz.ntmps179
 go_wp2_with (first | fail | (go_at_call 183; refine (hl _).mono ?_; rintro e w7 ⟨rfl, hb⟩; have n0_ := Z0 (Z4 (by repeat (first | exact HB.out | exact below_alloc HB.out _ | refine below_set ?_ (Nat.le_refl _))) hb); clear HB; have HB := n0_; clear n0_ hb))
 go_ret
 exact ⟨rfl, by repeat (first | exact HB.out | exact below_alloc HB.out _ | refine below_set ?_ (Nat.le_refl _))⟩
set_option maxHeartbeats 8000000 in
set_option maxRecDepth 100000 in
theorem md_2f (y : Int) (w : World) (hl : ∀ W, Calls Tryz.prog 183 #[.int .i64 y] W fun e w' => e = .returned (.bool false) ∧ Below W.heap.size W w') : Calls Tryz.prog 179 #[.int .i64 y, .int .i64 2] w fun e w' => e = .returned (.int .i64 28) ∧ Below w.heap.size w w' := by
 have HB := Z0 (Below.refl w.heap.size w)
 go_enter Tryz.func179, Tryz.ntmps179
 go_wp2_with (first | fail | (go_at_call 183; refine (hl _).mono ?_; rintro e w7 ⟨rfl, hb⟩; have hk7 := Z5 (blk_new w _) hb; have hc7 : w7.cell? ⟨w.heap.size, 1, none⟩ = some (.int .i64 28) := (Y0 hk7 1).trans rfl; clear hk7; have n0_ := Z0 (Z4 (by repeat (first | exact HB.out | exact below_alloc HB.out _ | refine below_set ?_ (Nat.le_refl _))) hb); clear HB; have HB := n0_; clear n0_ hb))
 go_ret
 exact ⟨rfl, by repeat (first | exact HB.out | exact below_alloc HB.out _ | refine below_set ?_ (Nat.le_refl _))⟩
set_option maxHeartbeats 8000000 in
set_option maxRecDepth 100000 in
theorem md_3 (y : Int) (w : World) : Calls Tryz.prog 179 #[.int .i64 y, .int .i64 3] w fun e w' => e = .returned (.int .i64 31) ∧ Below w.heap.size w w' := by
 have HB := Z0 (Below.refl w.heap.size w)
 go_enter Tryz.func179, Tryz.ntmps179
 go_wp2_with (first | fail)
 go_ret
 exact ⟨rfl, by repeat (first | exact HB.out | exact below_alloc HB.out _ | refine below_set ?_ (Nat.le_refl _))⟩
set_option maxHeartbeats 8000000 in
set_option maxRecDepth 100000 in
theorem md_4 (y : Int) (w : World) : Calls Tryz.prog 179 #[.int .i64 y, .int .i64 4] w fun e w' => e = .returned (.int .i64 30) ∧ Below w.heap.size w w' := by
 have HB := Z0 (Below.refl w.heap.size w)
 go_enter Tryz.func179, Tryz.ntmps179
 go_wp2_with (first | fail)
 go_ret
 exact ⟨rfl, by repeat (first | exact HB.out | exact below_alloc HB.out _ | refine below_set ?_ (Nat.le_refl _))⟩
set_option maxHeartbeats 8000000 in
set_option maxRecDepth 100000 in
theorem md_5 (y : Int) (w : World) : Calls Tryz.prog 179 #[.int .i64 y, .int .i64 5] w fun e w' => e = .returned (.int .i64 31) ∧ Below w.heap.size w w' := by
 have HB := Z0 (Below.refl w.heap.size w)
 go_enter Tryz.func179, Tryz.ntmps179
 go_wp2_with (first | fail)
 go_ret
 exact ⟨rfl, by repeat (first | exact HB.out | exact below_alloc HB.out _ | refine below_set ?_ (Nat.le_refl _))⟩
set_option maxHeartbeats 8000000 in
set_option maxRecDepth 100000 in
theorem md_6 (y : Int) (w : World) : Calls Tryz.prog 179 #[.int .i64 y, .int .i64 6] w fun e w' => e = .returned (.int .i64 30) ∧ Below w.heap.size w w' := by
 have HB := Z0 (Below.refl w.heap.size w)
 go_enter Tryz.func179, Tryz.ntmps179
 go_wp2_with (first | fail)
 go_ret
 exact ⟨rfl, by repeat (first | exact HB.out | exact below_alloc HB.out _ | refine below_set ?_ (Nat.le_refl _))⟩
set_option maxHeartbeats 8000000 in
set_option maxRecDepth 100000 in
theorem md_7 (y : Int) (w : World) : Calls Tryz.prog 179 #[.int .i64 y, .int .i64 7] w fun e w' => e = .returned (.int .i64 31) ∧ Below w.heap.size w w' := by
 have HB := Z0 (Below.refl w.heap.size w)
 go_enter Tryz.func179, Tryz.ntmps179
 go_wp2_with (first | fail)
 go_ret
 exact ⟨rfl, by repeat (first | exact HB.out | exact below_alloc HB.out _ | refine below_set ?_ (Nat.le_refl _))⟩
set_option maxHeartbeats 8000000 in
set_option maxRecDepth 100000 in
theorem md_8 (y : Int) (w : World) : Calls Tryz.prog 179 #[.int .i64 y, .int .i64 8] w fun e w' => e = .returned (.int .i64 31) ∧ Below w.heap.size w w' := by
 have HB := Z0 (Below.refl w.heap.size w)
 go_enter Tryz.func179, Tryz.ntmps179
 go_wp2_with (first | fail)
 go_ret
 exact ⟨rfl, by repeat (first | exact HB.out | exact below_alloc HB.out _ | refine below_set ?_ (Nat.le_refl _))⟩
set_option maxHeartbeats 8000000 in
set_option maxRecDepth 100000 in
theorem md_9 (y : Int) (w : World) : Calls Tryz.prog 179 #[.int .i64 y, .int .i64 9] w fun e w' => e = .returned (.int .i64 30) ∧ Below w.heap.size w w' := by
 have HB := Z0 (Below.refl w.heap.size w)
 go_enter Tryz.func179, Tryz.ntmps179
 go_wp2_with (first | fail)
 go_ret
 exact ⟨rfl, by repeat (first | exact HB.out | exact below_alloc HB.out _ | refine below_set ?_ (Nat.le_refl _))⟩
set_option maxHeartbeats 8000000 in
set_option maxRecDepth 100000 in
theorem md_10 (y : Int) (w : World) : Calls Tryz.prog 179 #[.int .i64 y, .int .i64 10] w fun e w' => e = .returned (.int .i64 31) ∧ Below w.heap.size w w' := by
 have HB := Z0 (Below.refl w.heap.size w)
 go_enter Tryz.func179, Tryz.ntmps179
 go_wp2_with (first | fail)
 go_ret
 exact ⟨rfl, by repeat (first | exact HB.out | exact below_alloc HB.out _ | refine below_set ?_ (Nat.le_refl _))⟩
set_option maxHeartbeats 8000000 in
set_option maxRecDepth 100000 in
theorem md_11 (y : Int) (w : World) : Calls Tryz.prog 179 #[.int .i64 y, .int .i64 11] w fun e w' => e = .returned (.int .i64 30) ∧ Below w.heap.size w w' := by
 have HB := Z0 (Below.refl w.heap.size w)
 go_enter Tryz.func179, Tryz.ntmps179
 go_wp2_with (first | fail)
 go_ret
 exact ⟨rfl, by repeat (first | exact HB.out | exact below_alloc HB.out _ | refine below_set ?_ (Nat.le_refl _))⟩
set_option maxHeartbeats 8000000 in
set_option maxRecDepth 100000 in
theorem md_12 (y : Int) (w : World) : Calls Tryz.prog 179 #[.int .i64 y, .int .i64 12] w fun e w' => e = .returned (.int .i64 31) ∧ Below w.heap.size w w' := by
 have HB := Z0 (Below.refl w.heap.size w)
 go_enter Tryz.func179, Tryz.ntmps179
 go_wp2_with (first | fail)
 go_ret
 exact ⟨rfl, by repeat (first | exact HB.out | exact below_alloc HB.out _ | refine below_set ?_ (Nat.le_refl _))⟩
theorem val_monthDays.calls (a0 : Int) (a1 : Int) (r : Int) (w : World) (h : val_monthDays.f a0 a1 = some r) :
  Calls Tryz.prog 179 #[.int .i64 a0, .int .i64 a1] w fun e w' => e = .returned (.int .i64 r) ∧ Below w.heap.size w w' := by
 unfold val_monthDays.f at h
 split at h
 ·rename_i hm
  by_cases h2 : a1 = 2
  ·subst h2
   rw [if_pos rfl] at h
   obtain ⟨l, hl, h⟩ := Option.bind_eq_some_iff.mp h
   cases l with
   | true => cases h; exact md_2t a0 w (fun W => (val_isLeap.calls 1 a0 true W hl).mono (fun _ _ hx => ⟨hx.1, hx.2.below⟩))
   | false => cases h; exact md_2f a0 w (fun W => (val_isLeap.calls 1 a0 false W hl).mono (fun _ _ hx => ⟨hx.1, hx.2.below⟩))
  rw [if_neg h2] at h
  by_cases h1 : a1 = 1
  ·subst h1; cases h; exact md_1 a0 w
  by_cases h3 : a1 = 3
  ·subst h3; cases h; exact md_3 a0 w
  by_cases h4 : a1 = 4
  ·subst h4; cases h; exact md_4 a0 w
  by_cases h5 : a1 = 5
  ·subst h5; cases h; exact md_5 a0 w
  by_cases h6 : a1 = 6
  ·subst h6; cases h; exact md_6 a0 w
  by_cases h7 : a1 = 7
  ·subst h7; cases h; exact md_7 a0 w
  by_cases h8 : a1 = 8
  ·subst h8; cases h; exact md_8 a0 w
  by_cases h9 : a1 = 9
  ·subst h9; cases h; exact md_9 a0 w
  by_cases h10 : a1 = 10
  ·subst h10; cases h; exact md_10 a0 w
  by_cases h11 : a1 = 11
  ·subst h11; cases h; exact md_11 a0 w
  have h12 : a1 = 12 := by omega
  subst h12; cases h; exact md_12 a0 w
 ·cases h
end Go.Proofs.YtldpdidlfbphcaaGreatDoor.P
end
section
namespace Go.Proofs.YtldpdidlfbphcaaGreatDoor.P
open Go.RowKit Go.Proofs.YtldpdidlfbphcaaGreatDoorW.PrintWords Go.Proofs.YtldpdidlfbphcaaGreatDoorW.PrintLast Go.Proofs.YtldpdidlfbphcaaGreatDoorW.PrintMore
attribute [local go_sem] max2_int min2_int max_two min_two max_three min_three max_four min_four
mutual
def val_Split.l0 : Nat → Int → Int → Option (Int × Int × Int × Int)
 | 0, _, _ => none
 | k + 1, x0, x6 => (val_yearsDays.f (wrap64 (x6 + 1))).bind fun t573 => (if t573 < x0 then (val_Split.l0 k x0 (wrap64 (x6 + 1))) else ((val_yearsDays.f x6).bind fun t574 => (val_Split.l1 k x6 (wrap64 (x0 - t574)) 1)))
def val_Split.l1 : Nat → Int → Int → Int → Option (Int × Int × Int × Int)
 | 0, _, _, _ => none
 | k + 1, x6, x7, x8 => (val_monthDays.f x6 x8).bind fun t575 => (if x7 > t575 then ((val_monthDays.f x6 x8).bind fun t576 => (val_Split.l1 k x6 (wrap64 (x7 - t576)) (wrap64 (x8 + 1)))) else (some (x6, x8, x7, 0)))
end
def val_Split.f (k : Nat) (a0 : Int) : Option (Int × Int × Int × Int) := (val_isDay.f a0).bind fun t572 => (if t572 = true then (if a0 = 0 then (some (0, 0, 0, 0)) else (val_Split.l0 k a0 (wrap64 ((wrap64 (Int.tdiv a0 366)) + 1)))) else (some (0, 0, 0, 1)))
theorem val_Split.mono_l : ∀ k, (∀ y0 y1, LeO (val_Split.l0 k y0 y1) (val_Split.l0 (k + 1) y0 y1)) ∧ (∀ y0 y1 y2, LeO (val_Split.l1 k y0 y1 y2) (val_Split.l1 (k + 1) y0 y1 y2))
 | 0 => ⟨fun _ _ r h => by simp [val_Split.l0] at h, fun _ _ _ r h => by simp [val_Split.l1] at h⟩
 | k + 1 => by
  obtain ⟨ih0, ih1⟩ := val_Split.mono_l k
  refine ⟨?_, ?_⟩
  ·intro y0 y1
   unfold val_Split.l0
   repeat' first
   | (with_reducible exact ih0 _ _)
   | (with_reducible exact ih1 _ _ _)
   | (with_reducible exact LeO.refl _)
   | (with_reducible exact LeO.none _)
   | (with_reducible refine LeO.ite ?_ ?_)
   | (with_reducible refine LeO.bind ?_ (fun _ => ?_))
  ·intro y0 y1 y2
   unfold val_Split.l1
   repeat' first
   | (with_reducible exact ih0 _ _)
   | (with_reducible exact ih1 _ _ _)
   | (with_reducible exact LeO.refl _)
   | (with_reducible exact LeO.none _)
   | (with_reducible refine LeO.ite ?_ ?_)
   | (with_reducible refine LeO.bind ?_ (fun _ => ?_))
theorem val_Split.mono : ∀ a0 k, LeO (val_Split.f k a0) (val_Split.f (k + 1) a0) := by
 intro a0 k
 obtain ⟨ih0, ih1⟩ := val_Split.mono_l k
 unfold val_Split.f
 repeat' first
   | (with_reducible exact ih0 _ _)
   | (with_reducible exact ih1 _ _ _)
   | (with_reducible exact LeO.refl _)
   | (with_reducible exact LeO.none _)
   | (with_reducible refine LeO.ite ?_ ?_)
   | (with_reducible refine LeO.bind ?_ (fun _ => ?_))
set_option maxHeartbeats 8000000 in
set_option maxRecDepth 100000 in
theorem val_Split.calls (k : Nat) (a0 : Int) (r1 : Int) (r2 : Int) (r3 : Int) (r4 : Int) (w : World) (h : val_Split.f k a0 = some (r1, r2, r3, r4)) :
  Calls Tryz.prog 177 #[.int .i64 a0] w fun e w' => e = .returned (.tuple #[.int .i64 r1, .int .i64 r2, .int .i64 r3, .int .i64 r4]) ∧ Below w.heap.size w w' := by
 have HB := Z0 (Below.refl w.heap.size w)
 have H : ((val_isDay.f a0).bind fun t572 => (if t572 = true then (if a0 = 0 then (some (0, 0, 0, 0)) else (val_Split.l0 k a0 (wrap64 ((wrap64 (Int.tdiv a0 366)) + 1)))) else (some (0, 0, 0, 1)))) = some (r1, r2, r3, r4) := h
 clear h
 replace H := Option.bind_eq_some_iff.mp H
 obtain ⟨t572, A20, H⟩ := H
 replace H : (if t572 = true then (if a0 = 0 then (some (0, 0, 0, 0)) else (val_Split.l0 k a0 (wrap64 ((wrap64 (Int.tdiv a0 366)) + 1)))) else (some (0, 0, 0, 1))) = some (r1, r2, r3, r4) := H
 have A2 := Z0 A20
 clear A20
 by_cases c3 : t572 = true
 ·subst c3
  have H1 : (if a0 = 0 then (some (0, 0, 0, 0)) else (val_Split.l0 k a0 (wrap64 ((wrap64 (Int.tdiv a0 366)) + 1)))) = some (r1, r2, r3, r4) := by rw [if_pos rfl] at H; exact H
  clear H
  have H := H1
  clear H1
  by_cases c4 : a0 = 0
  ·rw [if_pos c4] at H
   have c4b0 : (a0 == 0) = true := beq_iff_eq.mpr c4
   have c4b1 : (a0 != 0) = false := bne_eq_false_iff_eq.mpr c4
   clear c4
   simp only [Option.some.injEq, Prod.mk.injEq] at H
   obtain ⟨rfl, rfl, rfl, rfl⟩ := H
   go_enter Tryz.func177, Tryz.ntmps177
   go_wp2_with (first | ((with_reducible refine Y2 (f := 136) rfl ?_); refine goesL_ (some 10) rfl rfl Tryz.func136 (by kernel_rfl) rfl #[.int .i64 a0] rfl V1 ?_; (with_reducible refine (val_isDay.calls a0 true _ A2.out).mono ?_); rintro e w' ⟨rfl, ⟨nd, rfl⟩⟩; refine ⟨_, rfl, ?_⟩))
   refine bodyPost_ret (results_list (rs := [.tmp 2, .tmp 3, .tmp 4, .tmp 5]) rfl (by simp) (.tmp (.tmp (.tmp (.tmp .nil))))) rfl ?_
   exact ⟨rfl, V0⟩
  ·rw [if_neg c4] at H
   have c4b0 : (a0 == 0) = false := beq_eq_false_iff_ne.mpr c4
   have c4b1 : (a0 != 0) = true := bne_iff_ne.mpr c4
   have H' := Z0 H
   clear H
   go_enter Tryz.func177, Tryz.ntmps177
   go_wp2_with (first | ((with_reducible refine Y2 (f := 136) rfl ?_); refine goesL_ (some 10) rfl rfl Tryz.func136 (by kernel_rfl) rfl #[.int .i64 a0] rfl V1 ?_; (with_reducible refine (val_isDay.calls a0 true _ A2.out).mono ?_); rintro e w' ⟨rfl, ⟨nd, rfl⟩⟩; refine ⟨_, rfl, ?_⟩))
   go_loopg [6] k (fun kq v6 w' => ∃ (x6_1 : Int), v6 = .int .i64 x6_1 ∧ Aside0 (val_Split.l0 kq a0 x6_1 = some (r1, r2, r3, r4)) ∧ Aside0 (kq ≤ k) ∧ Aside0 (Below w.heap.size w w'))
   case atStart => exact ⟨(wrap64 ((wrap64 (Int.tdiv a0 366)) + 1)), V2, H', ⟨Nat.le_refl _⟩, ⟨V0⟩⟩
   case round =>
    clear H'
    (try clear c1);(try clear p2);(try clear c3);(try clear c4);(try clear c4b0);(try clear c4b1)
    obtain ⟨x6_1, rfl, HA, HK1, HB⟩ := hrel
    cases gk with
    | zero => exact absurd HA.out (by simp [val_Split.l0])
    | succ k1 =>
     have H := HA.out
     clear HA
     simp only [val_Split.l0] at H
     replace H := Option.bind_eq_some_iff.mp H
     obtain ⟨t573, A50, H⟩ := H
     replace H : (if t573 < a0 then (val_Split.l0 k1 a0 (wrap64 (x6_1 + 1))) else ((val_yearsDays.f x6_1).bind fun t574 => (val_Split.l1 k1 x6_1 (wrap64 (a0 - t574)) 1))) = some (r1, r2, r3, r4) := H
     have A5 := Z0 A50
     clear A50
     by_cases c6 : t573 < a0
     ·rw [if_pos c6] at H
      have c6b0 : decide (t573 < a0) = true := decide_eq_true c6
      clear c6
      have H' := Z0 H
      clear H
      go_wp2_with (first | ((with_reducible refine Y2 (f := 180) rfl ?_); refine goesL_ (some 19) rfl rfl Tryz.func180 (by kernel_rfl) rfl #[.int .i64 (wrap64 (x6_1 + 1))] rfl V1 ?_; (with_reducible refine (val_yearsDays.calls (wrap64 (x6_1 + 1)) t573 _ A5.out).mono ?_); rintro e w' ⟨rfl, ⟨nd, rfl⟩⟩; refine ⟨_, rfl, ?_⟩))
      go_roundg k1
      case measure => have := HK1.out; omega
      case rel => exact ⟨(wrap64 (x6_1 + 1)), V2, H', ⟨by have := HK1.out; omega⟩, ⟨V0⟩⟩
     ·rw [if_neg c6] at H
      have c6b0 : decide (t573 < a0) = false := decide_eq_false c6
      clear c6
      replace H := Option.bind_eq_some_iff.mp H
      obtain ⟨t574, A70, H⟩ := H
      replace H : (val_Split.l1 k1 x6_1 (wrap64 (a0 - t574)) 1) = some (r1, r2, r3, r4) := H
      have A7 := Z0 A70
      clear A70
      have H' := Z0 H
      clear H
      go_wp2_with (first | ((with_reducible refine Y2 (f := 180) rfl ?_); refine goesL_ (some 19) rfl rfl Tryz.func180 (by kernel_rfl) rfl #[.int .i64 (wrap64 (x6_1 + 1))] rfl V1 ?_; (with_reducible refine (val_yearsDays.calls (wrap64 (x6_1 + 1)) t573 _ A5.out).mono ?_); rintro e w' ⟨rfl, ⟨nd, rfl⟩⟩; refine ⟨_, rfl, ?_⟩) | ((with_reducible refine Y2 (f := 180) rfl ?_); refine goesL_ (some 26) rfl rfl Tryz.func180 (by kernel_rfl) rfl #[.int .i64 x6_1] rfl V1 ?_; (with_reducible refine (val_yearsDays.calls x6_1 t574 _ A7.out).mono ?_); rintro e w' ⟨rfl, ⟨nd, rfl⟩⟩; refine ⟨_, rfl, ?_⟩))
      go_loopg [7, 8] k1 (fun kq v7 v8 w' => ∃ (x7_2 : Int) (x8_2 : Int), v7 = .int .i64 x7_2 ∧ v8 = .int .i64 x8_2 ∧ Aside0 (val_Split.l1 kq x6_1 x7_2 x8_2 = some (r1, r2, r3, r4)) ∧ Aside0 (kq ≤ k1) ∧ Aside0 (Below w.heap.size w w'))
      case atStart => exact ⟨(wrap64 (a0 - t574)), (1), V2, V2, H', ⟨Nat.le_refl _⟩, ⟨V0⟩⟩
      case round =>
       clear H'
       (try clear c1);(try clear p2);(try clear c3);(try clear c4);(try clear c4b0);(try clear c4b1);(try clear c6);(try clear c6b0);(try clear p6);(try clear p2)
       obtain ⟨x7_2, x8_2, rfl, rfl, HA, HK2, HB⟩ := hrel
       cases gk with
       | zero => exact absurd HA.out (by simp [val_Split.l1])
       | succ k2 =>
        have H := HA.out
        clear HA
        simp only [val_Split.l1] at H
        replace H := Option.bind_eq_some_iff.mp H
        obtain ⟨t575, A80, H⟩ := H
        replace H : (if x7_2 > t575 then ((val_monthDays.f x6_1 x8_2).bind fun t576 => (val_Split.l1 k2 x6_1 (wrap64 (x7_2 - t576)) (wrap64 (x8_2 + 1)))) else (some (x6_1, x8_2, x7_2, 0))) = some (r1, r2, r3, r4) := H
        have A8 := Z0 A80
        clear A80
        by_cases c9 : x7_2 > t575
        ·rw [if_pos c9] at H
         have c9b0 : decide (t575 < x7_2) = true := decide_eq_true c9
         clear c9
         replace H := Option.bind_eq_some_iff.mp H
         obtain ⟨t576, A100, H⟩ := H
         replace H : (val_Split.l1 k2 x6_1 (wrap64 (x7_2 - t576)) (wrap64 (x8_2 + 1))) = some (r1, r2, r3, r4) := H
         have A10 := Z0 A100
         clear A100
         have H' := Z0 H
         clear H
         go_wp2_with (first | ((with_reducible refine Y2 (f := 179) rfl ?_); refine goesL_ (some 31) rfl rfl Tryz.func179 (by kernel_rfl) rfl #[.int .i64 x6_1, .int .i64 x8_2] rfl V1 ?_; (with_reducible refine (val_monthDays.calls x6_1 x8_2 t575 _ A8.out).mono ?_); rintro e w11 ⟨rfl, hb⟩; refine ⟨_, rfl, ?_⟩; replace HB := Z0 (Z4 HB.out hb); (try clear hb); (try clear hb2); (try clear hk); (try clear hi)) | ((with_reducible refine Y2 (f := 179) rfl ?_); refine goesL_ (some 36) rfl rfl Tryz.func179 (by kernel_rfl) rfl #[.int .i64 x6_1, .int .i64 x8_2] rfl V1 ?_; (with_reducible refine (val_monthDays.calls x6_1 x8_2 t576 _ A10.out).mono ?_); rintro e w12 ⟨rfl, hb⟩; refine ⟨_, rfl, ?_⟩; replace HB := Z0 (Z4 HB.out hb); (try clear hb); (try clear hb2); (try clear hk); (try clear hi)))
         go_roundg k2
         case measure => have := HK1.out; have := HK2.out; omega
         case rel => exact ⟨(wrap64 (x7_2 - t576)), (wrap64 (x8_2 + 1)), V2, V2, H', ⟨by have := HK1.out; have := HK2.out; omega⟩, ⟨V0⟩⟩
        ·rw [if_neg c9] at H
         have c9b0 : decide (t575 < x7_2) = false := decide_eq_false c9
         clear c9
         simp only [Option.some.injEq, Prod.mk.injEq] at H
         obtain ⟨rfl, rfl, rfl, rfl⟩ := H
         go_wp2_with (first | ((with_reducible refine Y2 (f := 179) rfl ?_); refine goesL_ (some 31) rfl rfl Tryz.func179 (by kernel_rfl) rfl #[.int .i64 x6_1, .int .i64 x8_2] rfl V1 ?_; (with_reducible refine (val_monthDays.calls x6_1 x8_2 t575 _ A8.out).mono ?_); rintro e w13 ⟨rfl, hb⟩; refine ⟨_, rfl, ?_⟩; replace HB := Z0 (Z4 HB.out hb); (try clear hb); (try clear hb2); (try clear hk); (try clear hi)))
         refine bodyPost_ret (results_list (rs := [.tmp 2, .tmp 3, .tmp 4, .tmp 5]) rfl (by simp) (.tmp (.tmp (.tmp (.tmp .nil))))) rfl ?_
         exact ⟨rfl, V0⟩
 ·replace c3 := Bool.eq_false_iff.mpr c3
  subst c3
  have H1 : (some (0, 0, 0, 1)) = some (r1, r2, r3, r4) := by rw [if_neg (show ¬ (false = true) by decide)] at H; exact H
  clear H
  have H := H1
  clear H1
  simp only [Option.some.injEq, Prod.mk.injEq] at H
  obtain ⟨rfl, rfl, rfl, rfl⟩ := H
  go_enter Tryz.func177, Tryz.ntmps177
  go_wp2_with (first | ((with_reducible refine Y2 (f := 136) rfl ?_); refine goesL_ (some 10) rfl rfl Tryz.func136 (by kernel_rfl) rfl #[.int .i64 a0] rfl V1 ?_; (with_reducible refine (val_isDay.calls a0 false _ A2.out).mono ?_); rintro e w' ⟨rfl, ⟨nd, rfl⟩⟩; refine ⟨_, rfl, ?_⟩))
  refine bodyPost_ret (results_list (rs := [.tmp 2, .tmp 3, .tmp 4, .tmp 5]) rfl (by simp) (.tmp (.tmp (.tmp (.tmp .nil))))) rfl ?_
  exact ⟨rfl, V0⟩
def val_padded.f (a0 : Int) (a1 : Int) : Option (ByteArray) := (val_decimal.f a0).bind fun t566 => ((strings_Repeat.f (⟨#[48]⟩ : ByteArray) (wrap64 (a1 - (t566.size : Int)))).bind fun t567 => (if t567.size + t566.size ≤ 9223372036854775807 then (some (t567 ++ t566)) else (none)))
set_option maxHeartbeats 8000000 in
set_option maxRecDepth 100000 in
theorem val_padded.calls (a0 : Int) (a1 : Int) (r : ByteArray) (w : World) (h : val_padded.f a0 a1 = some r) :
  Calls Tryz.prog 178 #[.int .i64 a0, .int .i64 a1] w fun e w' => e = .returned (.string r) ∧ Below w.heap.size w w' := by
 have HB := Z0 (Below.refl w.heap.size w)
 have H : ((val_decimal.f a0).bind fun t566 => ((strings_Repeat.f (⟨#[48]⟩ : ByteArray) (wrap64 (a1 - (t566.size : Int)))).bind fun t567 => (if t567.size + t566.size ≤ 9223372036854775807 then (some (t567 ++ t566)) else (none)))) = some r := h
 clear h
 replace H := Option.bind_eq_some_iff.mp H
 obtain ⟨t566, A30, H⟩ := H
 replace H : ((strings_Repeat.f (⟨#[48]⟩ : ByteArray) (wrap64 (a1 - (t566.size : Int)))).bind fun t567 => (if t567.size + t566.size ≤ 9223372036854775807 then (some (t567 ++ t566)) else (none))) = some r := H
 have A3 := Z0 A30
 clear A30
 replace H := Option.bind_eq_some_iff.mp H
 obtain ⟨t567, A40, H⟩ := H
 replace H : (if t567.size + t566.size ≤ 9223372036854775807 then (some (t567 ++ t566)) else (none)) = some r := H
 have A4 := Z0 A40
 clear A40
 by_cases c5 : t567.size + t566.size ≤ 9223372036854775807
 ·rw [if_pos c5] at H
  have c5b0 := eq_true c5
  have c5b1 : decide (t567.size + t566.size ≤ 9223372036854775807) = true := decide_eq_true c5
  try have c5b2 : (9223372036854775807 < t567.size + t566.size) = False := eq_false (Nat.not_lt.2 c5)
  obtain rfl := Option.some.inj H
  go_enter Tryz.func178, Tryz.ntmps178
  go_wp2_with (first | ((with_reducible refine Y2 (f := 98) rfl ?_); refine goesL_ (some 7) rfl rfl Tryz.func98 (by kernel_rfl) rfl #[.int .i64 a0] rfl V1 ?_; (with_reducible refine (val_decimal.calls a0 t566 _ A3.out).mono ?_); rintro e w6 ⟨rfl, hb⟩; refine ⟨_, rfl, ?_⟩; have n0_ := Z0 (Z4 HB.out hb); clear HB; have HB := n0_; clear n0_; (try clear hb); (try clear hb2); (try clear hk); (try clear hi)) | ((with_reducible refine Y2 (f := 99) rfl ?_); refine goesL_ (some 12) rfl rfl Tryz.func99 (by kernel_rfl) rfl #[.string (⟨#[48]⟩ : ByteArray), .int .i64 (wrap64 (a1 - (t566.size : Int)))] rfl V1 ?_; (with_reducible refine (strings_Repeat.calls (⟨#[48]⟩ : ByteArray) (wrap64 (a1 - (t566.size : Int))) t567 _ A4.out).mono ?_); rintro e w7 ⟨rfl, hb⟩; refine ⟨_, rfl, ?_⟩; have n0_ := Z0 (Z4 HB.out hb); clear HB; have HB := n0_; clear n0_; (try clear hb); (try clear hb2); (try clear hk); (try clear hi)))
  go_ret
  exact ⟨rfl, V0⟩
 ·rw [if_neg c5] at H
  exact absurd H (by simp)
def val_stamp.f (k : Nat) (a0 : Int) : Option (ByteArray) := (val_Split.f k a0).bind fun bt561 => ((val_padded.f bt561.1 4).bind fun t565 => ((val_padded.f bt561.2.1 2).bind fun t566 => (if t565.size + t566.size ≤ 9223372036854775807 then ((val_padded.f bt561.2.2.1 2).bind fun t567 => (if (t565 ++ t566).size + t567.size ≤ 9223372036854775807 then (some ((t565 ++ t566) ++ t567)) else (none))) else (none))))
theorem val_stamp.mono : ∀ a0 k, LeO (val_stamp.f k a0) (val_stamp.f (k + 1) a0) := by
 intro a0 k
 unfold val_stamp.f
 repeat' first
   | (with_reducible exact val_Split.mono _ _)
   | (with_reducible exact LeO.refl _)
   | (with_reducible exact LeO.none _)
   | (with_reducible refine LeO.ite ?_ ?_)
   | (with_reducible refine LeO.bind ?_ (fun _ => ?_))
set_option maxHeartbeats 8000000 in
set_option maxRecDepth 100000 in
theorem val_stamp.calls (k : Nat) (a0 : Int) (r : ByteArray) (w : World) (h : val_stamp.f k a0 = some r) :
  Calls Tryz.prog 167 #[.int .i64 a0] w fun e w' => e = .returned (.string r) ∧ Below w.heap.size w w' := by
 have HB := Z0 (Below.refl w.heap.size w)
 have H : ((val_Split.f k a0).bind fun bt561 => ((val_padded.f bt561.1 4).bind fun t565 => ((val_padded.f bt561.2.1 2).bind fun t566 => (if t565.size + t566.size ≤ 9223372036854775807 then ((val_padded.f bt561.2.2.1 2).bind fun t567 => (if (t565 ++ t566).size + t567.size ≤ 9223372036854775807 then (some ((t565 ++ t566) ++ t567)) else (none))) else (none))))) = some r := h
 clear h
 replace H := Option.bind_eq_some_iff.mp H
 obtain ⟨⟨t561, t562, t563, t564⟩, A20, H⟩ := H
 replace H : ((val_padded.f t561 4).bind fun t565 => ((val_padded.f t562 2).bind fun t566 => (if t565.size + t566.size ≤ 9223372036854775807 then ((val_padded.f t563 2).bind fun t567 => (if (t565 ++ t566).size + t567.size ≤ 9223372036854775807 then (some ((t565 ++ t566) ++ t567)) else (none))) else (none)))) = some r := H
 have A2 := Z0 A20
 clear A20
 replace H := Option.bind_eq_some_iff.mp H
 obtain ⟨t565, A30, H⟩ := H
 replace H : ((val_padded.f t562 2).bind fun t566 => (if t565.size + t566.size ≤ 9223372036854775807 then ((val_padded.f t563 2).bind fun t567 => (if (t565 ++ t566).size + t567.size ≤ 9223372036854775807 then (some ((t565 ++ t566) ++ t567)) else (none))) else (none))) = some r := H
 have A3 := Z0 A30
 clear A30
 replace H := Option.bind_eq_some_iff.mp H
 obtain ⟨t566, A40, H⟩ := H
 replace H : (if t565.size + t566.size ≤ 9223372036854775807 then ((val_padded.f t563 2).bind fun t567 => (if (t565 ++ t566).size + t567.size ≤ 9223372036854775807 then (some ((t565 ++ t566) ++ t567)) else (none))) else (none)) = some r := H
 have A4 := Z0 A40
 clear A40
 by_cases c5 : t565.size + t566.size ≤ 9223372036854775807
 ·rw [if_pos c5] at H
  have c5b0 := eq_true c5
  have c5b1 : decide (t565.size + t566.size ≤ 9223372036854775807) = true := decide_eq_true c5
  try have c5b2 : (9223372036854775807 < t565.size + t566.size) = False := eq_false (Nat.not_lt.2 c5)
  replace H := Option.bind_eq_some_iff.mp H
  obtain ⟨t567, A60, H⟩ := H
  replace H : (if (t565 ++ t566).size + t567.size ≤ 9223372036854775807 then (some ((t565 ++ t566) ++ t567)) else (none)) = some r := H
  have A6 := Z0 A60
  clear A60
  by_cases c7 : (t565 ++ t566).size + t567.size ≤ 9223372036854775807
  ·rw [if_pos c7] at H
   have c7b0 := eq_true c7
   have c7b1 : decide ((t565 ++ t566).size + t567.size ≤ 9223372036854775807) = true := decide_eq_true c7
   try have c7b2 : (9223372036854775807 < (t565 ++ t566).size + t567.size) = False := eq_false (Nat.not_lt.2 c7)
   have c7b3 : (9223372036854775807 < t565.size + t566.size + t567.size) = False := eq_false (by rw [ByteArray.size_append] at c7; omega)
   obtain rfl := Option.some.inj H
   go_enter Tryz.func167, Tryz.ntmps167
   go_wp2_with (first | ((with_reducible refine Y2 (f := 177) rfl ?_); refine goesL_ (some 9) rfl rfl Tryz.func177 (by kernel_rfl) rfl #[.int .i64 a0] rfl V1 ?_; (with_reducible refine (val_Split.calls k a0 t561 t562 t563 t564 _ A2.out).mono ?_); rintro e w8 ⟨rfl, hb⟩; refine ⟨_, rfl, ?_⟩; replace HB := Z0 (Z4 HB.out hb); (try clear hb); (try clear hb2); (try clear hk); (try clear hi)) | ((with_reducible refine Y2 (f := 178) rfl ?_); refine goesL_ (some 15) rfl rfl Tryz.func178 (by kernel_rfl) rfl #[.int .i64 t561, .int .i64 4] rfl V1 ?_; (with_reducible refine (val_padded.calls t561 4 t565 _ A3.out).mono ?_); rintro e w9 ⟨rfl, hb⟩; refine ⟨_, rfl, ?_⟩; replace HB := Z0 (Z4 HB.out hb); (try clear hb); (try clear hb2); (try clear hk); (try clear hi)) | ((with_reducible refine Y2 (f := 178) rfl ?_); refine goesL_ (some 17) rfl rfl Tryz.func178 (by kernel_rfl) rfl #[.int .i64 t562, .int .i64 2] rfl V1 ?_; (with_reducible refine (val_padded.calls t562 2 t566 _ A4.out).mono ?_); rintro e w10 ⟨rfl, hb⟩; refine ⟨_, rfl, ?_⟩; replace HB := Z0 (Z4 HB.out hb); (try clear hb); (try clear hb2); (try clear hk); (try clear hi)) | ((with_reducible refine Y2 (f := 178) rfl ?_); refine goesL_ (some 20) rfl rfl Tryz.func178 (by kernel_rfl) rfl #[.int .i64 t563, .int .i64 2] rfl V1 ?_; (with_reducible refine (val_padded.calls t563 2 t567 _ A6.out).mono ?_); rintro e w11 ⟨rfl, hb⟩; refine ⟨_, rfl, ?_⟩; replace HB := Z0 (Z4 HB.out hb); (try clear hb); (try clear hb2); (try clear hk); (try clear hi)))
   go_ret
   exact ⟨rfl, V0⟩
  ·rw [if_neg c7] at H
   exact absurd H (by simp)
 ·rw [if_neg c5] at H
  exact absurd H (by simp)
end Go.Proofs.YtldpdidlfbphcaaGreatDoor.P
end
