/- Part 5 of this proof: what the last part leans on. -/
import Derived.Test.YtldpdidlfbphcaaGreatDoorBFits4
set_option linter.unusedVariables false
set_option linter.unusedSimpArgs false
section
namespace Go.Proofs.YtldpdidlfbphcaaGreatDoor.P
open Go.RowKit Go.Proofs.YtldpdidlfbphcaaGreatDoorW.PrintWords Go.Proofs.YtldpdidlfbphcaaGreatDoorW.PrintLast Go.Proofs.YtldpdidlfbphcaaGreatDoorW.PrintMore
attribute [local go_sem] max2_int min2_int max_two min_two max_three min_three max_four min_four
mutual
def table_Validate.l0 : Nat → List (S46) → Int → Int → Int → List (S23) → List (S46) → Option (Int)
  | 0, _, _, _, _, _, _ => none
  | k + 1, x23, x24, x25, x183000, x183001, x183002 => if x25 < x24 then (if 0 ≤ x25 then (if x25 < (x23.length : Int) then (if (((rd_T46 x23 x25).f1).length : Int) = (x183001.length : Int) then (table_Validate.l1 k x23 x24 x25 x183001 (x183001.length : Int) 0 x183000 x183001 x183002 ((rd_T46 x23 x25).f0) ((rd_T46 x23 x25).f1)) else (some 10)) else (none)) else (none)) else (some 0)
def table_Validate.l1 : Nat → List (S46) → Int → Int → List (S23) → Int → Int → Int → List (S23) → List (S46) → Bool → List (S25) → Option (Int)
  | 0, _, _, _, _, _, _, _, _, _, _, _ => none
  | k + 1, x23, x24, x25, x37, x38, x39, x183000, x183001, x183002, x187000, x187001 => if x39 < x38 then (if 0 ≤ x39 then (if x39 < (x37.length : Int) then (if x39 < (x187001.length : Int) then ((table_holds.f k ((rd_T23 x37 x39).f0) ((rd_T23 x37 x39).f1) ((rd_T23 x37 x39).f2) ((rd_T23 x37 x39).f3) x183000 ((rd_T25 x187001 x39).f0) ((rd_T25 x187001 x39).f1) ((rd_T25 x187001 x39).f2)).bind fun t190 => (if t190 = true then (table_Validate.l1 k x23 x24 x25 x37 x38 (wrap64 (x39 + 1)) x183000 x183001 x183002 x187000 x187001) else (some 1))) else (none)) else (none)) else (none)) else (table_Validate.l0 k x23 x24 (wrap64 (x25 + 1)) x183000 x183001 x183002)
end
def table_Validate.f (k : Nat) (a0_0 : Int) (l0_1 : List (S23)) (l0_2 : List (S46)) : Option (Int) := (table_isPage.f a0_0).bind fun t183 => (if t183 = true then ((table_ValidateFields.f l0_1).bind fun t184 => (if t184 = 0 then (if (l0_2.length : Int) > 300 then (some 3) else (table_Validate.l0 k l0_2 (l0_2.length : Int) 0 a0_0 l0_1 l0_2)) else (some t184))) else (some 1))
theorem table_Validate.mono_l : ∀ k, (∀ y0 y1 y2 y3 y4 y5, LeO (table_Validate.l0 k y0 y1 y2 y3 y4 y5) (table_Validate.l0 (k + 1) y0 y1 y2 y3 y4 y5)) ∧ (∀ y0 y1 y2 y3 y4 y5 y6 y7 y8 y9 y10, LeO (table_Validate.l1 k y0 y1 y2 y3 y4 y5 y6 y7 y8 y9 y10) (table_Validate.l1 (k + 1) y0 y1 y2 y3 y4 y5 y6 y7 y8 y9 y10))
  | 0 => ⟨fun _ _ _ _ _ _ r h => by simp [table_Validate.l0] at h, fun _ _ _ _ _ _ _ _ _ _ _ r h => by simp [table_Validate.l1] at h⟩
  | k + 1 => by
    obtain ⟨ih0, ih1⟩ := table_Validate.mono_l k
    refine ⟨?_, ?_⟩
    · intro y0 y1 y2 y3 y4 y5
      unfold table_Validate.l0
      repeat' first
      | (with_reducible exact ih0 _ _ _ _ _ _)
      | (with_reducible exact ih1 _ _ _ _ _ _ _ _ _ _ _)
      | (with_reducible exact table_holds.mono _ _ _ _ _ _ _ _ _)
      | (with_reducible exact LeO.refl _)
      | (with_reducible exact LeO.none _)
      | (with_reducible refine LeO.ite ?_ ?_)
      | (with_reducible refine LeO.bind ?_ (fun _ => ?_))
      | exact ih0 _ _ _ _ _ _
      | exact ih1 _ _ _ _ _ _ _ _ _ _ _
      | exact table_holds.mono _ _ _ _ _ _ _ _ _
      | exact LeO.none _
      | refine LeO.ite ?_ ?_
      | refine LeO.bind ?_ (fun _ => ?_)
    · intro y0 y1 y2 y3 y4 y5 y6 y7 y8 y9 y10
      unfold table_Validate.l1
      repeat' first
      | (with_reducible exact ih0 _ _ _ _ _ _)
      | (with_reducible exact ih1 _ _ _ _ _ _ _ _ _ _ _)
      | (with_reducible exact table_holds.mono _ _ _ _ _ _ _ _ _)
      | (with_reducible exact LeO.refl _)
      | (with_reducible exact LeO.none _)
      | (with_reducible refine LeO.ite ?_ ?_)
      | (with_reducible refine LeO.bind ?_ (fun _ => ?_))
      | exact ih0 _ _ _ _ _ _
      | exact ih1 _ _ _ _ _ _ _ _ _ _ _
      | exact table_holds.mono _ _ _ _ _ _ _ _ _
      | exact LeO.none _
      | refine LeO.ite ?_ ?_
      | refine LeO.bind ?_ (fun _ => ?_)
theorem table_Validate.mono : ∀ a0 a1 a2 k, LeO (table_Validate.f k a0 a1 a2) (table_Validate.f (k + 1) a0 a1 a2) := by
  intro a0 a1 a2 k
  obtain ⟨ih0, ih1⟩ := table_Validate.mono_l k
  unfold table_Validate.f
  repeat' first
      | (with_reducible exact ih0 _ _ _ _ _ _)
      | (with_reducible exact ih1 _ _ _ _ _ _ _ _ _ _ _)
      | (with_reducible exact table_holds.mono _ _ _ _ _ _ _ _ _)
      | (with_reducible exact LeO.refl _)
      | (with_reducible exact LeO.none _)
      | (with_reducible refine LeO.ite ?_ ?_)
      | (with_reducible refine LeO.bind ?_ (fun _ => ?_))
      | exact ih0 _ _ _ _ _ _
      | exact ih1 _ _ _ _ _ _ _ _ _ _ _
      | exact table_holds.mono _ _ _ _ _ _ _ _ _
      | exact LeO.none _
      | refine LeO.ite ?_ ?_
      | refine LeO.bind ?_ (fun _ => ?_)
def table_Validate.T16 : Bool × List (List Nat × List Nat) := (true, [([], []), ([], []), ([1], [1]), ([], []), ([3], [3]), ([], []), ([4, 5], [4, 5]), ([6], [6]), ([0, 2, 7], [0, 2, 7]), ([8], [8])])
def table_Validate.B16 : List Nat := [0, 0, 2, 0, 8, 0, 56, 120, 255, 511]
theorem table_Validate.tab16 : rtab .any (opsOf Tryz.f34 16) = table_Validate.T16 := by kernel_rfl
theorem table_Validate.bits16 : waitsOk table_Validate.T16.2 table_Validate.B16 = true := by kernel_rfl
set_option maxHeartbeats 8000000 in
set_option maxRecDepth 100000 in
theorem table_Validate.calls (k : Nat) (a0_0 : Int) (A0_1 : Option Addr) (c0_1 : Nat) (l0_1 : List (S23)) (A0_2 : Option Addr) (c0_2 : Nat) (l0_2 : List (S46)) (r : Int) (w : World) (hr0_1 : Kd.C k23 w A0_1 l0_1.length l0_1) (hc0_1 : l0_1.length ≤ c0_1) (hr0_2 : Kd.C k46 w A0_2 l0_2.length l0_2) (hc0_2 : l0_2.length ≤ c0_2) (h : table_Validate.f k a0_0 l0_1 l0_2 = some r) :
    Calls Tryz.prog 34 #[.agg #[.int .i64 a0_0, .slice A0_1 l0_1.length c0_1, .slice A0_2 l0_2.length c0_2]] w fun e w' => e = .returned (.int .i64 r) ∧ Below w.heap.size w w' := by
  have hu35 := Tryz.underlying35
  have hu46 := Tryz.underlying46
  have hu23 := Tryz.underlying23
  have hu25 := Tryz.underlying25
  have HR0_1 := Aside0.mk hr0_1
  have HC0_1 := Aside0.mk hc0_1
  clear hr0_1 hc0_1
  have HR0_2 := Aside0.mk hr0_2
  have HC0_2 := Aside0.mk hc0_2
  clear hr0_2 hc0_2
  have HB := Aside0.mk (Below.refl w.heap.size w)
  have H : ((table_isPage.f a0_0).bind fun t183 => (if t183 = true then ((table_ValidateFields.f l0_1).bind fun t184 => (if t184 = 0 then (if (l0_2.length : Int) > 300 then (some 3) else (table_Validate.l0 k l0_2 (l0_2.length : Int) 0 a0_0 l0_1 l0_2)) else (some t184))) else (some 1))) = some r := h
  clear h
  replace H := Option.bind_eq_some_iff.mp H
  obtain ⟨t183, A20, H⟩ := H
  replace H : (if t183 = true then ((table_ValidateFields.f l0_1).bind fun t184 => (if t184 = 0 then (if (l0_2.length : Int) > 300 then (some 3) else (table_Validate.l0 k l0_2 (l0_2.length : Int) 0 a0_0 l0_1 l0_2)) else (some t184))) else (some 1)) = some r := H
  have A2 := Aside0.mk A20
  clear A20
  by_cases c3 : t183 = true
  · subst c3
    have H1 : ((table_ValidateFields.f l0_1).bind fun t184 => (if t184 = 0 then (if (l0_2.length : Int) > 300 then (some 3) else (table_Validate.l0 k l0_2 (l0_2.length : Int) 0 a0_0 l0_1 l0_2)) else (some t184))) = some r := by rw [if_pos rfl] at H; exact H
    clear H
    have H := H1
    clear H1
    replace H := Option.bind_eq_some_iff.mp H
    obtain ⟨t184, A40, H⟩ := H
    replace H : (if t184 = 0 then (if (l0_2.length : Int) > 300 then (some 3) else (table_Validate.l0 k l0_2 (l0_2.length : Int) 0 a0_0 l0_1 l0_2)) else (some t184)) = some r := H
    have A4 := Aside0.mk A40
    clear A40
    by_cases c5 : t184 = 0
    · rw [if_pos c5] at H
      have c5b0 : (t184 == 0) = true := beq_iff_eq.mpr c5
      have c5b1 : (t184 != 0) = false := bne_eq_false_iff_eq.mpr c5
      clear c5
      by_cases c6 : (l0_2.length : Int) > 300
      · rw [if_pos c6] at H
        have c6b0 : decide (300 < (l0_2.length : Int)) = true := decide_eq_true c6
        have c6b1 : decide (300 < l0_2.length) = true := decide_eq_true (by omega)
        clear c6
        obtain rfl := Option.some.inj H
        go_enter Tryz.func34, Tryz.ntmps34
        go_wp2_with (first | ((with_reducible refine gate_dst (N := 1) rfl ?_); refine box_event ?hg (N := 1) ?hd (cs := #[.int .i64 a0_0, .slice A0_1 l0_1.length c0_1, .slice A0_2 l0_2.length c0_2]) (t := 35) ?hr ?_; (case hd => rfl); (case hg => rfl); (case hr => go_simp; try rfl); intro gb182 hg w7 hbox hb; have n0_ := Aside0.mk (below_step (by repeat (first | (with_reducible first | exact HB.out | apply below_alloc | apply pw_below_drewN | apply below_drew1) | exact HB.out)) hb); have n1_ := Aside0.mk (hbox); have n3_ := Aside0.mk ((by rw [hg]; exact (below_size (by repeat (first | (with_reducible first | exact HB.out | apply below_alloc | apply pw_below_drewN | apply below_drew1) | exact HB.out))) : w.heap.size ≤ gb182)); clear HB; have HB := n0_; have BK182 := n1_; have GE182 := n3_; clear n0_ n1_ n3_; clear hb hbox hg; have hcz8_0 : w7.cell? ⟨gb182, 0, none⟩ = some (.int .i64 a0_0) := (blk_cell BK182.out 0).trans rfl; have hcz8_1 : w7.cell? ⟨gb182, 1, none⟩ = some (.slice A0_1 l0_1.length c0_1) := (blk_cell BK182.out 1).trans rfl; have hcz8_2 : w7.cell? ⟨gb182, 2, none⟩ = some (.slice A0_2 l0_2.length c0_2) := (blk_cell BK182.out 2).trans rfl; have hfz8_0 := blk_frozen BK182.out 0; have hfz8_1 := blk_frozen BK182.out 1; have hfz8_2 := blk_frozen BK182.out 2) | ((with_reducible refine gate_callee (f := 48) rfl ?_); refine goesL_ (some 10) rfl rfl Tryz.func48 (by kernel_rfl) rfl #[.int .i64 a0_0] rfl (by (try simp only [List.map_toArray, List.map_cons, List.map_nil]); first | done | rfl) ?_; (with_reducible refine (table_isPage.calls a0_0 true _ A2.out).mono ?_); rintro e w' ⟨rfl, ⟨nd, rfl⟩⟩; refine ⟨_, rfl, ?_⟩) | ((with_reducible refine gate_callee (f := 36) rfl ?_); refine goesL_ (some 14) rfl rfl Tryz.func36 (by kernel_rfl) rfl #[.slice A0_1 l0_1.length c0_1] rfl (by (try simp only [List.map_toArray, List.map_cons, List.map_nil]); first | done | rfl) ?_; (with_reducible refine (table_ValidateFields.calls _ _ l0_1 t184 _ ?side1 ?side2 A4.out).mono ?_); (case side1 => repeat (first | exact (Kd.C_below HR0_1.out (by repeat (first | (with_reducible first | exact HB.out | apply below_alloc | apply pw_below_drewN | apply below_drew1 | refine below_set ?_ GE182.out) | exact HB.out))) | (with_reducible refine Kd.C_alloc ?_ _) | (with_reducible refine Kd.C_drewN ?_ _) | (with_reducible refine Kd.C_drew ?_))); (case side2 => exact HC0_1.out); rintro e w9 ⟨rfl, hb⟩; refine ⟨_, rfl, ?_⟩; have n0_ := Aside0.mk (blk_below (g := gb182) (o := .cells #[.int .i64 a0_0, .slice A0_1 l0_1.length c0_1, .slice A0_2 l0_2.length c0_2] 35 (0, 0)) (by (with_reducible repeat (first | refine blk_drewN ?_ _ | refine blk_drew ?_ | refine blk_alloc ?_ _)); exact BK182.out) hb); have n1_ := Aside0.mk (below_step (by repeat (first | (with_reducible first | exact HB.out | apply below_alloc | apply pw_below_drewN | apply below_drew1 | refine below_set ?_ GE182.out) | exact HB.out)) hb); clear BK182; clear HB; have BK182 := n0_; have HB := n1_; clear n0_ n1_; (try clear hb); (try clear hb2); (try clear hk); (try clear hi); have hcz10_0 : w9.cell? ⟨gb182, 0, none⟩ = some (.int .i64 a0_0) := (blk_cell BK182.out 0).trans rfl; have hcz10_1 : w9.cell? ⟨gb182, 1, none⟩ = some (.slice A0_1 l0_1.length c0_1) := (blk_cell BK182.out 1).trans rfl; have hcz10_2 : w9.cell? ⟨gb182, 2, none⟩ = some (.slice A0_2 l0_2.length c0_2) := (blk_cell BK182.out 2).trans rfl; have hfz10_0 := blk_frozen BK182.out 0; have hfz10_1 := blk_frozen BK182.out 1; have hfz10_2 := blk_frozen BK182.out 2))
        go_ret
        exact ⟨rfl, by repeat (first | (with_reducible first | exact HB.out | apply below_alloc | apply pw_below_drewN | apply below_drew1 | refine below_set ?_ GE182.out) | exact HB.out)⟩
      · rw [if_neg c6] at H
        have c6b0 : decide (300 < (l0_2.length : Int)) = false := decide_eq_false c6
        have c6b1 : decide (300 < l0_2.length) = false := decide_eq_false (by omega)
        clear c6
        have H' := Aside0.mk H
        clear H
        go_enter Tryz.func34, Tryz.ntmps34
        go_wp2_with (first | ((with_reducible refine gate_dst (N := 1) rfl ?_); refine box_event ?hg (N := 1) ?hd (cs := #[.int .i64 a0_0, .slice A0_1 l0_1.length c0_1, .slice A0_2 l0_2.length c0_2]) (t := 35) ?hr ?_; (case hd => rfl); (case hg => rfl); (case hr => go_simp; try rfl); intro gb182 hg w11 hbox hb; have n0_ := Aside0.mk (below_step (by repeat (first | (with_reducible first | exact HB.out | apply below_alloc | apply pw_below_drewN | apply below_drew1) | exact HB.out)) hb); have n1_ := Aside0.mk (hbox); have n3_ := Aside0.mk ((by rw [hg]; exact (below_size (by repeat (first | (with_reducible first | exact HB.out | apply below_alloc | apply pw_below_drewN | apply below_drew1) | exact HB.out))) : w.heap.size ≤ gb182)); clear HB; have HB := n0_; have BK182 := n1_; have GE182 := n3_; clear n0_ n1_ n3_; clear hb hbox hg; have hcz12_0 : w11.cell? ⟨gb182, 0, none⟩ = some (.int .i64 a0_0) := (blk_cell BK182.out 0).trans rfl; have hcz12_1 : w11.cell? ⟨gb182, 1, none⟩ = some (.slice A0_1 l0_1.length c0_1) := (blk_cell BK182.out 1).trans rfl; have hcz12_2 : w11.cell? ⟨gb182, 2, none⟩ = some (.slice A0_2 l0_2.length c0_2) := (blk_cell BK182.out 2).trans rfl; have hfz12_0 := blk_frozen BK182.out 0; have hfz12_1 := blk_frozen BK182.out 1; have hfz12_2 := blk_frozen BK182.out 2) | ((with_reducible refine gate_callee (f := 48) rfl ?_); refine goesL_ (some 10) rfl rfl Tryz.func48 (by kernel_rfl) rfl #[.int .i64 a0_0] rfl (by (try simp only [List.map_toArray, List.map_cons, List.map_nil]); first | done | rfl) ?_; (with_reducible refine (table_isPage.calls a0_0 true _ A2.out).mono ?_); rintro e w' ⟨rfl, ⟨nd, rfl⟩⟩; refine ⟨_, rfl, ?_⟩) | ((with_reducible refine gate_callee (f := 36) rfl ?_); refine goesL_ (some 14) rfl rfl Tryz.func36 (by kernel_rfl) rfl #[.slice A0_1 l0_1.length c0_1] rfl (by (try simp only [List.map_toArray, List.map_cons, List.map_nil]); first | done | rfl) ?_; (with_reducible refine (table_ValidateFields.calls _ _ l0_1 t184 _ ?side1 ?side2 A4.out).mono ?_); (case side1 => repeat (first | exact (Kd.C_below HR0_1.out (by repeat (first | (with_reducible first | exact HB.out | apply below_alloc | apply pw_below_drewN | apply below_drew1 | refine below_set ?_ GE182.out) | exact HB.out))) | (with_reducible refine Kd.C_alloc ?_ _) | (with_reducible refine Kd.C_drewN ?_ _) | (with_reducible refine Kd.C_drew ?_))); (case side2 => exact HC0_1.out); rintro e w13 ⟨rfl, hb⟩; refine ⟨_, rfl, ?_⟩; have n0_ := Aside0.mk (blk_below (g := gb182) (o := .cells #[.int .i64 a0_0, .slice A0_1 l0_1.length c0_1, .slice A0_2 l0_2.length c0_2] 35 (0, 0)) (by (with_reducible repeat (first | refine blk_drewN ?_ _ | refine blk_drew ?_ | refine blk_alloc ?_ _)); exact BK182.out) hb); have n1_ := Aside0.mk (below_step (by repeat (first | (with_reducible first | exact HB.out | apply below_alloc | apply pw_below_drewN | apply below_drew1 | refine below_set ?_ GE182.out) | exact HB.out)) hb); clear BK182; clear HB; have BK182 := n0_; have HB := n1_; clear n0_ n1_; (try clear hb); (try clear hb2); (try clear hk); (try clear hi); have hcz14_0 : w13.cell? ⟨gb182, 0, none⟩ = some (.int .i64 a0_0) := (blk_cell BK182.out 0).trans rfl; have hcz14_1 : w13.cell? ⟨gb182, 1, none⟩ = some (.slice A0_1 l0_1.length c0_1) := (blk_cell BK182.out 1).trans rfl; have hcz14_2 : w13.cell? ⟨gb182, 2, none⟩ = some (.slice A0_2 l0_2.length c0_2) := (blk_cell BK182.out 2).trans rfl; have hfz14_0 := blk_frozen BK182.out 0; have hfz14_1 := blk_frozen BK182.out 1; have hfz14_2 := blk_frozen BK182.out 2))
        go_loopg [25] k (fun kq v25 w' => ∃ (x25_1 : Int), v25 = .int .i64 x25_1 ∧ Aside0 (table_Validate.l0 kq l0_2 (l0_2.length : Int) x25_1 a0_0 l0_1 l0_2 = some r) ∧ Aside0 (kq ≤ k) ∧ Aside0 (w'.heap[gb182]? = some (.cells #[.int .i64 a0_0, (.slice A0_1 l0_1.length c0_1), (.slice A0_2 l0_2.length c0_2)] 35 (0, 0))) ∧ Aside0 (Below w.heap.size w w'))
        case atStart => exact ⟨(0), (by first | rfl | (simp; done) | (simp [*]; done)), H', ⟨Nat.le_refl _⟩, ⟨by (with_reducible repeat (first | refine blk_drewN ?_ _ | refine blk_drew ?_ | refine blk_alloc ?_ _)); exact BK182.out⟩, ⟨by repeat (first | (with_reducible first | exact HB.out | apply below_alloc | apply pw_below_drewN | apply below_drew1 | refine below_set ?_ GE182.out) | exact HB.out)⟩⟩
        case round =>
          clear H'
          (try clear p2);(try clear c3);(try clear c4);(try clear c5);(try clear c5b0);(try clear c5b1);(try clear c6);(try clear c6b0);(try clear c6b1);(try clear hcz10_0);(try clear hcz10_1);(try clear hcz10_2);(try clear hcz12_0);(try clear hcz12_1);(try clear hcz12_2);(try clear hcz14_0);(try clear hcz14_1);(try clear hcz14_2);(try clear hcz8_0);(try clear hcz8_1);(try clear hcz8_2);(try clear hfz10_0);(try clear hfz10_1);(try clear hfz10_2);(try clear hfz12_0);(try clear hfz12_1);(try clear hfz12_2);(try clear hfz14_0);(try clear hfz14_1);(try clear hfz14_2);(try clear hfz8_0);(try clear hfz8_1);(try clear hfz8_2)
          obtain ⟨x25_1, rfl, HA, HK1, BK182, HB⟩ := hrel
          cases gk with
          | zero => exact absurd HA.out (by simp [table_Validate.l0])
          | succ k1 =>
            have H := HA.out
            clear HA
            simp only [table_Validate.l0] at H
            by_cases c15 : x25_1 < (l0_2.length : Int)
            · rw [if_pos c15] at H
              have c15b0 : decide (x25_1 < (l0_2.length : Int)) = true := decide_eq_true c15
              clear c15
              by_cases c16 : 0 ≤ x25_1
              · rw [if_pos c16] at H
                have c16b0 : decide (0 ≤ x25_1) = true := decide_eq_true c16
                clear c16
                by_cases c17 : x25_1 < (l0_2.length : Int)
                · rw [if_pos c17] at H
                  have c17b0 : decide (x25_1 < (l0_2.length : Int)) = true := decide_eq_true c17
                  clear c17
                  by_cases c18 : (((rd_T46 l0_2 x25_1).f1).length : Int) = (l0_1.length : Int)
                  · rw [if_pos c18] at H
                    have c18b0 : ((((rd_T46 l0_2 x25_1).f1).length : Int) == (l0_1.length : Int)) = true := beq_iff_eq.mpr c18
                    have c18b1 : ((((rd_T46 l0_2 x25_1).f1).length : Int) != (l0_1.length : Int)) = false := bne_eq_false_iff_eq.mpr c18
                    have c18b2 : (((rd_T46 l0_2 x25_1).f1).length == l0_1.length) = true := by first | simpa using c18 | (simp at c18 ⊢; omega)
                    clear c18
                    have H' := Aside0.mk H
                    clear H
                    have p185 : 0 ≤ (x25_1 : Int) := of_decide_eq_true (by first | (with_reducible assumption) | assumption)
                    have q185 : x25_1 < (l0_2.length : Int) := of_decide_eq_true (by first | (with_reducible assumption) | assumption)
                    obtain ⟨ad185, A185_1, c185_1, e185, hx185_0, hx185_1, hl185_1, hi185_1⟩ := at_T46 HR0_2.out x25_1 p185 q185
                    cases e185
                    replace hx185_0 := (HB.out.cell (World.block_lt_of_cell? w _ hx185_0)).trans hx185_0
                    replace hx185_1 := (HB.out.cell (World.block_lt_of_cell? w _ hx185_1)).trans hx185_1
                    have HR185_1 := Aside0.mk hi185_1
                    have HC185_1 := Aside0.mk hl185_1
                    clear hi185_1 hl185_1
                    replace p185 := eq_true p185
                    replace q185 := eq_true q185
                    go_wp2_with (first | ((with_reducible refine gate_dst (N := 5) rfl ?_); refine box_event ?hg (N := 5) ?hd (cs := #[.bool false, .slice none 0 0]) (t := 46) ?hr ?_; (case hd => rfl); (case hg => rfl); (case hr => go_simp; try rfl); intro gb186 hg w19 hbox hb; have n0_ := Aside0.mk (blk_below (g := gb182) (o := .cells #[.int .i64 a0_0, .slice A0_1 l0_1.length c0_1, .slice (some ad185) l0_2.length c0_2] 35 (0, 0)) (by (with_reducible repeat (first | refine blk_drewN ?_ _ | refine blk_drew ?_ | refine blk_alloc ?_ _)); exact BK182.out) hb); have n1_ := Aside0.mk (below_step (by repeat (first | (with_reducible first | exact HB.out | apply below_alloc | apply pw_below_drewN | apply below_drew1 | refine below_set ?_ GE182.out) | exact HB.out)) hb); have n2_ := Aside0.mk (hbox); have n4_ := Aside0.mk ((by rw [hg]; exact (below_size (by repeat (first | (with_reducible first | exact HB.out | apply below_alloc | apply pw_below_drewN | apply below_drew1 | refine below_set ?_ GE182.out) | exact HB.out))) : w.heap.size ≤ gb186)); have n5_ := Aside0.mk ((by rw [hg]; exact Nat.ne_of_lt (blk_lt (g := gb182) (o := .cells #[.int .i64 a0_0, .slice A0_1 l0_1.length c0_1, .slice (some ad185) l0_2.length c0_2] 35 (0, 0)) (by (with_reducible repeat (first | refine blk_drewN ?_ _ | refine blk_drew ?_ | refine blk_alloc ?_ _)); exact BK182.out)) : gb182 ≠ gb186)); have n6_ := Aside0.mk ((by rw [hg]; exact Nat.ne_of_gt (blk_lt (g := gb182) (o := .cells #[.int .i64 a0_0, .slice A0_1 l0_1.length c0_1, .slice (some ad185) l0_2.length c0_2] 35 (0, 0)) (by (with_reducible repeat (first | refine blk_drewN ?_ _ | refine blk_drew ?_ | refine blk_alloc ?_ _)); exact BK182.out)) : gb186 ≠ gb182)); clear BK182; clear HB; have BK182 := n0_; have HB := n1_; have BK186 := n2_; have GE186 := n4_; have NB182_186 := n5_; have NB186_182 := n6_; clear n0_ n1_ n2_ n4_ n5_ n6_; clear hb hbox hg; have hnb20 := NB186_182.out; have hnc20 := NB182_186.out; have hcz21_0 : w19.cell? ⟨gb186, 0, none⟩ = some (.bool false) := (blk_cell BK186.out 0).trans rfl; have hcz21_1 : w19.cell? ⟨gb186, 1, none⟩ = some (.slice none 0 0) := (blk_cell BK186.out 1).trans rfl; have hfz21_0 := blk_frozen BK186.out 0; have hfz21_1 := blk_frozen BK186.out 1; have hcz22_0 : w19.cell? ⟨gb182, 0, none⟩ = some (.int .i64 a0_0) := (blk_cell BK182.out 0).trans rfl; have hcz22_1 : w19.cell? ⟨gb182, 1, none⟩ = some (.slice A0_1 l0_1.length c0_1) := (blk_cell BK182.out 1).trans rfl; have hcz22_2 : w19.cell? ⟨gb182, 2, none⟩ = some (.slice (some ad185) l0_2.length c0_2) := (blk_cell BK182.out 2).trans rfl; have hfz22_0 := blk_frozen BK182.out 0; have hfz22_1 := blk_frozen BK182.out 1; have hfz22_2 := blk_frozen BK182.out 2))
                    go_loopg [39] k1 (fun kq v39 w' => ∃ (x39_2 : Int), v39 = .int .i64 x39_2 ∧ Aside0 (table_Validate.l1 kq l0_2 (l0_2.length : Int) x25_1 l0_1 (l0_1.length : Int) x39_2 a0_0 l0_1 l0_2 ((rd_T46 l0_2 x25_1).f0) ((rd_T46 l0_2 x25_1).f1) = some r) ∧ Aside0 (kq ≤ k1) ∧ Aside0 (w'.heap[gb182]? = some (.cells #[.int .i64 a0_0, (.slice A0_1 l0_1.length c0_1), (.slice (some ad185) l0_2.length c0_2)] 35 (0, 0))) ∧ Aside0 (w'.heap[gb186]? = some (.cells #[.bool ((rd_T46 l0_2 x25_1).f0), (.slice A185_1 ((rd_T46 l0_2 x25_1).f1).length c185_1)] 46 (0, 0))) ∧ Aside0 (Below w.heap.size w w'))
                    case atStart => exact ⟨(0), (by first | rfl | (simp; done) | (simp [*]; done)), H', ⟨Nat.le_refl _⟩, ⟨by (with_reducible repeat (first | refine blk_drewN ?_ _ | refine blk_drew ?_ | refine blk_alloc ?_ _)); refine blk_far ?_ NB182_186.out _; (with_reducible repeat (first | refine blk_drewN ?_ _ | refine blk_drew ?_ | refine blk_alloc ?_ _)); refine blk_far ?_ NB182_186.out _; (with_reducible repeat (first | refine blk_drewN ?_ _ | refine blk_drew ?_ | refine blk_alloc ?_ _)); exact BK182.out⟩, ⟨by (with_reducible repeat (first | refine blk_drewN ?_ _ | refine blk_drew ?_ | refine blk_alloc ?_ _)); refine blk_put (cs := #[.bool ((rd_T46 l0_2 x25_1).f0), .slice none 0 0]) ?_ 1 _ rfl; (with_reducible repeat (first | refine blk_drewN ?_ _ | refine blk_drew ?_ | refine blk_alloc ?_ _)); refine blk_put (cs := #[.bool false, .slice none 0 0]) ?_ 0 _ rfl; (with_reducible repeat (first | refine blk_drewN ?_ _ | refine blk_drew ?_ | refine blk_alloc ?_ _)); exact BK186.out⟩, ⟨by repeat (first | (with_reducible first | exact HB.out | apply below_alloc | apply pw_below_drewN | apply below_drew1 | refine below_set ?_ GE182.out | refine below_set ?_ GE186.out) | exact HB.out)⟩⟩
                    case round =>
                      clear H'
                      (try clear c1);(try clear p1);(try clear q1);(try clear hx1);(try clear c2);(try clear p2);(try clear c3);(try clear c4);(try clear c5);(try clear c5b0);(try clear c5b1);(try clear c6);(try clear c6b0);(try clear c6b1);(try clear c15);(try clear c15b0);(try clear c16);(try clear c16b0);(try clear c17);(try clear c17b0);(try clear c18);(try clear c18b0);(try clear c18b1);(try clear c18b2);(try clear p18);(try clear q18);(try clear hx18);(try clear c20);(try clear hcz10_0);(try clear hcz10_1);(try clear hcz10_2);(try clear hcz12_0);(try clear hcz12_1);(try clear hcz12_2);(try clear hcz14_0);(try clear hcz14_1);(try clear hcz14_2);(try clear hcz21_0);(try clear hcz21_1);(try clear hcz22_0);(try clear hcz22_1);(try clear hcz22_2);(try clear hcz8_0);(try clear hcz8_1);(try clear hcz8_2);(try clear hfz10_0);(try clear hfz10_1);(try clear hfz10_2);(try clear hfz12_0);(try clear hfz12_1);(try clear hfz12_2);(try clear hfz14_0);(try clear hfz14_1);(try clear hfz14_2);(try clear hfz21_0);(try clear hfz21_1);(try clear hfz22_0);(try clear hfz22_1);(try clear hfz22_2);(try clear hfz8_0);(try clear hfz8_1);(try clear hfz8_2);(try clear hx185_0);(try clear hx185_1);(try clear p185);(try clear p2);(try clear q185)
                      obtain ⟨x39_2, rfl, HA, HK2, BK182, BK186, HB⟩ := hrel
                      cases gk with
                      | zero => exact absurd HA.out (by simp [table_Validate.l1])
                      | succ k2 =>
                        have H := HA.out
                        clear HA
                        simp only [table_Validate.l1] at H
                        by_cases c23 : x39_2 < (l0_1.length : Int)
                        · rw [if_pos c23] at H
                          have c23b0 : decide (x39_2 < (l0_1.length : Int)) = true := decide_eq_true c23
                          clear c23
                          by_cases c24 : 0 ≤ x39_2
                          · rw [if_pos c24] at H
                            have c24b0 : decide (0 ≤ x39_2) = true := decide_eq_true c24
                            clear c24
                            by_cases c25 : x39_2 < (l0_1.length : Int)
                            · rw [if_pos c25] at H
                              have c25b0 : decide (x39_2 < (l0_1.length : Int)) = true := decide_eq_true c25
                              clear c25
                              by_cases c26 : x39_2 < (((rd_T46 l0_2 x25_1).f1).length : Int)
                              · rw [if_pos c26] at H
                                have c26b0 : decide (x39_2 < (((rd_T46 l0_2 x25_1).f1).length : Int)) = true := decide_eq_true c26
                                clear c26
                                replace H := Option.bind_eq_some_iff.mp H
                                obtain ⟨t190, A270, H⟩ := H
                                replace H : (if t190 = true then (table_Validate.l1 k2 l0_2 (l0_2.length : Int) x25_1 l0_1 (l0_1.length : Int) (wrap64 (x39_2 + 1)) a0_0 l0_1 l0_2 ((rd_T46 l0_2 x25_1).f0) ((rd_T46 l0_2 x25_1).f1)) else (some 1)) = some r := H
                                have A27 := Aside0.mk A270
                                clear A270
                                by_cases c28 : t190 = true
                                · subst c28
                                  have H1 : (table_Validate.l1 k2 l0_2 (l0_2.length : Int) x25_1 l0_1 (l0_1.length : Int) (wrap64 (x39_2 + 1)) a0_0 l0_1 l0_2 ((rd_T46 l0_2 x25_1).f0) ((rd_T46 l0_2 x25_1).f1)) = some r := by rw [if_pos rfl] at H; exact H
                                  clear H
                                  have H := H1
                                  clear H1
                                  have H' := Aside0.mk H
                                  clear H
                                  have p187 : 0 ≤ (x39_2 : Int) := of_decide_eq_true (by first | (with_reducible assumption) | assumption)
                                  have q187 : x39_2 < (l0_1.length : Int) := of_decide_eq_true (by first | (with_reducible assumption) | assumption)
                                  obtain ⟨ad187, e187, hx187_0, hx187_1, hx187_2, hx187_3⟩ := at_T23 HR0_1.out x39_2 p187 q187
                                  cases e187
                                  replace hx187_0 := (HB.out.cell (World.block_lt_of_cell? w _ hx187_0)).trans hx187_0
                                  replace hx187_1 := (HB.out.cell (World.block_lt_of_cell? w _ hx187_1)).trans hx187_1
                                  replace hx187_2 := (HB.out.cell (World.block_lt_of_cell? w _ hx187_2)).trans hx187_2
                                  replace hx187_3 := (HB.out.cell (World.block_lt_of_cell? w _ hx187_3)).trans hx187_3
                                  replace p187 := eq_true p187
                                  replace q187 := eq_true q187
                                  try go_wp2_with (first | ((with_reducible refine gate_dst (N := 7) rfl ?_); refine box_event ?hg (N := 7) ?hd (cs := #[.string (⟨#[]⟩ : ByteArray), .int .i64 0, .int .i64 0, .bool false]) (t := 23) ?hr ?_; (case hd => rfl); (case hg => rfl); (case hr => go_simp; try rfl); intro gb188 hg w29 hbox hb; have n0_ := Aside0.mk (blk_below (g := gb182) (o := .cells #[.int .i64 a0_0, .slice (some ad187) l0_1.length c0_1, .slice (some ad185) l0_2.length c0_2] 35 (0, 0)) (by (with_reducible repeat (first | refine blk_drewN ?_ _ | refine blk_drew ?_ | refine blk_alloc ?_ _)); exact BK182.out) hb); have n1_ := Aside0.mk (blk_below (g := gb186) (o := .cells #[.bool ((rd_T46 l0_2 x25_1).f0), .slice A185_1 ((rd_T46 l0_2 x25_1).f1).length c185_1] 46 (0, 0)) (by (with_reducible repeat (first | refine blk_drewN ?_ _ | refine blk_drew ?_ | refine blk_alloc ?_ _)); exact BK186.out) hb); have n2_ := Aside0.mk (below_step (by repeat (first | (with_reducible first | exact HB.out | apply below_alloc | apply pw_below_drewN | apply below_drew1 | refine below_set ?_ GE182.out | refine below_set ?_ GE186.out) | exact HB.out)) hb); have n3_ := Aside0.mk (hbox); have n5_ := Aside0.mk ((by rw [hg]; exact (below_size (by repeat (first | (with_reducible first | exact HB.out | apply below_alloc | apply pw_below_drewN | apply below_drew1 | refine below_set ?_ GE182.out | refine below_set ?_ GE186.out) | exact HB.out))) : w.heap.size ≤ gb188)); have n6_ := Aside0.mk ((by rw [hg]; exact Nat.ne_of_lt (blk_lt (g := gb182) (o := .cells #[.int .i64 a0_0, .slice (some ad187) l0_1.length c0_1, .slice (some ad185) l0_2.length c0_2] 35 (0, 0)) (by (with_reducible repeat (first | refine blk_drewN ?_ _ | refine blk_drew ?_ | refine blk_alloc ?_ _)); exact BK182.out)) : gb182 ≠ gb188)); have n7_ := Aside0.mk ((by rw [hg]; exact Nat.ne_of_gt (blk_lt (g := gb182) (o := .cells #[.int .i64 a0_0, .slice (some ad187) l0_1.length c0_1, .slice (some ad185) l0_2.length c0_2] 35 (0, 0)) (by (with_reducible repeat (first | refine blk_drewN ?_ _ | refine blk_drew ?_ | refine blk_alloc ?_ _)); exact BK182.out)) : gb188 ≠ gb182)); have n8_ := Aside0.mk ((by rw [hg]; exact Nat.ne_of_lt (blk_lt (g := gb186) (o := .cells #[.bool ((rd_T46 l0_2 x25_1).f0), .slice A185_1 ((rd_T46 l0_2 x25_1).f1).length c185_1] 46 (0, 0)) (by (with_reducible repeat (first | refine blk_drewN ?_ _ | refine blk_drew ?_ | refine blk_alloc ?_ _)); exact BK186.out)) : gb186 ≠ gb188)); have n9_ := Aside0.mk ((by rw [hg]; exact Nat.ne_of_gt (blk_lt (g := gb186) (o := .cells #[.bool ((rd_T46 l0_2 x25_1).f0), .slice A185_1 ((rd_T46 l0_2 x25_1).f1).length c185_1] 46 (0, 0)) (by (with_reducible repeat (first | refine blk_drewN ?_ _ | refine blk_drew ?_ | refine blk_alloc ?_ _)); exact BK186.out)) : gb188 ≠ gb186)); clear BK182; clear BK186; clear HB; have BK182 := n0_; have BK186 := n1_; have HB := n2_; have BK188 := n3_; have GE188 := n5_; have NB182_188 := n6_; have NB188_182 := n7_; have NB186_188 := n8_; have NB188_186 := n9_; clear n0_ n1_ n2_ n3_ n5_ n6_ n7_ n8_ n9_; clear hb hbox hg; have hnb30 := NB188_182.out; have hnc30 := NB182_188.out; have hnb31 := NB188_186.out; have hnc31 := NB186_188.out; have hcz32_0 : w29.cell? ⟨gb188, 0, none⟩ = some (.string (⟨#[]⟩ : ByteArray)) := (blk_cell BK188.out 0).trans rfl; have hcz32_1 : w29.cell? ⟨gb188, 1, none⟩ = some (.int .i64 0) := (blk_cell BK188.out 1).trans rfl; have hcz32_2 : w29.cell? ⟨gb188, 2, none⟩ = some (.int .i64 0) := (blk_cell BK188.out 2).trans rfl; have hcz32_3 : w29.cell? ⟨gb188, 3, none⟩ = some (.bool false) := (blk_cell BK188.out 3).trans rfl; have hfz32_0 := blk_frozen BK188.out 0; have hfz32_1 := blk_frozen BK188.out 1; have hfz32_2 := blk_frozen BK188.out 2; have hfz32_3 := blk_frozen BK188.out 3))
                                  have n0_ : Aside0 (((((w29.setCell ⟨gb188, 0, none⟩ (.string ((rd_T23 l0_1 x39_2).f0))).setCell ⟨gb188, 1, none⟩ (.int .i64 ((rd_T23 l0_1 x39_2).f1))).setCell ⟨gb188, 2, none⟩ (.int .i64 ((rd_T23 l0_1 x39_2).f2))).setCell ⟨gb188, 3, none⟩ (.bool ((rd_T23 l0_1 x39_2).f3))).heap[gb182]? = some (.cells #[.int .i64 a0_0, .slice (some ad187) l0_1.length c0_1, .slice (some ad185) l0_2.length c0_2] 35 (0, 0))) := ⟨by (with_reducible repeat (first | refine blk_drewN ?_ _ | refine blk_drew ?_ | refine blk_alloc ?_ _)); refine blk_far ?_ NB182_188.out _; (with_reducible repeat (first | refine blk_drewN ?_ _ | refine blk_drew ?_ | refine blk_alloc ?_ _)); refine blk_far ?_ NB182_188.out _; (with_reducible repeat (first | refine blk_drewN ?_ _ | refine blk_drew ?_ | refine blk_alloc ?_ _)); refine blk_far ?_ NB182_188.out _; (with_reducible repeat (first | refine blk_drewN ?_ _ | refine blk_drew ?_ | refine blk_alloc ?_ _)); refine blk_far ?_ NB182_188.out _; (with_reducible repeat (first | refine blk_drewN ?_ _ | refine blk_drew ?_ | refine blk_alloc ?_ _)); exact BK182.out⟩
                                  have n1_ : Aside0 (((((w29.setCell ⟨gb188, 0, none⟩ (.string ((rd_T23 l0_1 x39_2).f0))).setCell ⟨gb188, 1, none⟩ (.int .i64 ((rd_T23 l0_1 x39_2).f1))).setCell ⟨gb188, 2, none⟩ (.int .i64 ((rd_T23 l0_1 x39_2).f2))).setCell ⟨gb188, 3, none⟩ (.bool ((rd_T23 l0_1 x39_2).f3))).heap[gb186]? = some (.cells #[.bool ((rd_T46 l0_2 x25_1).f0), .slice A185_1 ((rd_T46 l0_2 x25_1).f1).length c185_1] 46 (0, 0))) := ⟨by (with_reducible repeat (first | refine blk_drewN ?_ _ | refine blk_drew ?_ | refine blk_alloc ?_ _)); refine blk_far ?_ NB186_188.out _; (with_reducible repeat (first | refine blk_drewN ?_ _ | refine blk_drew ?_ | refine blk_alloc ?_ _)); refine blk_far ?_ NB186_188.out _; (with_reducible repeat (first | refine blk_drewN ?_ _ | refine blk_drew ?_ | refine blk_alloc ?_ _)); refine blk_far ?_ NB186_188.out _; (with_reducible repeat (first | refine blk_drewN ?_ _ | refine blk_drew ?_ | refine blk_alloc ?_ _)); refine blk_far ?_ NB186_188.out _; (with_reducible repeat (first | refine blk_drewN ?_ _ | refine blk_drew ?_ | refine blk_alloc ?_ _)); exact BK186.out⟩
                                  have n2_ : Aside0 (((((w29.setCell ⟨gb188, 0, none⟩ (.string ((rd_T23 l0_1 x39_2).f0))).setCell ⟨gb188, 1, none⟩ (.int .i64 ((rd_T23 l0_1 x39_2).f1))).setCell ⟨gb188, 2, none⟩ (.int .i64 ((rd_T23 l0_1 x39_2).f2))).setCell ⟨gb188, 3, none⟩ (.bool ((rd_T23 l0_1 x39_2).f3))).heap[gb188]? = some (.cells #[.string ((rd_T23 l0_1 x39_2).f0), .int .i64 ((rd_T23 l0_1 x39_2).f1), .int .i64 ((rd_T23 l0_1 x39_2).f2), .bool ((rd_T23 l0_1 x39_2).f3)] 23 (0, 0))) := ⟨by (with_reducible repeat (first | refine blk_drewN ?_ _ | refine blk_drew ?_ | refine blk_alloc ?_ _)); refine blk_put (cs := #[.string ((rd_T23 l0_1 x39_2).f0), .int .i64 ((rd_T23 l0_1 x39_2).f1), .int .i64 ((rd_T23 l0_1 x39_2).f2), .bool false]) ?_ 3 _ rfl; (with_reducible repeat (first | refine blk_drewN ?_ _ | refine blk_drew ?_ | refine blk_alloc ?_ _)); refine blk_put (cs := #[.string ((rd_T23 l0_1 x39_2).f0), .int .i64 ((rd_T23 l0_1 x39_2).f1), .int .i64 0, .bool false]) ?_ 2 _ rfl; (with_reducible repeat (first | refine blk_drewN ?_ _ | refine blk_drew ?_ | refine blk_alloc ?_ _)); refine blk_put (cs := #[.string ((rd_T23 l0_1 x39_2).f0), .int .i64 0, .int .i64 0, .bool false]) ?_ 1 _ rfl; (with_reducible repeat (first | refine blk_drewN ?_ _ | refine blk_drew ?_ | refine blk_alloc ?_ _)); refine blk_put (cs := #[.string (⟨#[]⟩ : ByteArray), .int .i64 0, .int .i64 0, .bool false]) ?_ 0 _ rfl; (with_reducible repeat (first | refine blk_drewN ?_ _ | refine blk_drew ?_ | refine blk_alloc ?_ _)); exact BK188.out⟩
                                  have n3_ : Aside0 (Below w.heap.size w ((((w29.setCell ⟨gb188, 0, none⟩ (.string ((rd_T23 l0_1 x39_2).f0))).setCell ⟨gb188, 1, none⟩ (.int .i64 ((rd_T23 l0_1 x39_2).f1))).setCell ⟨gb188, 2, none⟩ (.int .i64 ((rd_T23 l0_1 x39_2).f2))).setCell ⟨gb188, 3, none⟩ (.bool ((rd_T23 l0_1 x39_2).f3)))) := ⟨by repeat (first | (with_reducible first | exact HB.out | apply below_alloc | apply pw_below_drewN | apply below_drew1 | refine below_set ?_ GE182.out | refine below_set ?_ GE186.out | refine below_set ?_ GE188.out) | exact HB.out)⟩
                                  (try clear BK182)
                                  (try clear BK186)
                                  (try clear BK188)
                                  (try clear HB)
                                  generalize ((((w29.setCell ⟨gb188, 0, none⟩ (.string ((rd_T23 l0_1 x39_2).f0))).setCell ⟨gb188, 1, none⟩ (.int .i64 ((rd_T23 l0_1 x39_2).f1))).setCell ⟨gb188, 2, none⟩ (.int .i64 ((rd_T23 l0_1 x39_2).f2))).setCell ⟨gb188, 3, none⟩ (.bool ((rd_T23 l0_1 x39_2).f3))) = w33 at n0_ n1_ n2_ n3_ ⊢
                                  have BK182 := n0_
                                  have BK186 := n1_
                                  have BK188 := n2_
                                  have HB := n3_
                                  clear n0_ n1_ n2_ n3_
                                  have n0_ := Aside0.mk (blk_drew BK182.out)
                                  have n1_ := Aside0.mk (blk_drew BK186.out)
                                  have n2_ := Aside0.mk (blk_drew BK188.out)
                                  have n3_ := Aside0.mk (below_drew1 HB.out)
                                  clear BK182
                                  clear BK186
                                  clear BK188
                                  clear HB
                                  have BK182 := n0_
                                  have BK186 := n1_
                                  have BK188 := n2_
                                  have HB := n3_
                                  clear n0_ n1_ n2_ n3_
                                  have p189 : 0 ≤ (x39_2 : Int) := of_decide_eq_true (by first | (with_reducible assumption) | assumption)
                                  have q189 : x39_2 < (((rd_T46 l0_2 x25_1).f1).length : Int) := of_decide_eq_true (by first | (with_reducible assumption) | assumption)
                                  obtain ⟨ad189, e189, hx189_0, hx189_1, hx189_2⟩ := at_T25 HR185_1.out x39_2 p189 q189
                                  have hw189_2 := hx189_2
                                  have hw189_1 := hx189_1
                                  have hw189_0 := hx189_0
                                  cases e189
                                  replace hx189_0 := (HB.out.cell (World.block_lt_of_cell? w _ hx189_0)).trans hx189_0
                                  replace hx189_1 := (HB.out.cell (World.block_lt_of_cell? w _ hx189_1)).trans hx189_1
                                  replace hx189_2 := (HB.out.cell (World.block_lt_of_cell? w _ hx189_2)).trans hx189_2
                                  replace p189 := eq_true p189
                                  replace q189 := eq_true q189
                                  refine start_ (n := 10) (S := fun w' => w'.cell? ⟨gb188, 0, none⟩ = some (.string ((rd_T23 l0_1 x39_2).f0)) ∧ w'.cell? ⟨gb188, 1, none⟩ = some (.int .i64 ((rd_T23 l0_1 x39_2).f1)) ∧ w'.cell? ⟨gb188, 2, none⟩ = some (.int .i64 ((rd_T23 l0_1 x39_2).f2)) ∧ w'.cell? ⟨gb188, 3, none⟩ = some (.bool ((rd_T23 l0_1 x39_2).f3)) ∧ w'.cell? ⟨gb182, 0, none⟩ = some (.int .i64 a0_0) ∧ w'.cell? ⟨gb182, 1, none⟩ = some (.slice (some ad187) l0_1.length c0_1) ∧ w'.cell? ⟨gb182, 2, none⟩ = some (.slice (some ad185) l0_2.length c0_2) ∧ w'.cell? ⟨gb186, 0, none⟩ = some (.bool ((rd_T46 l0_2 x25_1).f0)) ∧ w'.cell? ⟨gb186, 1, none⟩ = some (.slice (some ad189) ((rd_T46 l0_2 x25_1).f1).length c185_1) ∧ w'.cell? (ad189.add ((x39_2).toNat * 3)) = some (.int .i64 ((rd_T25 ((rd_T46 l0_2 x25_1).f1) x39_2).f0)) ∧ w'.cell? ⟨(ad189.add ((x39_2).toNat * 3)).block, (ad189.add ((x39_2).toNat * 3)).off + 1, none⟩ = some (.int .i64 ((rd_T25 ((rd_T46 l0_2 x25_1).f1) x39_2).f1)) ∧ w'.cell? ⟨(ad189.add ((x39_2).toNat * 3)).block, (ad189.add ((x39_2).toNat * 3)).off + 2, none⟩ = some (.string ((rd_T25 ((rd_T46 l0_2 x25_1).f1) x39_2).f2))) (ds := []) #[false, false, false, false, false, false, false, false, false, false] (by kernel_rfl) rfl rfl ⟨(blk_cell BK188.out 0).trans rfl, (blk_cell BK188.out 1).trans rfl, (blk_cell BK188.out 2).trans rfl, (blk_cell BK188.out 3).trans rfl, (blk_cell BK182.out 0).trans rfl, (blk_cell BK182.out 1).trans rfl, (blk_cell BK182.out 2).trans rfl, (blk_cell BK186.out 0).trans rfl, (blk_cell BK186.out 1).trans rfl, ((HB.out.cell (World.block_lt_of_cell? w _ hw189_0)).trans hw189_0), ((HB.out.cell (World.block_lt_of_cell? w _ hw189_1)).trans hw189_1), ((HB.out.cell (World.block_lt_of_cell? w _ hw189_2)).trans hw189_2)⟩ (fun hHeld => ?_); refine with_tabW table_Validate.tab16 table_Validate.bits16 (fun HT_ HW_ => ?_)
                                  generalize w33.drew = w34 at BK182 BK186 BK188 HB hx189_0 hx189_1 hx189_2 hHeld ⊢
                                  refine pure_ (i := 1) (N := some 45) (v := ?_) (a' := ?_) #[false, true, false, false, false, false, false, false, false, false] rfl rfl (any_of HT_.out (by kernel_rfl)) (fun _ _ _ h => h) (Or.inl ⟨by rfl, ?_⟩) ?_ ?_
                                  rotate_left
                                  · intro w'
                                    go_simp
                                    with_reducible rfl
                                  rotate_left
                                  · simp only [Act.put, List.setIfInBounds_toArray, List.set_cons_zero, List.set_cons_succ, i64_w, i32_w]
                                    rfl
                                  refine pure_ (i := 3) (N := some 47) (v := ?_) (a' := ?_) #[false, true, false, true, false, false, false, false, false, false] rfl rfl (any_of HT_.out (by kernel_rfl)) (fun _ _ _ h => h) (Or.inl ⟨by rfl, ?_⟩) ?_ ?_
                                  rotate_left
                                  · intro w'
                                    go_simp
                                    with_reducible rfl
                                  rotate_left
                                  · simp only [Act.put, List.setIfInBounds_toArray, List.set_cons_zero, List.set_cons_succ, i64_w, i32_w]
                                    rfl
                                  refine pure_ (i := 5) (N := some 49) (v := ?_) (a' := ?_) #[false, true, false, true, false, true, false, false, false, false] rfl rfl (any_of HT_.out (by kernel_rfl)) (fun _ _ _ h => h) (Or.inl ⟨by rfl, ?_⟩) ?_ ?_
                                  rotate_left
                                  · intro w'
                                    go_simp
                                    with_reducible rfl
                                  rotate_left
                                  · simp only [Act.put, List.setIfInBounds_toArray, List.set_cons_zero, List.set_cons_succ, i64_w, i32_w]
                                    rfl
                                  refine take_ (i := 0) (N := some 44) (v := ?_) (a' := ?_) #[true, true, false, true, false, true, false, false, false, false] rfl rfl (take_ofW HT_.out HW_.out (by kernel_rfl)) (fun _ _ _ h => h) (Or.inl ⟨by rfl, ?_⟩) hHeld ?_ ?_
                                  rotate_left
                                  · rintro w' ⟨s0, s1, s2, s3, s4, s5, s6, s7, s8, s9, s10, s11⟩
                                    go_simp
                                    with_reducible rfl
                                  rotate_left
                                  · simp only [Act.put, List.setIfInBounds_toArray, List.set_cons_zero, List.set_cons_succ, i64_w, i32_w]
                                    rfl
                                  refine take_ (i := 2) (N := some 46) (v := ?_) (a' := ?_) #[true, true, true, true, false, true, false, false, false, false] rfl rfl (take_ofW HT_.out HW_.out (by kernel_rfl)) (fun _ _ _ h => h) (Or.inl ⟨by rfl, ?_⟩) hHeld ?_ ?_
                                  rotate_left
                                  · rintro w' ⟨s0, s1, s2, s3, s4, s5, s6, s7, s8, s9, s10, s11⟩
                                    go_simp
                                    with_reducible rfl
                                  rotate_left
                                  · simp only [Act.put, List.setIfInBounds_toArray, List.set_cons_zero, List.set_cons_succ, i64_w, i32_w]
                                    rfl
                                  refine take_ (i := 4) (N := some 48) (v := ?_) (a' := ?_) #[true, true, true, true, true, true, false, false, false, false] rfl rfl (take_ofW HT_.out HW_.out (by kernel_rfl)) (fun _ _ _ h => h) (Or.inl ⟨by rfl, ?_⟩) hHeld ?_ ?_
                                  rotate_left
                                  · rintro w' ⟨s0, s1, s2, s3, s4, s5, s6, s7, s8, s9, s10, s11⟩
                                    go_simp
                                    with_reducible rfl
                                  rotate_left
                                  · simp only [Act.put, List.setIfInBounds_toArray, List.set_cons_zero, List.set_cons_succ, i64_w, i32_w]
                                    rfl
                                  refine pure_ (i := 6) (N := some 50) (v := ?_) (a' := ?_) #[true, true, true, true, true, true, true, false, false, false] rfl rfl (any_of HT_.out (by kernel_rfl)) (fun _ _ _ h => h) (Or.inl ⟨by rfl, ?_⟩) ?_ ?_
                                  rotate_left
                                  · intro w'
                                    go_simp
                                    with_reducible rfl
                                  rotate_left
                                  · simp only [Act.put, List.setIfInBounds_toArray, List.set_cons_zero, List.set_cons_succ, i64_w, i32_w]
                                    rfl
                                  refine take_ (i := 7) (N := some 51) (v := ?_) (a' := ?_) #[true, true, true, true, true, true, true, true, false, false] rfl rfl (take_ofW HT_.out HW_.out (by kernel_rfl)) (fun _ _ _ h => h) (Or.inl ⟨by rfl, ?_⟩) hHeld ?_ ?_
                                  rotate_left
                                  · rintro w' ⟨s0, s1, s2, s3, s4, s5, s6, s7, s8, s9, s10, s11⟩
                                    go_simp
                                    with_reducible rfl
                                  rotate_left
                                  · simp only [Act.put, List.setIfInBounds_toArray, List.set_cons_zero, List.set_cons_succ, i64_w, i32_w]
                                    rfl
                                  refine one_ (i := 8) (N := some 52) #[true, true, true, true, true, true, true, true, true, false] rfl rfl (one_of HT_.out (by kernel_rfl)) (by decide) (fun K hK => ?_)
                                  refine goes_ Tryz.func73 (by kernel_rfl) rfl #[.agg #[.string ((rd_T23 l0_1 x39_2).f0), .int .i64 ((rd_T23 l0_1 x39_2).f1), .int .i64 ((rd_T23 l0_1 x39_2).f2), .bool ((rd_T23 l0_1 x39_2).f3)], .int .i64 a0_0, .agg #[.int .i64 ((rd_T25 ((rd_T46 l0_2 x25_1).f1) x39_2).f0), .int .i64 ((rd_T25 ((rd_T46 l0_2 x25_1).f1) x39_2).f1), .string ((rd_T25 ((rd_T46 l0_2 x25_1).f1) x39_2).f2)]] (by rfl) rfl rfl (by (try simp only [List.map_toArray, List.map_cons, List.map_nil]); first | done | rfl) ?_
                                  with_reducible refine (table_holds.calls k2 ((rd_T23 l0_1 x39_2).f0) ((rd_T23 l0_1 x39_2).f1) ((rd_T23 l0_1 x39_2).f2) ((rd_T23 l0_1 x39_2).f3) a0_0 ((rd_T25 ((rd_T46 l0_2 x25_1).f1) x39_2).f0) ((rd_T25 ((rd_T46 l0_2 x25_1).f1) x39_2).f1) ((rd_T25 ((rd_T46 l0_2 x25_1).f1) x39_2).f2) true _ A27.out).mono ?_
                                  rintro e w35 ⟨rfl, hb⟩
                                  refine ⟨_, rfl, ?_⟩
                                  have n0_ := Aside0.mk (blk_below (g := gb182) (o := .cells #[.int .i64 a0_0, .slice (some ad187) l0_1.length c0_1, .slice (some ad185) l0_2.length c0_2] 35 (0, 0)) (by (with_reducible repeat (first | refine blk_drewN ?_ _ | refine blk_drew ?_ | refine blk_alloc ?_ _)); exact BK182.out) hb)
                                  have n1_ := Aside0.mk (blk_below (g := gb186) (o := .cells #[.bool ((rd_T46 l0_2 x25_1).f0), .slice (some ad189) ((rd_T46 l0_2 x25_1).f1).length c185_1] 46 (0, 0)) (by (with_reducible repeat (first | refine blk_drewN ?_ _ | refine blk_drew ?_ | refine blk_alloc ?_ _)); exact BK186.out) hb)
                                  have n2_ := Aside0.mk (blk_below (g := gb188) (o := .cells #[.string ((rd_T23 l0_1 x39_2).f0), .int .i64 ((rd_T23 l0_1 x39_2).f1), .int .i64 ((rd_T23 l0_1 x39_2).f2), .bool ((rd_T23 l0_1 x39_2).f3)] 23 (0, 0)) (by (with_reducible repeat (first | refine blk_drewN ?_ _ | refine blk_drew ?_ | refine blk_alloc ?_ _)); exact BK188.out) hb)
                                  have n3_ := Aside0.mk (below_step (by repeat (first | (with_reducible first | exact HB.out | apply below_alloc | apply pw_below_drewN | apply below_drew1 | refine below_set ?_ GE182.out | refine below_set ?_ GE186.out | refine below_set ?_ GE188.out) | exact HB.out)) hb)
                                  clear BK182
                                  clear BK186
                                  clear BK188
                                  clear HB
                                  have BK182 := n0_
                                  have BK186 := n1_
                                  have BK188 := n2_
                                  have HB := n3_
                                  clear n0_ n1_ n2_ n3_
                                  (try clear hb)
                                  (try clear hb2)
                                  (try clear hk)
                                  (try clear hi)
                                  refine hK.out _ _ ⟨(blk_cell BK188.out 0).trans rfl, (blk_cell BK188.out 1).trans rfl, (blk_cell BK188.out 2).trans rfl, (blk_cell BK188.out 3).trans rfl, (blk_cell BK182.out 0).trans rfl, (blk_cell BK182.out 1).trans rfl, (blk_cell BK182.out 2).trans rfl, (blk_cell BK186.out 0).trans rfl, (blk_cell BK186.out 1).trans rfl, ((HB.out.cell (World.block_lt_of_cell? w _ hw189_0)).trans hw189_0), ((HB.out.cell (World.block_lt_of_cell? w _ hw189_1)).trans hw189_1), ((HB.out.cell (World.block_lt_of_cell? w _ hw189_2)).trans hw189_2)⟩ (fun hHeld => ?_)
                                  clear hK K
                                  refine norm_ (a' := ?_) ?_ ?_
                                  rotate_left
                                  · show Act.put _ (some 52) _ = _
                                    simp only [Act.put, List.setIfInBounds_toArray, List.set_cons_zero, List.set_cons_succ, i64_w, i32_w]
                                    rfl
                                  refine pure_ (i := 9) (N := some 53) (v := ?_) (a' := ?_) #[true, true, true, true, true, true, true, true, true, true] rfl rfl (any_of HT_.out (by kernel_rfl)) (fun _ _ _ h => h) (Or.inl ⟨by rfl, ?_⟩) ?_ ?_
                                  rotate_left
                                  · intro w'
                                    go_simp
                                    with_reducible rfl
                                  rotate_left
                                  · simp only [Act.put, List.setIfInBounds_toArray, List.set_cons_zero, List.set_cons_succ, i64_w, i32_w]
                                    rfl
                                  refine done_ (done_of HT_.out (by kernel_rfl)) ?_
                                  try go_wp2
                                  go_roundg k2
                                  case measure => have := HK1.out; have := HK2.out; omega
                                  case rel => exact ⟨(wrap64 (x39_2 + 1)), (by first | rfl | (simp; done) | (simp [*]; done)), H', ⟨by have := HK1.out; have := HK2.out; omega⟩, ⟨by (with_reducible repeat (first | refine blk_drewN ?_ _ | refine blk_drew ?_ | refine blk_alloc ?_ _)); exact BK182.out⟩, ⟨by (with_reducible repeat (first | refine blk_drewN ?_ _ | refine blk_drew ?_ | refine blk_alloc ?_ _)); exact BK186.out⟩, ⟨by repeat (first | (with_reducible first | exact HB.out | apply below_alloc | apply pw_below_drewN | apply below_drew1 | refine below_set ?_ GE182.out | refine below_set ?_ GE186.out | refine below_set ?_ GE188.out) | exact HB.out)⟩⟩
                                · replace c28 := Bool.eq_false_iff.mpr c28
                                  subst c28
                                  have H1 : (some 1) = some r := by rw [if_neg (show ¬ (false = true) by decide)] at H; exact H
                                  clear H
                                  have H := H1
                                  clear H1
                                  obtain rfl := Option.some.inj H
                                  have p187 : 0 ≤ (x39_2 : Int) := of_decide_eq_true (by first | (with_reducible assumption) | assumption)
                                  have q187 : x39_2 < (l0_1.length : Int) := of_decide_eq_true (by first | (with_reducible assumption) | assumption)
                                  obtain ⟨ad187, e187, hx187_0, hx187_1, hx187_2, hx187_3⟩ := at_T23 HR0_1.out x39_2 p187 q187
                                  cases e187
                                  replace hx187_0 := (HB.out.cell (World.block_lt_of_cell? w _ hx187_0)).trans hx187_0
                                  replace hx187_1 := (HB.out.cell (World.block_lt_of_cell? w _ hx187_1)).trans hx187_1
                                  replace hx187_2 := (HB.out.cell (World.block_lt_of_cell? w _ hx187_2)).trans hx187_2
                                  replace hx187_3 := (HB.out.cell (World.block_lt_of_cell? w _ hx187_3)).trans hx187_3
                                  replace p187 := eq_true p187
                                  replace q187 := eq_true q187
                                  try go_wp2_with (first | ((with_reducible refine gate_dst (N := 7) rfl ?_); refine box_event ?hg (N := 7) ?hd (cs := #[.string (⟨#[]⟩ : ByteArray), .int .i64 0, .int .i64 0, .bool false]) (t := 23) ?hr ?_; (case hd => rfl); (case hg => rfl); (case hr => go_simp; try rfl); intro gb188 hg w36 hbox hb; have n0_ := Aside0.mk (blk_below (g := gb182) (o := .cells #[.int .i64 a0_0, .slice (some ad187) l0_1.length c0_1, .slice (some ad185) l0_2.length c0_2] 35 (0, 0)) (by (with_reducible repeat (first | refine blk_drewN ?_ _ | refine blk_drew ?_ | refine blk_alloc ?_ _)); exact BK182.out) hb); have n1_ := Aside0.mk (blk_below (g := gb186) (o := .cells #[.bool ((rd_T46 l0_2 x25_1).f0), .slice A185_1 ((rd_T46 l0_2 x25_1).f1).length c185_1] 46 (0, 0)) (by (with_reducible repeat (first | refine blk_drewN ?_ _ | refine blk_drew ?_ | refine blk_alloc ?_ _)); exact BK186.out) hb); have n2_ := Aside0.mk (below_step (by repeat (first | (with_reducible first | exact HB.out | apply below_alloc | apply pw_below_drewN | apply below_drew1 | refine below_set ?_ GE182.out | refine below_set ?_ GE186.out) | exact HB.out)) hb); have n3_ := Aside0.mk (hbox); have n5_ := Aside0.mk ((by rw [hg]; exact (below_size (by repeat (first | (with_reducible first | exact HB.out | apply below_alloc | apply pw_below_drewN | apply below_drew1 | refine below_set ?_ GE182.out | refine below_set ?_ GE186.out) | exact HB.out))) : w.heap.size ≤ gb188)); have n6_ := Aside0.mk ((by rw [hg]; exact Nat.ne_of_lt (blk_lt (g := gb182) (o := .cells #[.int .i64 a0_0, .slice (some ad187) l0_1.length c0_1, .slice (some ad185) l0_2.length c0_2] 35 (0, 0)) (by (with_reducible repeat (first | refine blk_drewN ?_ _ | refine blk_drew ?_ | refine blk_alloc ?_ _)); exact BK182.out)) : gb182 ≠ gb188)); have n7_ := Aside0.mk ((by rw [hg]; exact Nat.ne_of_gt (blk_lt (g := gb182) (o := .cells #[.int .i64 a0_0, .slice (some ad187) l0_1.length c0_1, .slice (some ad185) l0_2.length c0_2] 35 (0, 0)) (by (with_reducible repeat (first | refine blk_drewN ?_ _ | refine blk_drew ?_ | refine blk_alloc ?_ _)); exact BK182.out)) : gb188 ≠ gb182)); have n8_ := Aside0.mk ((by rw [hg]; exact Nat.ne_of_lt (blk_lt (g := gb186) (o := .cells #[.bool ((rd_T46 l0_2 x25_1).f0), .slice A185_1 ((rd_T46 l0_2 x25_1).f1).length c185_1] 46 (0, 0)) (by (with_reducible repeat (first | refine blk_drewN ?_ _ | refine blk_drew ?_ | refine blk_alloc ?_ _)); exact BK186.out)) : gb186 ≠ gb188)); have n9_ := Aside0.mk ((by rw [hg]; exact Nat.ne_of_gt (blk_lt (g := gb186) (o := .cells #[.bool ((rd_T46 l0_2 x25_1).f0), .slice A185_1 ((rd_T46 l0_2 x25_1).f1).length c185_1] 46 (0, 0)) (by (with_reducible repeat (first | refine blk_drewN ?_ _ | refine blk_drew ?_ | refine blk_alloc ?_ _)); exact BK186.out)) : gb188 ≠ gb186)); clear BK182; clear BK186; clear HB; have BK182 := n0_; have BK186 := n1_; have HB := n2_; have BK188 := n3_; have GE188 := n5_; have NB182_188 := n6_; have NB188_182 := n7_; have NB186_188 := n8_; have NB188_186 := n9_; clear n0_ n1_ n2_ n3_ n5_ n6_ n7_ n8_ n9_; clear hb hbox hg; have hnb37 := NB188_182.out; have hnc37 := NB182_188.out; have hnb38 := NB188_186.out; have hnc38 := NB186_188.out; have hcz39_0 : w36.cell? ⟨gb188, 0, none⟩ = some (.string (⟨#[]⟩ : ByteArray)) := (blk_cell BK188.out 0).trans rfl; have hcz39_1 : w36.cell? ⟨gb188, 1, none⟩ = some (.int .i64 0) := (blk_cell BK188.out 1).trans rfl; have hcz39_2 : w36.cell? ⟨gb188, 2, none⟩ = some (.int .i64 0) := (blk_cell BK188.out 2).trans rfl; have hcz39_3 : w36.cell? ⟨gb188, 3, none⟩ = some (.bool false) := (blk_cell BK188.out 3).trans rfl; have hfz39_0 := blk_frozen BK188.out 0; have hfz39_1 := blk_frozen BK188.out 1; have hfz39_2 := blk_frozen BK188.out 2; have hfz39_3 := blk_frozen BK188.out 3))
                                  have n0_ : Aside0 (((((w36.setCell ⟨gb188, 0, none⟩ (.string ((rd_T23 l0_1 x39_2).f0))).setCell ⟨gb188, 1, none⟩ (.int .i64 ((rd_T23 l0_1 x39_2).f1))).setCell ⟨gb188, 2, none⟩ (.int .i64 ((rd_T23 l0_1 x39_2).f2))).setCell ⟨gb188, 3, none⟩ (.bool ((rd_T23 l0_1 x39_2).f3))).heap[gb182]? = some (.cells #[.int .i64 a0_0, .slice (some ad187) l0_1.length c0_1, .slice (some ad185) l0_2.length c0_2] 35 (0, 0))) := ⟨by (with_reducible repeat (first | refine blk_drewN ?_ _ | refine blk_drew ?_ | refine blk_alloc ?_ _)); refine blk_far ?_ NB182_188.out _; (with_reducible repeat (first | refine blk_drewN ?_ _ | refine blk_drew ?_ | refine blk_alloc ?_ _)); refine blk_far ?_ NB182_188.out _; (with_reducible repeat (first | refine blk_drewN ?_ _ | refine blk_drew ?_ | refine blk_alloc ?_ _)); refine blk_far ?_ NB182_188.out _; (with_reducible repeat (first | refine blk_drewN ?_ _ | refine blk_drew ?_ | refine blk_alloc ?_ _)); refine blk_far ?_ NB182_188.out _; (with_reducible repeat (first | refine blk_drewN ?_ _ | refine blk_drew ?_ | refine blk_alloc ?_ _)); exact BK182.out⟩
                                  have n1_ : Aside0 (((((w36.setCell ⟨gb188, 0, none⟩ (.string ((rd_T23 l0_1 x39_2).f0))).setCell ⟨gb188, 1, none⟩ (.int .i64 ((rd_T23 l0_1 x39_2).f1))).setCell ⟨gb188, 2, none⟩ (.int .i64 ((rd_T23 l0_1 x39_2).f2))).setCell ⟨gb188, 3, none⟩ (.bool ((rd_T23 l0_1 x39_2).f3))).heap[gb186]? = some (.cells #[.bool ((rd_T46 l0_2 x25_1).f0), .slice A185_1 ((rd_T46 l0_2 x25_1).f1).length c185_1] 46 (0, 0))) := ⟨by (with_reducible repeat (first | refine blk_drewN ?_ _ | refine blk_drew ?_ | refine blk_alloc ?_ _)); refine blk_far ?_ NB186_188.out _; (with_reducible repeat (first | refine blk_drewN ?_ _ | refine blk_drew ?_ | refine blk_alloc ?_ _)); refine blk_far ?_ NB186_188.out _; (with_reducible repeat (first | refine blk_drewN ?_ _ | refine blk_drew ?_ | refine blk_alloc ?_ _)); refine blk_far ?_ NB186_188.out _; (with_reducible repeat (first | refine blk_drewN ?_ _ | refine blk_drew ?_ | refine blk_alloc ?_ _)); refine blk_far ?_ NB186_188.out _; (with_reducible repeat (first | refine blk_drewN ?_ _ | refine blk_drew ?_ | refine blk_alloc ?_ _)); exact BK186.out⟩
                                  have n2_ : Aside0 (((((w36.setCell ⟨gb188, 0, none⟩ (.string ((rd_T23 l0_1 x39_2).f0))).setCell ⟨gb188, 1, none⟩ (.int .i64 ((rd_T23 l0_1 x39_2).f1))).setCell ⟨gb188, 2, none⟩ (.int .i64 ((rd_T23 l0_1 x39_2).f2))).setCell ⟨gb188, 3, none⟩ (.bool ((rd_T23 l0_1 x39_2).f3))).heap[gb188]? = some (.cells #[.string ((rd_T23 l0_1 x39_2).f0), .int .i64 ((rd_T23 l0_1 x39_2).f1), .int .i64 ((rd_T23 l0_1 x39_2).f2), .bool ((rd_T23 l0_1 x39_2).f3)] 23 (0, 0))) := ⟨by (with_reducible repeat (first | refine blk_drewN ?_ _ | refine blk_drew ?_ | refine blk_alloc ?_ _)); refine blk_put (cs := #[.string ((rd_T23 l0_1 x39_2).f0), .int .i64 ((rd_T23 l0_1 x39_2).f1), .int .i64 ((rd_T23 l0_1 x39_2).f2), .bool false]) ?_ 3 _ rfl; (with_reducible repeat (first | refine blk_drewN ?_ _ | refine blk_drew ?_ | refine blk_alloc ?_ _)); refine blk_put (cs := #[.string ((rd_T23 l0_1 x39_2).f0), .int .i64 ((rd_T23 l0_1 x39_2).f1), .int .i64 0, .bool false]) ?_ 2 _ rfl; (with_reducible repeat (first | refine blk_drewN ?_ _ | refine blk_drew ?_ | refine blk_alloc ?_ _)); refine blk_put (cs := #[.string ((rd_T23 l0_1 x39_2).f0), .int .i64 0, .int .i64 0, .bool false]) ?_ 1 _ rfl; (with_reducible repeat (first | refine blk_drewN ?_ _ | refine blk_drew ?_ | refine blk_alloc ?_ _)); refine blk_put (cs := #[.string (⟨#[]⟩ : ByteArray), .int .i64 0, .int .i64 0, .bool false]) ?_ 0 _ rfl; (with_reducible repeat (first | refine blk_drewN ?_ _ | refine blk_drew ?_ | refine blk_alloc ?_ _)); exact BK188.out⟩
                                  have n3_ : Aside0 (Below w.heap.size w ((((w36.setCell ⟨gb188, 0, none⟩ (.string ((rd_T23 l0_1 x39_2).f0))).setCell ⟨gb188, 1, none⟩ (.int .i64 ((rd_T23 l0_1 x39_2).f1))).setCell ⟨gb188, 2, none⟩ (.int .i64 ((rd_T23 l0_1 x39_2).f2))).setCell ⟨gb188, 3, none⟩ (.bool ((rd_T23 l0_1 x39_2).f3)))) := ⟨by repeat (first | (with_reducible first | exact HB.out | apply below_alloc | apply pw_below_drewN | apply below_drew1 | refine below_set ?_ GE182.out | refine below_set ?_ GE186.out | refine below_set ?_ GE188.out) | exact HB.out)⟩
                                  (try clear BK182)
                                  (try clear BK186)
                                  (try clear BK188)
                                  (try clear HB)
                                  generalize ((((w36.setCell ⟨gb188, 0, none⟩ (.string ((rd_T23 l0_1 x39_2).f0))).setCell ⟨gb188, 1, none⟩ (.int .i64 ((rd_T23 l0_1 x39_2).f1))).setCell ⟨gb188, 2, none⟩ (.int .i64 ((rd_T23 l0_1 x39_2).f2))).setCell ⟨gb188, 3, none⟩ (.bool ((rd_T23 l0_1 x39_2).f3))) = w40 at n0_ n1_ n2_ n3_ ⊢
                                  have BK182 := n0_
                                  have BK186 := n1_
                                  have BK188 := n2_
                                  have HB := n3_
                                  clear n0_ n1_ n2_ n3_
                                  have n0_ := Aside0.mk (blk_drew BK182.out)
                                  have n1_ := Aside0.mk (blk_drew BK186.out)
                                  have n2_ := Aside0.mk (blk_drew BK188.out)
                                  have n3_ := Aside0.mk (below_drew1 HB.out)
                                  clear BK182
                                  clear BK186
                                  clear BK188
                                  clear HB
                                  have BK182 := n0_
                                  have BK186 := n1_
                                  have BK188 := n2_
                                  have HB := n3_
                                  clear n0_ n1_ n2_ n3_
                                  have p189 : 0 ≤ (x39_2 : Int) := of_decide_eq_true (by first | (with_reducible assumption) | assumption)
                                  have q189 : x39_2 < (((rd_T46 l0_2 x25_1).f1).length : Int) := of_decide_eq_true (by first | (with_reducible assumption) | assumption)
                                  obtain ⟨ad189, e189, hx189_0, hx189_1, hx189_2⟩ := at_T25 HR185_1.out x39_2 p189 q189
                                  have hw189_2 := hx189_2
                                  have hw189_1 := hx189_1
                                  have hw189_0 := hx189_0
                                  cases e189
                                  replace hx189_0 := (HB.out.cell (World.block_lt_of_cell? w _ hx189_0)).trans hx189_0
                                  replace hx189_1 := (HB.out.cell (World.block_lt_of_cell? w _ hx189_1)).trans hx189_1
                                  replace hx189_2 := (HB.out.cell (World.block_lt_of_cell? w _ hx189_2)).trans hx189_2
                                  replace p189 := eq_true p189
                                  replace q189 := eq_true q189
                                  refine start_ (n := 10) (S := fun w' => w'.cell? ⟨gb188, 0, none⟩ = some (.string ((rd_T23 l0_1 x39_2).f0)) ∧ w'.cell? ⟨gb188, 1, none⟩ = some (.int .i64 ((rd_T23 l0_1 x39_2).f1)) ∧ w'.cell? ⟨gb188, 2, none⟩ = some (.int .i64 ((rd_T23 l0_1 x39_2).f2)) ∧ w'.cell? ⟨gb188, 3, none⟩ = some (.bool ((rd_T23 l0_1 x39_2).f3)) ∧ w'.cell? ⟨gb182, 0, none⟩ = some (.int .i64 a0_0) ∧ w'.cell? ⟨gb182, 1, none⟩ = some (.slice (some ad187) l0_1.length c0_1) ∧ w'.cell? ⟨gb182, 2, none⟩ = some (.slice (some ad185) l0_2.length c0_2) ∧ w'.cell? ⟨gb186, 0, none⟩ = some (.bool ((rd_T46 l0_2 x25_1).f0)) ∧ w'.cell? ⟨gb186, 1, none⟩ = some (.slice (some ad189) ((rd_T46 l0_2 x25_1).f1).length c185_1) ∧ w'.cell? (ad189.add ((x39_2).toNat * 3)) = some (.int .i64 ((rd_T25 ((rd_T46 l0_2 x25_1).f1) x39_2).f0)) ∧ w'.cell? ⟨(ad189.add ((x39_2).toNat * 3)).block, (ad189.add ((x39_2).toNat * 3)).off + 1, none⟩ = some (.int .i64 ((rd_T25 ((rd_T46 l0_2 x25_1).f1) x39_2).f1)) ∧ w'.cell? ⟨(ad189.add ((x39_2).toNat * 3)).block, (ad189.add ((x39_2).toNat * 3)).off + 2, none⟩ = some (.string ((rd_T25 ((rd_T46 l0_2 x25_1).f1) x39_2).f2))) (ds := []) #[false, false, false, false, false, false, false, false, false, false] (by kernel_rfl) rfl rfl ⟨(blk_cell BK188.out 0).trans rfl, (blk_cell BK188.out 1).trans rfl, (blk_cell BK188.out 2).trans rfl, (blk_cell BK188.out 3).trans rfl, (blk_cell BK182.out 0).trans rfl, (blk_cell BK182.out 1).trans rfl, (blk_cell BK182.out 2).trans rfl, (blk_cell BK186.out 0).trans rfl, (blk_cell BK186.out 1).trans rfl, ((HB.out.cell (World.block_lt_of_cell? w _ hw189_0)).trans hw189_0), ((HB.out.cell (World.block_lt_of_cell? w _ hw189_1)).trans hw189_1), ((HB.out.cell (World.block_lt_of_cell? w _ hw189_2)).trans hw189_2)⟩ (fun hHeld => ?_); refine with_tabW table_Validate.tab16 table_Validate.bits16 (fun HT_ HW_ => ?_)
                                  generalize w40.drew = w41 at BK182 BK186 BK188 HB hx189_0 hx189_1 hx189_2 hHeld ⊢
                                  refine pure_ (i := 1) (N := some 45) (v := ?_) (a' := ?_) #[false, true, false, false, false, false, false, false, false, false] rfl rfl (any_of HT_.out (by kernel_rfl)) (fun _ _ _ h => h) (Or.inl ⟨by rfl, ?_⟩) ?_ ?_
                                  rotate_left
                                  · intro w'
                                    go_simp
                                    with_reducible rfl
                                  rotate_left
                                  · simp only [Act.put, List.setIfInBounds_toArray, List.set_cons_zero, List.set_cons_succ, i64_w, i32_w]
                                    rfl
                                  refine pure_ (i := 3) (N := some 47) (v := ?_) (a' := ?_) #[false, true, false, true, false, false, false, false, false, false] rfl rfl (any_of HT_.out (by kernel_rfl)) (fun _ _ _ h => h) (Or.inl ⟨by rfl, ?_⟩) ?_ ?_
                                  rotate_left
                                  · intro w'
                                    go_simp
                                    with_reducible rfl
                                  rotate_left
                                  · simp only [Act.put, List.setIfInBounds_toArray, List.set_cons_zero, List.set_cons_succ, i64_w, i32_w]
                                    rfl
                                  refine pure_ (i := 5) (N := some 49) (v := ?_) (a' := ?_) #[false, true, false, true, false, true, false, false, false, false] rfl rfl (any_of HT_.out (by kernel_rfl)) (fun _ _ _ h => h) (Or.inl ⟨by rfl, ?_⟩) ?_ ?_
                                  rotate_left
                                  · intro w'
                                    go_simp
                                    with_reducible rfl
                                  rotate_left
                                  · simp only [Act.put, List.setIfInBounds_toArray, List.set_cons_zero, List.set_cons_succ, i64_w, i32_w]
                                    rfl
                                  refine take_ (i := 0) (N := some 44) (v := ?_) (a' := ?_) #[true, true, false, true, false, true, false, false, false, false] rfl rfl (take_ofW HT_.out HW_.out (by kernel_rfl)) (fun _ _ _ h => h) (Or.inl ⟨by rfl, ?_⟩) hHeld ?_ ?_
                                  rotate_left
                                  · rintro w' ⟨s0, s1, s2, s3, s4, s5, s6, s7, s8, s9, s10, s11⟩
                                    go_simp
                                    with_reducible rfl
                                  rotate_left
                                  · simp only [Act.put, List.setIfInBounds_toArray, List.set_cons_zero, List.set_cons_succ, i64_w, i32_w]
                                    rfl
                                  refine take_ (i := 2) (N := some 46) (v := ?_) (a' := ?_) #[true, true, true, true, false, true, false, false, false, false] rfl rfl (take_ofW HT_.out HW_.out (by kernel_rfl)) (fun _ _ _ h => h) (Or.inl ⟨by rfl, ?_⟩) hHeld ?_ ?_
                                  rotate_left
                                  · rintro w' ⟨s0, s1, s2, s3, s4, s5, s6, s7, s8, s9, s10, s11⟩
                                    go_simp
                                    with_reducible rfl
                                  rotate_left
                                  · simp only [Act.put, List.setIfInBounds_toArray, List.set_cons_zero, List.set_cons_succ, i64_w, i32_w]
                                    rfl
                                  refine take_ (i := 4) (N := some 48) (v := ?_) (a' := ?_) #[true, true, true, true, true, true, false, false, false, false] rfl rfl (take_ofW HT_.out HW_.out (by kernel_rfl)) (fun _ _ _ h => h) (Or.inl ⟨by rfl, ?_⟩) hHeld ?_ ?_
                                  rotate_left
                                  · rintro w' ⟨s0, s1, s2, s3, s4, s5, s6, s7, s8, s9, s10, s11⟩
                                    go_simp
                                    with_reducible rfl
                                  rotate_left
                                  · simp only [Act.put, List.setIfInBounds_toArray, List.set_cons_zero, List.set_cons_succ, i64_w, i32_w]
                                    rfl
                                  refine pure_ (i := 6) (N := some 50) (v := ?_) (a' := ?_) #[true, true, true, true, true, true, true, false, false, false] rfl rfl (any_of HT_.out (by kernel_rfl)) (fun _ _ _ h => h) (Or.inl ⟨by rfl, ?_⟩) ?_ ?_
                                  rotate_left
                                  · intro w'
                                    go_simp
                                    with_reducible rfl
                                  rotate_left
                                  · simp only [Act.put, List.setIfInBounds_toArray, List.set_cons_zero, List.set_cons_succ, i64_w, i32_w]
                                    rfl
                                  refine take_ (i := 7) (N := some 51) (v := ?_) (a' := ?_) #[true, true, true, true, true, true, true, true, false, false] rfl rfl (take_ofW HT_.out HW_.out (by kernel_rfl)) (fun _ _ _ h => h) (Or.inl ⟨by rfl, ?_⟩) hHeld ?_ ?_
                                  rotate_left
                                  · rintro w' ⟨s0, s1, s2, s3, s4, s5, s6, s7, s8, s9, s10, s11⟩
                                    go_simp
                                    with_reducible rfl
                                  rotate_left
                                  · simp only [Act.put, List.setIfInBounds_toArray, List.set_cons_zero, List.set_cons_succ, i64_w, i32_w]
                                    rfl
                                  refine one_ (i := 8) (N := some 52) #[true, true, true, true, true, true, true, true, true, false] rfl rfl (one_of HT_.out (by kernel_rfl)) (by decide) (fun K hK => ?_)
                                  refine goes_ Tryz.func73 (by kernel_rfl) rfl #[.agg #[.string ((rd_T23 l0_1 x39_2).f0), .int .i64 ((rd_T23 l0_1 x39_2).f1), .int .i64 ((rd_T23 l0_1 x39_2).f2), .bool ((rd_T23 l0_1 x39_2).f3)], .int .i64 a0_0, .agg #[.int .i64 ((rd_T25 ((rd_T46 l0_2 x25_1).f1) x39_2).f0), .int .i64 ((rd_T25 ((rd_T46 l0_2 x25_1).f1) x39_2).f1), .string ((rd_T25 ((rd_T46 l0_2 x25_1).f1) x39_2).f2)]] (by rfl) rfl rfl (by (try simp only [List.map_toArray, List.map_cons, List.map_nil]); first | done | rfl) ?_
                                  with_reducible refine (table_holds.calls k2 ((rd_T23 l0_1 x39_2).f0) ((rd_T23 l0_1 x39_2).f1) ((rd_T23 l0_1 x39_2).f2) ((rd_T23 l0_1 x39_2).f3) a0_0 ((rd_T25 ((rd_T46 l0_2 x25_1).f1) x39_2).f0) ((rd_T25 ((rd_T46 l0_2 x25_1).f1) x39_2).f1) ((rd_T25 ((rd_T46 l0_2 x25_1).f1) x39_2).f2) false _ A27.out).mono ?_
                                  rintro e w42 ⟨rfl, hb⟩
                                  refine ⟨_, rfl, ?_⟩
                                  have n0_ := Aside0.mk (blk_below (g := gb182) (o := .cells #[.int .i64 a0_0, .slice (some ad187) l0_1.length c0_1, .slice (some ad185) l0_2.length c0_2] 35 (0, 0)) (by (with_reducible repeat (first | refine blk_drewN ?_ _ | refine blk_drew ?_ | refine blk_alloc ?_ _)); exact BK182.out) hb)
                                  have n1_ := Aside0.mk (blk_below (g := gb186) (o := .cells #[.bool ((rd_T46 l0_2 x25_1).f0), .slice (some ad189) ((rd_T46 l0_2 x25_1).f1).length c185_1] 46 (0, 0)) (by (with_reducible repeat (first | refine blk_drewN ?_ _ | refine blk_drew ?_ | refine blk_alloc ?_ _)); exact BK186.out) hb)
                                  have n2_ := Aside0.mk (blk_below (g := gb188) (o := .cells #[.string ((rd_T23 l0_1 x39_2).f0), .int .i64 ((rd_T23 l0_1 x39_2).f1), .int .i64 ((rd_T23 l0_1 x39_2).f2), .bool ((rd_T23 l0_1 x39_2).f3)] 23 (0, 0)) (by (with_reducible repeat (first | refine blk_drewN ?_ _ | refine blk_drew ?_ | refine blk_alloc ?_ _)); exact BK188.out) hb)
                                  have n3_ := Aside0.mk (below_step (by repeat (first | (with_reducible first | exact HB.out | apply below_alloc | apply pw_below_drewN | apply below_drew1 | refine below_set ?_ GE182.out | refine below_set ?_ GE186.out | refine below_set ?_ GE188.out) | exact HB.out)) hb)
                                  clear BK182
                                  clear BK186
                                  clear BK188
                                  clear HB
                                  have BK182 := n0_
                                  have BK186 := n1_
                                  have BK188 := n2_
                                  have HB := n3_
                                  clear n0_ n1_ n2_ n3_
                                  (try clear hb)
                                  (try clear hb2)
                                  (try clear hk)
                                  (try clear hi)
                                  refine hK.out _ _ ⟨(blk_cell BK188.out 0).trans rfl, (blk_cell BK188.out 1).trans rfl, (blk_cell BK188.out 2).trans rfl, (blk_cell BK188.out 3).trans rfl, (blk_cell BK182.out 0).trans rfl, (blk_cell BK182.out 1).trans rfl, (blk_cell BK182.out 2).trans rfl, (blk_cell BK186.out 0).trans rfl, (blk_cell BK186.out 1).trans rfl, ((HB.out.cell (World.block_lt_of_cell? w _ hw189_0)).trans hw189_0), ((HB.out.cell (World.block_lt_of_cell? w _ hw189_1)).trans hw189_1), ((HB.out.cell (World.block_lt_of_cell? w _ hw189_2)).trans hw189_2)⟩ (fun hHeld => ?_)
                                  clear hK K
                                  refine norm_ (a' := ?_) ?_ ?_
                                  rotate_left
                                  · show Act.put _ (some 52) _ = _
                                    simp only [Act.put, List.setIfInBounds_toArray, List.set_cons_zero, List.set_cons_succ, i64_w, i32_w]
                                    rfl
                                  refine pure_ (i := 9) (N := some 53) (v := ?_) (a' := ?_) #[true, true, true, true, true, true, true, true, true, true] rfl rfl (any_of HT_.out (by kernel_rfl)) (fun _ _ _ h => h) (Or.inl ⟨by rfl, ?_⟩) ?_ ?_
                                  rotate_left
                                  · intro w'
                                    go_simp
                                    with_reducible rfl
                                  rotate_left
                                  · simp only [Act.put, List.setIfInBounds_toArray, List.set_cons_zero, List.set_cons_succ, i64_w, i32_w]
                                    rfl
                                  refine done_ (done_of HT_.out (by kernel_rfl)) ?_
                                  try go_wp2
                                  go_ret
                                  exact ⟨rfl, by repeat (first | (with_reducible first | exact HB.out | apply below_alloc | apply pw_below_drewN | apply below_drew1 | refine below_set ?_ GE182.out | refine below_set ?_ GE186.out | refine below_set ?_ GE188.out) | exact HB.out)⟩
                              · rw [if_neg c26] at H
                                exact absurd H (by simp)
                            · rw [if_neg c25] at H
                              exact absurd H (by simp)
                          · rw [if_neg c24] at H
                            exact absurd H (by simp)
                        · rw [if_neg c23] at H
                          have c23b0 : decide (x39_2 < (l0_1.length : Int)) = false := decide_eq_false c23
                          clear c23
                          have H' := Aside0.mk H
                          clear H
                          go_wp2
                          go_roundg k2
                          case measure => have := HK1.out; have := HK2.out; omega
                          case rel => exact ⟨(wrap64 (x25_1 + 1)), (by first | rfl | (simp; done) | (simp [*]; done)), H', ⟨by have := HK1.out; have := HK2.out; omega⟩, ⟨by (with_reducible repeat (first | refine blk_drewN ?_ _ | refine blk_drew ?_ | refine blk_alloc ?_ _)); exact BK182.out⟩, ⟨by repeat (first | (with_reducible first | exact HB.out | apply below_alloc | apply pw_below_drewN | apply below_drew1 | refine below_set ?_ GE182.out | refine below_set ?_ GE186.out) | exact HB.out)⟩⟩
                  · rw [if_neg c18] at H
                    have c18b0 : ((((rd_T46 l0_2 x25_1).f1).length : Int) == (l0_1.length : Int)) = false := beq_eq_false_iff_ne.mpr c18
                    have c18b1 : ((((rd_T46 l0_2 x25_1).f1).length : Int) != (l0_1.length : Int)) = true := bne_iff_ne.mpr c18
                    have c18b2 : (((rd_T46 l0_2 x25_1).f1).length == l0_1.length) = false := by first | simpa using c18 | (simp at c18 ⊢; omega)
                    obtain rfl := Option.some.inj H
                    have p185 : 0 ≤ (x25_1 : Int) := of_decide_eq_true (by first | (with_reducible assumption) | assumption)
                    have q185 : x25_1 < (l0_2.length : Int) := of_decide_eq_true (by first | (with_reducible assumption) | assumption)
                    obtain ⟨ad185, A185_1, c185_1, e185, hx185_0, hx185_1, hl185_1, hi185_1⟩ := at_T46 HR0_2.out x25_1 p185 q185
                    cases e185
                    replace hx185_0 := (HB.out.cell (World.block_lt_of_cell? w _ hx185_0)).trans hx185_0
                    replace hx185_1 := (HB.out.cell (World.block_lt_of_cell? w _ hx185_1)).trans hx185_1
                    have HR185_1 := Aside0.mk hi185_1
                    have HC185_1 := Aside0.mk hl185_1
                    clear hi185_1 hl185_1
                    replace p185 := eq_true p185
                    replace q185 := eq_true q185
                    go_wp2_with (first | ((with_reducible refine gate_dst (N := 5) rfl ?_); refine box_event ?hg (N := 5) ?hd (cs := #[.bool false, .slice none 0 0]) (t := 46) ?hr ?_; (case hd => rfl); (case hg => rfl); (case hr => go_simp; try rfl); intro gb186 hg w43 hbox hb; have n0_ := Aside0.mk (blk_below (g := gb182) (o := .cells #[.int .i64 a0_0, .slice A0_1 l0_1.length c0_1, .slice (some ad185) l0_2.length c0_2] 35 (0, 0)) (by (with_reducible repeat (first | refine blk_drewN ?_ _ | refine blk_drew ?_ | refine blk_alloc ?_ _)); exact BK182.out) hb); have n1_ := Aside0.mk (below_step (by repeat (first | (with_reducible first | exact HB.out | apply below_alloc | apply pw_below_drewN | apply below_drew1 | refine below_set ?_ GE182.out) | exact HB.out)) hb); have n2_ := Aside0.mk (hbox); have n4_ := Aside0.mk ((by rw [hg]; exact (below_size (by repeat (first | (with_reducible first | exact HB.out | apply below_alloc | apply pw_below_drewN | apply below_drew1 | refine below_set ?_ GE182.out) | exact HB.out))) : w.heap.size ≤ gb186)); have n5_ := Aside0.mk ((by rw [hg]; exact Nat.ne_of_lt (blk_lt (g := gb182) (o := .cells #[.int .i64 a0_0, .slice A0_1 l0_1.length c0_1, .slice (some ad185) l0_2.length c0_2] 35 (0, 0)) (by (with_reducible repeat (first | refine blk_drewN ?_ _ | refine blk_drew ?_ | refine blk_alloc ?_ _)); exact BK182.out)) : gb182 ≠ gb186)); have n6_ := Aside0.mk ((by rw [hg]; exact Nat.ne_of_gt (blk_lt (g := gb182) (o := .cells #[.int .i64 a0_0, .slice A0_1 l0_1.length c0_1, .slice (some ad185) l0_2.length c0_2] 35 (0, 0)) (by (with_reducible repeat (first | refine blk_drewN ?_ _ | refine blk_drew ?_ | refine blk_alloc ?_ _)); exact BK182.out)) : gb186 ≠ gb182)); clear BK182; clear HB; have BK182 := n0_; have HB := n1_; have BK186 := n2_; have GE186 := n4_; have NB182_186 := n5_; have NB186_182 := n6_; clear n0_ n1_ n2_ n4_ n5_ n6_; clear hb hbox hg; have hnb44 := NB186_182.out; have hnc44 := NB182_186.out; have hcz45_0 : w43.cell? ⟨gb186, 0, none⟩ = some (.bool false) := (blk_cell BK186.out 0).trans rfl; have hcz45_1 : w43.cell? ⟨gb186, 1, none⟩ = some (.slice none 0 0) := (blk_cell BK186.out 1).trans rfl; have hfz45_0 := blk_frozen BK186.out 0; have hfz45_1 := blk_frozen BK186.out 1; have hcz46_0 : w43.cell? ⟨gb182, 0, none⟩ = some (.int .i64 a0_0) := (blk_cell BK182.out 0).trans rfl; have hcz46_1 : w43.cell? ⟨gb182, 1, none⟩ = some (.slice A0_1 l0_1.length c0_1) := (blk_cell BK182.out 1).trans rfl; have hcz46_2 : w43.cell? ⟨gb182, 2, none⟩ = some (.slice (some ad185) l0_2.length c0_2) := (blk_cell BK182.out 2).trans rfl; have hfz46_0 := blk_frozen BK182.out 0; have hfz46_1 := blk_frozen BK182.out 1; have hfz46_2 := blk_frozen BK182.out 2))
                    go_ret
                    exact ⟨rfl, by repeat (first | (with_reducible first | exact HB.out | apply below_alloc | apply pw_below_drewN | apply below_drew1 | refine below_set ?_ GE182.out | refine below_set ?_ GE186.out) | exact HB.out)⟩
                · rw [if_neg c17] at H
                  exact absurd H (by simp)
              · rw [if_neg c16] at H
                exact absurd H (by simp)
            · rw [if_neg c15] at H
              have c15b0 : decide (x25_1 < (l0_2.length : Int)) = false := decide_eq_false c15
              clear c15
              obtain rfl := Option.some.inj H
              go_wp2
              go_ret
              exact ⟨rfl, by repeat (first | (with_reducible first | exact HB.out | apply below_alloc | apply pw_below_drewN | apply below_drew1 | refine below_set ?_ GE182.out) | exact HB.out)⟩
    · rw [if_neg c5] at H
      have c5b0 : (t184 == 0) = false := beq_eq_false_iff_ne.mpr c5
      have c5b1 : (t184 != 0) = true := bne_iff_ne.mpr c5
      obtain rfl := Option.some.inj H
      go_enter Tryz.func34, Tryz.ntmps34
      go_wp2_with (first | ((with_reducible refine gate_dst (N := 1) rfl ?_); refine box_event ?hg (N := 1) ?hd (cs := #[.int .i64 a0_0, .slice A0_1 l0_1.length c0_1, .slice A0_2 l0_2.length c0_2]) (t := 35) ?hr ?_; (case hd => rfl); (case hg => rfl); (case hr => go_simp; try rfl); intro gb182 hg w47 hbox hb; have n0_ := Aside0.mk (below_step (by repeat (first | (with_reducible first | exact HB.out | apply below_alloc | apply pw_below_drewN | apply below_drew1) | exact HB.out)) hb); have n1_ := Aside0.mk (hbox); have n3_ := Aside0.mk ((by rw [hg]; exact (below_size (by repeat (first | (with_reducible first | exact HB.out | apply below_alloc | apply pw_below_drewN | apply below_drew1) | exact HB.out))) : w.heap.size ≤ gb182)); clear HB; have HB := n0_; have BK182 := n1_; have GE182 := n3_; clear n0_ n1_ n3_; clear hb hbox hg; have hcz48_0 : w47.cell? ⟨gb182, 0, none⟩ = some (.int .i64 a0_0) := (blk_cell BK182.out 0).trans rfl; have hcz48_1 : w47.cell? ⟨gb182, 1, none⟩ = some (.slice A0_1 l0_1.length c0_1) := (blk_cell BK182.out 1).trans rfl; have hcz48_2 : w47.cell? ⟨gb182, 2, none⟩ = some (.slice A0_2 l0_2.length c0_2) := (blk_cell BK182.out 2).trans rfl; have hfz48_0 := blk_frozen BK182.out 0; have hfz48_1 := blk_frozen BK182.out 1; have hfz48_2 := blk_frozen BK182.out 2) | ((with_reducible refine gate_callee (f := 48) rfl ?_); refine goesL_ (some 10) rfl rfl Tryz.func48 (by kernel_rfl) rfl #[.int .i64 a0_0] rfl (by (try simp only [List.map_toArray, List.map_cons, List.map_nil]); first | done | rfl) ?_; (with_reducible refine (table_isPage.calls a0_0 true _ A2.out).mono ?_); rintro e w' ⟨rfl, ⟨nd, rfl⟩⟩; refine ⟨_, rfl, ?_⟩) | ((with_reducible refine gate_callee (f := 36) rfl ?_); refine goesL_ (some 14) rfl rfl Tryz.func36 (by kernel_rfl) rfl #[.slice A0_1 l0_1.length c0_1] rfl (by (try simp only [List.map_toArray, List.map_cons, List.map_nil]); first | done | rfl) ?_; (with_reducible refine (table_ValidateFields.calls _ _ l0_1 t184 _ ?side1 ?side2 A4.out).mono ?_); (case side1 => repeat (first | exact (Kd.C_below HR0_1.out (by repeat (first | (with_reducible first | exact HB.out | apply below_alloc | apply pw_below_drewN | apply below_drew1 | refine below_set ?_ GE182.out) | exact HB.out))) | (with_reducible refine Kd.C_alloc ?_ _) | (with_reducible refine Kd.C_drewN ?_ _) | (with_reducible refine Kd.C_drew ?_))); (case side2 => exact HC0_1.out); rintro e w49 ⟨rfl, hb⟩; refine ⟨_, rfl, ?_⟩; have n0_ := Aside0.mk (blk_below (g := gb182) (o := .cells #[.int .i64 a0_0, .slice A0_1 l0_1.length c0_1, .slice A0_2 l0_2.length c0_2] 35 (0, 0)) (by (with_reducible repeat (first | refine blk_drewN ?_ _ | refine blk_drew ?_ | refine blk_alloc ?_ _)); exact BK182.out) hb); have n1_ := Aside0.mk (below_step (by repeat (first | (with_reducible first | exact HB.out | apply below_alloc | apply pw_below_drewN | apply below_drew1 | refine below_set ?_ GE182.out) | exact HB.out)) hb); clear BK182; clear HB; have BK182 := n0_; have HB := n1_; clear n0_ n1_; (try clear hb); (try clear hb2); (try clear hk); (try clear hi)))
      go_ret
      exact ⟨rfl, by repeat (first | (with_reducible first | exact HB.out | apply below_alloc | apply pw_below_drewN | apply below_drew1 | refine below_set ?_ GE182.out) | exact HB.out)⟩
  · replace c3 := Bool.eq_false_iff.mpr c3
    subst c3
    have H1 : (some 1) = some r := by rw [if_neg (show ¬ (false = true) by decide)] at H; exact H
    clear H
    have H := H1
    clear H1
    obtain rfl := Option.some.inj H
    go_enter Tryz.func34, Tryz.ntmps34
    go_wp2_with (first | ((with_reducible refine gate_dst (N := 1) rfl ?_); refine box_event ?hg (N := 1) ?hd (cs := #[.int .i64 a0_0, .slice A0_1 l0_1.length c0_1, .slice A0_2 l0_2.length c0_2]) (t := 35) ?hr ?_; (case hd => rfl); (case hg => rfl); (case hr => go_simp; try rfl); intro gb182 hg w50 hbox hb; have n0_ := Aside0.mk (below_step (by repeat (first | (with_reducible first | exact HB.out | apply below_alloc | apply pw_below_drewN | apply below_drew1) | exact HB.out)) hb); have n1_ := Aside0.mk (hbox); have n3_ := Aside0.mk ((by rw [hg]; exact (below_size (by repeat (first | (with_reducible first | exact HB.out | apply below_alloc | apply pw_below_drewN | apply below_drew1) | exact HB.out))) : w.heap.size ≤ gb182)); clear HB; have HB := n0_; have BK182 := n1_; have GE182 := n3_; clear n0_ n1_ n3_; clear hb hbox hg; have hcz51_0 : w50.cell? ⟨gb182, 0, none⟩ = some (.int .i64 a0_0) := (blk_cell BK182.out 0).trans rfl; have hcz51_1 : w50.cell? ⟨gb182, 1, none⟩ = some (.slice A0_1 l0_1.length c0_1) := (blk_cell BK182.out 1).trans rfl; have hcz51_2 : w50.cell? ⟨gb182, 2, none⟩ = some (.slice A0_2 l0_2.length c0_2) := (blk_cell BK182.out 2).trans rfl; have hfz51_0 := blk_frozen BK182.out 0; have hfz51_1 := blk_frozen BK182.out 1; have hfz51_2 := blk_frozen BK182.out 2) | ((with_reducible refine gate_callee (f := 48) rfl ?_); refine goesL_ (some 10) rfl rfl Tryz.func48 (by kernel_rfl) rfl #[.int .i64 a0_0] rfl (by (try simp only [List.map_toArray, List.map_cons, List.map_nil]); first | done | rfl) ?_; (with_reducible refine (table_isPage.calls a0_0 false _ A2.out).mono ?_); rintro e w' ⟨rfl, ⟨nd, rfl⟩⟩; refine ⟨_, rfl, ?_⟩))
    go_ret
    exact ⟨rfl, by repeat (first | (with_reducible first | exact HB.out | apply below_alloc | apply pw_below_drewN | apply below_drew1 | refine below_set ?_ GE182.out) | exact HB.out)⟩
end Go.Proofs.YtldpdidlfbphcaaGreatDoor.P
end
section
namespace Go.Proofs.YtldpdidlfbphcaaGreatDoor.P
open Go.RowKit Go.Proofs.YtldpdidlfbphcaaGreatDoorW.PrintWords Go.Proofs.YtldpdidlfbphcaaGreatDoorW.PrintLast Go.Proofs.YtldpdidlfbphcaaGreatDoorW.PrintMore
attribute [local go_sem] max2_int min2_int max_two min_two max_three min_three max_four min_four
def table_low.l0 : Nat → Int → List Int → Int → Int → Option (List Int)
  | 0, _, _, _, _ => none
  | k + 1, x0, x5, x6, x7 => if x7 < x6 then (if x5.length < 140737488355328 then (table_low.l0 k (x0 / 256) (x5 ++ [(x0) % 256]) x6 (wrap64 (x7 + 1))) else (none)) else (some x5)
def table_low.f (k : Nat) (a0 : Int) (a1 : Int) : Option (List Int) := table_low.l0 k a0 ([] : List Int) a1 0
theorem table_low.mono_l : ∀ k, (∀ y0 y1 y2 y3, LeO (table_low.l0 k y0 y1 y2 y3) (table_low.l0 (k + 1) y0 y1 y2 y3))
  | 0 => fun _ _ _ _ r h => by simp [table_low.l0] at h
  | k + 1 => by
    have ih0 := table_low.mono_l k
    · intro y0 y1 y2 y3
      unfold table_low.l0
      repeat' first
      | (with_reducible exact ih0 _ _ _ _)
      | (with_reducible exact LeO.refl _)
      | (with_reducible exact LeO.none _)
      | (with_reducible refine LeO.ite ?_ ?_)
      | (with_reducible refine LeO.bind ?_ (fun _ => ?_))
      | exact ih0 _ _ _ _
      | exact LeO.none _
      | refine LeO.ite ?_ ?_
      | refine LeO.bind ?_ (fun _ => ?_)
theorem table_low.mono : ∀ a0 a1 k, LeO (table_low.f k a0 a1) (table_low.f (k + 1) a0 a1) := by
  intro a0 a1 k
  have ih0 := table_low.mono_l k
  unfold table_low.f
  repeat' first
      | (with_reducible exact ih0 _ _ _ _)
      | (with_reducible exact LeO.refl _)
      | (with_reducible exact LeO.none _)
      | (with_reducible refine LeO.ite ?_ ?_)
      | (with_reducible refine LeO.bind ?_ (fun _ => ?_))
      | exact ih0 _ _ _ _
      | exact LeO.none _
      | refine LeO.ite ?_ ?_
      | refine LeO.bind ?_ (fun _ => ?_)
set_option maxHeartbeats 8000000 in
set_option maxRecDepth 100000 in
theorem table_low.calls (k : Nat) (a0 : Int) (a1 : Int) (r : List Int) (w : World) (h : table_low.f k a0 a1 = some r) :
    Calls Tryz.prog 109 #[.int .i64 a0, .int .i64 a1] w fun e w' => ∃ v0_ : Value, e = .returned (v0_) ∧ Kd.R (Kd.int .u8) 5 w' w.heap.size (fun _ => True) v0_ r ∧ Below w.heap.size w w' := by
  have HB := Aside0.mk (Below.refl w.heap.size w)
  have H : (table_low.l0 k a0 ([] : List Int) a1 0) = some r := h
  clear h
  have H' := Aside0.mk H
  clear H
  go_enter Tryz.func109, Tryz.ntmps109
  go_wp2
  go_loopg [0, 5, 7] k (fun kq v0 v5 v7 w' => ∃ (x0_1 : Int) (x5_1 : List Int) (x7_1 : Int), v0 = .int .i64 x0_1 ∧ v7 = .int .i64 x7_1 ∧ Aside0 (table_low.l0 kq x0_1 x5_1 a1 x7_1 = some r) ∧ Aside0 (kq ≤ k) ∧ Aside0 (Kd.R (Kd.int .u8) 5 w' w.heap.size (fun _ => True) v5 x5_1) ∧ Aside0 (Below w.heap.size w w'))
  case atStart => exact ⟨(a0), (([] : List Int)), (0), (by first | rfl | (simp; done) | (simp [*]; done)), (by first | rfl | (simp; done) | (simp [*]; done)), H', ⟨Nat.le_refl _⟩, ⟨by first | exact Kd.R_nil _ _ _ _ _ | exact Kd.N_nil _ _ _ _ _ | exact Kd.V_nil _ _ _ _ _ | exact Kd.Q_nil _ _ _ _ _ | exact Kd.S_nil _ _ _ _ _⟩, ⟨by repeat (first | (with_reducible first | exact HB.out | apply below_alloc | apply pw_below_drewN | apply below_drew1) | exact HB.out)⟩⟩
  case round =>
    clear H'
    (try clear c1);(try clear p2)
    obtain ⟨x0_1, x5_1, x7_1, rfl, rfl, HA, HK1, HO_5, HB⟩ := hrel
    cases gk with
    | zero => exact absurd HA.out (by simp [table_low.l0])
    | succ k1 =>
      have H := HA.out
      clear HA
      simp only [table_low.l0] at H
      by_cases c3 : x7_1 < a1
      · rw [if_pos c3] at H
        have c3b0 : decide (x7_1 < a1) = true := decide_eq_true c3
        clear c3
        by_cases c4 : x5_1.length < 140737488355328
        · rw [if_pos c4] at H
          have LMc4 := Aside0.mk c4
          clear c4
          obtain ⟨y538, hy538⟩ : ∃ y_ : List Int, y_ = (x5_1 ++ [(x0_1) % 256]) := ⟨_, rfl⟩
          replace H : (table_low.l0 k1 (x0_1 / 256) y538 a1 (wrap64 (x7_1 + 1))) = some r := by rw [hy538]; exact H
          have Ny538 := Aside0.mk hy538
          clear hy538
          have H' := Aside0.mk H
          clear H
          go_wp2_with (first | ((with_reducible refine gate_builtin (b := .append) (xs := #[.tmp 9, .tmp 12]) rfl ?_); at_builtin; refine Kd.R_append (Kd.int .u8) (w0 := w) w.heap.size rfl (.tmp 9) (.tmp 12) 37 5 (.int .u8 0) 1 rfl Tryz.underlying37 info5 rfl (by decide) (by omega) u5 x5_1 ((x0_1) % 256) [.int .u8 ((x0_1) % 256)] (fun _ => True) (fun _ => False) rfl rfl ?aP (fun _ hk => hk.elim) ?aF ?aO ?aB ?aS ?aL ?_; (case aP => exact rfl); (case aB => exact HB.out); (case aF => exact (fun _ _ => trivial)); (case aO => exact HO_5.out); (case aS => exact (below_size HB.out)); (case aL => have := LMc4.out; omega); intro v539 w5 ho hb hg hat; rw [← Ny538.out] at ho; have n0_ := Aside0.mk (hb); have n1_ := Aside0.mk (ho); clear HB; clear HO_5; have HB := n0_; have HO540 := n1_; clear n0_ n1_; clear ho hb hg hat))
          go_roundg k1
          case measure => have := HK1.out; omega
          case rel => exact ⟨(x0_1 / 256), (y538), (wrap64 (x7_1 + 1)), (by first | rfl | (simp; done) | (simp [*]; done)), (by first | rfl | (simp; done) | (simp [*]; done)), H', ⟨by have := HK1.out; omega⟩, ⟨by (with_reducible repeat (first | apply Kd.R_alloc | apply Kd.R_drewN | apply Kd.R_drew)); exact HO540.out⟩, ⟨by repeat (first | (with_reducible first | exact HB.out | apply below_alloc | apply pw_below_drewN | apply below_drew1) | exact HB.out)⟩⟩
        · rw [if_neg c4] at H
          exact absurd H (by simp)
      · rw [if_neg c3] at H
        have c3b0 : decide (x7_1 < a1) = false := decide_eq_false c3
        clear c3
        obtain rfl := Option.some.inj H
        go_wp2
        go_ret
        exact ⟨_, rfl, by (with_reducible repeat (first | apply Kd.R_alloc | apply Kd.R_drewN | apply Kd.R_drew)); exact HO_5.out, by repeat (first | (with_reducible first | exact HB.out | apply below_alloc | apply pw_below_drewN | apply below_drew1) | exact HB.out)⟩
end Go.Proofs.YtldpdidlfbphcaaGreatDoor.P
end
section
namespace Go.Proofs.YtldpdidlfbphcaaGreatDoor.P
open Go.RowKit Go.Proofs.YtldpdidlfbphcaaGreatDoorW.PrintWords Go.Proofs.YtldpdidlfbphcaaGreatDoorW.PrintLast Go.Proofs.YtldpdidlfbphcaaGreatDoorW.PrintMore
attribute [local go_sem] max2_int min2_int max_two min_two max_three min_three max_four min_four
def table_headerLength.f (a0 : Int) : Option (Int) := some (wrap64 (13 + (wrap64 (16 * a0))))
set_option maxHeartbeats 8000000 in
set_option maxRecDepth 100000 in
theorem table_headerLength.calls (a0 : Int) (r : Int) (w : World) (h : table_headerLength.f a0 = some r) :
    Calls Tryz.prog 110 #[.int .i64 a0] w fun e w' => e = .returned (.int .i64 r) ∧ Drawn0 w w' := by
  have H : (some (wrap64 (13 + (wrap64 (16 * a0))))) = some r := h
  clear h
  obtain rfl := Option.some.inj H
  go_enter Tryz.func110, Tryz.ntmps110
  go_wp2
  go_ret
  exact ⟨by first | rfl | (simp; done) | (simp [*]; done), by repeat (first | exact Drawn0.refl _ | apply Drawn0.step)⟩
end Go.Proofs.YtldpdidlfbphcaaGreatDoor.P
end
section
namespace Go.Proofs.YtldpdidlfbphcaaGreatDoor.P
open Go.RowKit Go.Proofs.YtldpdidlfbphcaaGreatDoorW.PrintWords Go.Proofs.YtldpdidlfbphcaaGreatDoorW.PrintLast Go.Proofs.YtldpdidlfbphcaaGreatDoorW.PrintMore
attribute [local go_sem] max2_int min2_int max_two min_two max_three min_three max_four min_four
def table_header.l0 : Nat → List Int → List (S23) → Int → Int → Option (List Int)
  | 0, _, _, _, _ => none
  | k + 1, x3, x37, x38, x39 => if x39 < x38 then (if 0 ≤ x39 then (if x39 < (x37.length : Int) then ((descO (rd_T23 x37 x39)).bind fun t200 => (if x3.length + t200.length < 140737488355328 then (table_header.l0 k (x3 ++ t200) x37 x38 (wrap64 (x39 + 1))) else (none))) else (none)) else (none)) else (if x3.length < 140737488355328 then (some (x3 ++ [13])) else (none))
def table_header.f (k : Nat) (a0_0 : Int) (l0_1 : List (S23)) (l0_2 : List (S46)) : Option (List Int) := (some (([67, (a0_0) % 256] : List Int) : List Int)).bind fun y169 => ((table_low.f k (l0_2.length : Int) 4).bind fun t172 => (if y169.length + t172.length < 140737488355328 then ((some (y169 ++ t172 : List Int)).bind fun y175 => ((table_headerLength.f (l0_1.length : Int)).bind fun t178 => ((table_low.f k t178 2).bind fun t179 => (if y175.length + t179.length < 140737488355328 then ((some (y175 ++ t179 : List Int)).bind fun y182 => ((table_length.f k l0_1).bind fun t185 => ((table_low.f k t185 2).bind fun t186 => (if y182.length + t186.length < 140737488355328 then ((some (y182 ++ t186 : List Int)).bind fun y189 => ((some (([((l0_1.length : Int)) % 256, 0] : List Int) : List Int)).bind fun y192 => (if y189.length + y192.length < 140737488355328 then (table_header.l0 k (y189 ++ y192) l0_1 (l0_1.length : Int) 0) else (none)))) else (none))))) else (none))))) else (none)))
theorem table_header.mono_l : ∀ k, (∀ y0 y1 y2 y3, LeO (table_header.l0 k y0 y1 y2 y3) (table_header.l0 (k + 1) y0 y1 y2 y3))
  | 0 => fun _ _ _ _ r h => by simp [table_header.l0] at h
  | k + 1 => by
    have ih0 := table_header.mono_l k
    · intro y0 y1 y2 y3
      unfold table_header.l0
      repeat' first
      | (with_reducible exact ih0 _ _ _ _)
      | (with_reducible exact table_length.mono _ _)
      | (with_reducible exact table_low.mono _ _ _)
      | (with_reducible exact LeO.refl _)
      | (with_reducible exact LeO.none _)
      | (with_reducible refine LeO.ite ?_ ?_)
      | (with_reducible refine LeO.bind ?_ (fun _ => ?_))
      | exact ih0 _ _ _ _
      | exact table_length.mono _ _
      | exact table_low.mono _ _ _
      | exact LeO.none _
      | refine LeO.ite ?_ ?_
      | refine LeO.bind ?_ (fun _ => ?_)
theorem table_header.mono : ∀ a0 a1 a2 k, LeO (table_header.f k a0 a1 a2) (table_header.f (k + 1) a0 a1 a2) := by
  intro a0 a1 a2 k
  have ih0 := table_header.mono_l k
  unfold table_header.f
  repeat' first
      | (with_reducible exact ih0 _ _ _ _)
      | (with_reducible exact table_length.mono _ _)
      | (with_reducible exact table_low.mono _ _ _)
      | (with_reducible exact LeO.refl _)
      | (with_reducible exact LeO.none _)
      | (with_reducible refine LeO.ite ?_ ?_)
      | (with_reducible refine LeO.bind ?_ (fun _ => ?_))
      | exact ih0 _ _ _ _
      | exact table_length.mono _ _
      | exact table_low.mono _ _ _
      | exact LeO.none _
      | refine LeO.ite ?_ ?_
      | refine LeO.bind ?_ (fun _ => ?_)
def table_header.T1 : Bool × List (List Nat × List Nat) := (true, [([], []), ([0], [0]), ([1], [1]), ([2], [2]), ([], []), ([4], [4]), ([5], [5]), ([6], [6]), ([3, 7, 7], [3, 7]), ([8, 8, 0, 1, 2, 3, 4, 5, 6, 7, 8], [8])])
def table_header.B1 : List Nat := [0, 1, 3, 7, 0, 16, 48, 112, 255, 511]
theorem table_header.tab1 : rtab .any (opsOf Tryz.f62 1) = table_header.T1 := by kernel_rfl
theorem table_header.bits1 : waitsOk table_header.T1.2 table_header.B1 = true := by kernel_rfl
set_option maxHeartbeats 8000000 in
set_option maxRecDepth 100000 in
theorem table_header.calls (k : Nat) (a0_0 : Int) (A0_1 : Option Addr) (c0_1 : Nat) (l0_1 : List (S23)) (A0_2 : Option Addr) (c0_2 : Nat) (l0_2 : List (S46)) (r : List Int) (w : World) (hr0_1 : Kd.C k23 w A0_1 l0_1.length l0_1) (hc0_1 : l0_1.length ≤ c0_1) (hr0_2 : Kd.C k46 w A0_2 l0_2.length l0_2) (hc0_2 : l0_2.length ≤ c0_2) (h : table_header.f k a0_0 l0_1 l0_2 = some r) :
    Calls Tryz.prog 62 #[.agg #[.int .i64 a0_0, .slice A0_1 l0_1.length c0_1, .slice A0_2 l0_2.length c0_2]] w fun e w' => ∃ v0_ : Value, e = .returned (v0_) ∧ Kd.R (Kd.int .u8) 5 w' w.heap.size (fun _ => True) v0_ r ∧ Below w.heap.size w w' := by
  have hu35 := Tryz.underlying35
  have hu23 := Tryz.underlying23
  have HR0_1 := Aside0.mk hr0_1
  have HC0_1 := Aside0.mk hc0_1
  clear hr0_1 hc0_1
  have HR0_2 := Aside0.mk hr0_2
  have HC0_2 := Aside0.mk hc0_2
  clear hr0_2 hc0_2
  have HB := Aside0.mk (Below.refl w.heap.size w)
  have H : ((some (([67, (a0_0) % 256] : List Int) : List Int)).bind fun y169 => ((table_low.f k (l0_2.length : Int) 4).bind fun t172 => (if y169.length + t172.length < 140737488355328 then ((some (y169 ++ t172 : List Int)).bind fun y175 => ((table_headerLength.f (l0_1.length : Int)).bind fun t178 => ((table_low.f k t178 2).bind fun t179 => (if y175.length + t179.length < 140737488355328 then ((some (y175 ++ t179 : List Int)).bind fun y182 => ((table_length.f k l0_1).bind fun t185 => ((table_low.f k t185 2).bind fun t186 => (if y182.length + t186.length < 140737488355328 then ((some (y182 ++ t186 : List Int)).bind fun y189 => ((some (([((l0_1.length : Int)) % 256, 0] : List Int) : List Int)).bind fun y192 => (if y189.length + y192.length < 140737488355328 then (table_header.l0 k (y189 ++ y192) l0_1 (l0_1.length : Int) 0) else (none)))) else (none))))) else (none))))) else (none)))) = some r := h
  clear h
  obtain ⟨y169, hy169⟩ : ∃ y_ : List Int, y_ = (([67, (a0_0) % 256] : List Int)) := ⟨_, rfl⟩
  replace H : ((table_low.f k (l0_2.length : Int) 4).bind fun t172 => (if y169.length + t172.length < 140737488355328 then ((some (y169 ++ t172 : List Int)).bind fun y175 => ((table_headerLength.f (l0_1.length : Int)).bind fun t178 => ((table_low.f k t178 2).bind fun t179 => (if y175.length + t179.length < 140737488355328 then ((some (y175 ++ t179 : List Int)).bind fun y182 => ((table_length.f k l0_1).bind fun t185 => ((table_low.f k t185 2).bind fun t186 => (if y182.length + t186.length < 140737488355328 then ((some (y182 ++ t186 : List Int)).bind fun y189 => ((some (([((l0_1.length : Int)) % 256, 0] : List Int) : List Int)).bind fun y192 => (if y189.length + y192.length < 140737488355328 then (table_header.l0 k (y189 ++ y192) l0_1 (l0_1.length : Int) 0) else (none)))) else (none))))) else (none))))) else (none))) = some r := by rw [hy169]; exact H
  have Ny169 := Aside0.mk hy169
  clear hy169
  replace H := Option.bind_eq_some_iff.mp H
  obtain ⟨t172, A20, H⟩ := H
  replace H : (if y169.length + t172.length < 140737488355328 then ((some (y169 ++ t172 : List Int)).bind fun y175 => ((table_headerLength.f (l0_1.length : Int)).bind fun t178 => ((table_low.f k t178 2).bind fun t179 => (if y175.length + t179.length < 140737488355328 then ((some (y175 ++ t179 : List Int)).bind fun y182 => ((table_length.f k l0_1).bind fun t185 => ((table_low.f k t185 2).bind fun t186 => (if y182.length + t186.length < 140737488355328 then ((some (y182 ++ t186 : List Int)).bind fun y189 => ((some (([((l0_1.length : Int)) % 256, 0] : List Int) : List Int)).bind fun y192 => (if y189.length + y192.length < 140737488355328 then (table_header.l0 k (y189 ++ y192) l0_1 (l0_1.length : Int) 0) else (none)))) else (none))))) else (none))))) else (none)) = some r := H
  have A2 := Aside0.mk A20
  clear A20
  by_cases c3 : y169.length + t172.length < 140737488355328
  · rw [if_pos c3] at H
    have LMc3 := Aside0.mk c3
    clear c3
    obtain ⟨y175, hy175⟩ : ∃ y_ : List Int, y_ = (y169 ++ t172) := ⟨_, rfl⟩
    replace H : ((table_headerLength.f (l0_1.length : Int)).bind fun t178 => ((table_low.f k t178 2).bind fun t179 => (if y175.length + t179.length < 140737488355328 then ((some (y175 ++ t179 : List Int)).bind fun y182 => ((table_length.f k l0_1).bind fun t185 => ((table_low.f k t185 2).bind fun t186 => (if y182.length + t186.length < 140737488355328 then ((some (y182 ++ t186 : List Int)).bind fun y189 => ((some (([((l0_1.length : Int)) % 256, 0] : List Int) : List Int)).bind fun y192 => (if y189.length + y192.length < 140737488355328 then (table_header.l0 k (y189 ++ y192) l0_1 (l0_1.length : Int) 0) else (none)))) else (none))))) else (none)))) = some r := by rw [hy175]; exact H
    have Ny175 := Aside0.mk hy175
    clear hy175
    replace H := Option.bind_eq_some_iff.mp H
    obtain ⟨t178, A40, H⟩ := H
    replace H : ((table_low.f k t178 2).bind fun t179 => (if y175.length + t179.length < 140737488355328 then ((some (y175 ++ t179 : List Int)).bind fun y182 => ((table_length.f k l0_1).bind fun t185 => ((table_low.f k t185 2).bind fun t186 => (if y182.length + t186.length < 140737488355328 then ((some (y182 ++ t186 : List Int)).bind fun y189 => ((some (([((l0_1.length : Int)) % 256, 0] : List Int) : List Int)).bind fun y192 => (if y189.length + y192.length < 140737488355328 then (table_header.l0 k (y189 ++ y192) l0_1 (l0_1.length : Int) 0) else (none)))) else (none))))) else (none))) = some r := H
    have A4 := Aside0.mk A40
    clear A40
    replace H := Option.bind_eq_some_iff.mp H
    obtain ⟨t179, A50, H⟩ := H
    replace H : (if y175.length + t179.length < 140737488355328 then ((some (y175 ++ t179 : List Int)).bind fun y182 => ((table_length.f k l0_1).bind fun t185 => ((table_low.f k t185 2).bind fun t186 => (if y182.length + t186.length < 140737488355328 then ((some (y182 ++ t186 : List Int)).bind fun y189 => ((some (([((l0_1.length : Int)) % 256, 0] : List Int) : List Int)).bind fun y192 => (if y189.length + y192.length < 140737488355328 then (table_header.l0 k (y189 ++ y192) l0_1 (l0_1.length : Int) 0) else (none)))) else (none))))) else (none)) = some r := H
    have A5 := Aside0.mk A50
    clear A50
    by_cases c6 : y175.length + t179.length < 140737488355328
    · rw [if_pos c6] at H
      have LMc6 := Aside0.mk c6
      clear c6
      obtain ⟨y182, hy182⟩ : ∃ y_ : List Int, y_ = (y175 ++ t179) := ⟨_, rfl⟩
      replace H : ((table_length.f k l0_1).bind fun t185 => ((table_low.f k t185 2).bind fun t186 => (if y182.length + t186.length < 140737488355328 then ((some (y182 ++ t186 : List Int)).bind fun y189 => ((some (([((l0_1.length : Int)) % 256, 0] : List Int) : List Int)).bind fun y192 => (if y189.length + y192.length < 140737488355328 then (table_header.l0 k (y189 ++ y192) l0_1 (l0_1.length : Int) 0) else (none)))) else (none)))) = some r := by rw [hy182]; exact H
      have Ny182 := Aside0.mk hy182
      clear hy182
      replace H := Option.bind_eq_some_iff.mp H
      obtain ⟨t185, A70, H⟩ := H
      replace H : ((table_low.f k t185 2).bind fun t186 => (if y182.length + t186.length < 140737488355328 then ((some (y182 ++ t186 : List Int)).bind fun y189 => ((some (([((l0_1.length : Int)) % 256, 0] : List Int) : List Int)).bind fun y192 => (if y189.length + y192.length < 140737488355328 then (table_header.l0 k (y189 ++ y192) l0_1 (l0_1.length : Int) 0) else (none)))) else (none))) = some r := H
      have A7 := Aside0.mk A70
      clear A70
      replace H := Option.bind_eq_some_iff.mp H
      obtain ⟨t186, A80, H⟩ := H
      replace H : (if y182.length + t186.length < 140737488355328 then ((some (y182 ++ t186 : List Int)).bind fun y189 => ((some (([((l0_1.length : Int)) % 256, 0] : List Int) : List Int)).bind fun y192 => (if y189.length + y192.length < 140737488355328 then (table_header.l0 k (y189 ++ y192) l0_1 (l0_1.length : Int) 0) else (none)))) else (none)) = some r := H
      have A8 := Aside0.mk A80
      clear A80
      by_cases c9 : y182.length + t186.length < 140737488355328
      · rw [if_pos c9] at H
        have LMc9 := Aside0.mk c9
        clear c9
        obtain ⟨y189, hy189⟩ : ∃ y_ : List Int, y_ = (y182 ++ t186) := ⟨_, rfl⟩
        replace H : ((some (([((l0_1.length : Int)) % 256, 0] : List Int) : List Int)).bind fun y192 => (if y189.length + y192.length < 140737488355328 then (table_header.l0 k (y189 ++ y192) l0_1 (l0_1.length : Int) 0) else (none))) = some r := by rw [hy189]; exact H
        have Ny189 := Aside0.mk hy189
        clear hy189
        obtain ⟨y192, hy192⟩ : ∃ y_ : List Int, y_ = (([((l0_1.length : Int)) % 256, 0] : List Int)) := ⟨_, rfl⟩
        replace H : (if y189.length + y192.length < 140737488355328 then (table_header.l0 k (y189 ++ y192) l0_1 (l0_1.length : Int) 0) else (none)) = some r := by rw [hy192]; exact H
        have Ny192 := Aside0.mk hy192
        clear hy192
        by_cases c10 : y189.length + y192.length < 140737488355328
        · rw [if_pos c10] at H
          have LMc10 := Aside0.mk c10
          clear c10
          obtain ⟨y195, hy195⟩ : ∃ y_ : List Int, y_ = (y189 ++ y192) := ⟨_, rfl⟩
          replace H : (table_header.l0 k y195 l0_1 (l0_1.length : Int) 0) = some r := by rw [hy195]; exact H
          have Ny195 := Aside0.mk hy195
          clear hy195
          have H' := Aside0.mk H
          clear H
          go_enter Tryz.func62, Tryz.ntmps62
          try go_wp2_with (first | ((with_reducible refine gate_dst (N := 1) rfl ?_); refine box_event ?hg (N := 1) ?hd (cs := #[.int .i64 a0_0, .slice A0_1 l0_1.length c0_1, .slice A0_2 l0_2.length c0_2]) (t := 35) ?hr ?_; (case hd => rfl); (case hg => rfl); (case hr => go_simp; try rfl); intro gb168 hg w11 hbox hb; have n0_ := Aside0.mk (below_step (by repeat (first | (with_reducible first | exact HB.out | apply below_alloc | apply pw_below_drewN | apply below_drew1) | exact HB.out)) hb); have n1_ := Aside0.mk (hbox); have n3_ := Aside0.mk ((by rw [hg]; exact (below_size (by repeat (first | (with_reducible first | exact HB.out | apply below_alloc | apply pw_below_drewN | apply below_drew1) | exact HB.out))) : w.heap.size ≤ gb168)); clear HB; have HB := n0_; have BK168 := n1_; have GE168 := n3_; clear n0_ n1_ n3_; clear hb hbox hg))
          have n0_ := Aside0.mk (blk_drew BK168.out)
          have n1_ := Aside0.mk (below_drew1 HB.out)
          clear BK168
          clear HB
          have BK168 := n0_
          have HB := n1_
          clear n0_ n1_
          refine start_ (n := 10) (S := fun w' => w'.cell? ⟨gb168, 0, none⟩ = some (.int .i64 a0_0) ∧ w'.cell? ⟨gb168, 1, none⟩ = some (.slice A0_1 l0_1.length c0_1) ∧ w'.cell? ⟨gb168, 2, none⟩ = some (.slice A0_2 l0_2.length c0_2)) (ds := []) #[false, false, false, false, false, false, false, false, false, false] (by kernel_rfl) rfl rfl ⟨(blk_cell BK168.out 0).trans rfl, (blk_cell BK168.out 1).trans rfl, (blk_cell BK168.out 2).trans rfl⟩ (fun hHeld => ?_); refine with_tabW table_header.tab1 table_header.bits1 (fun HT_ HW_ => ?_)
          generalize w11.drew = w12 at BK168 HB hHeld ⊢
          refine pure_ (i := 0) (N := some 7) (v := ?_) (a' := ?_) #[true, false, false, false, false, false, false, false, false, false] rfl rfl (any_of HT_.out (by kernel_rfl)) (fun _ _ _ h => h) (Or.inl ⟨by rfl, ?_⟩) ?_ ?_
          rotate_left
          · intro w'
            go_simp
            with_reducible rfl
          rotate_left
          · simp only [Act.put, List.setIfInBounds_toArray, List.set_cons_zero, List.set_cons_succ, i64_w, i32_w]
            rfl
          refine pure_ (i := 4) (N := some 11) (v := ?_) (a' := ?_) #[true, false, false, false, true, false, false, false, false, false] rfl rfl (any_of HT_.out (by kernel_rfl)) (fun _ _ _ h => h) (Or.inl ⟨by rfl, ?_⟩) ?_ ?_
          rotate_left
          · intro w'
            go_simp
            with_reducible rfl
          rotate_left
          · simp only [Act.put, List.setIfInBounds_toArray, List.set_cons_zero, List.set_cons_succ, i64_w, i32_w]
            rfl
          refine take_ (i := 1) (N := some 8) (v := ?_) (a' := ?_) #[true, true, false, false, true, false, false, false, false, false] rfl rfl (take_ofW HT_.out HW_.out (by kernel_rfl)) (fun _ _ _ h => h) (Or.inl ⟨by rfl, ?_⟩) hHeld ?_ ?_
          rotate_left
          · rintro w' ⟨s0, s1, s2⟩
            go_simp
            with_reducible rfl
          rotate_left
          · simp only [Act.put, List.setIfInBounds_toArray, List.set_cons_zero, List.set_cons_succ, i64_w, i32_w]
            rfl
          refine pure_ (i := 2) (N := some 9) (v := ?_) (a' := ?_) #[true, true, true, false, true, false, false, false, false, false] rfl rfl (any_of HT_.out (by kernel_rfl)) (fun _ _ _ h => h) (Or.inl ⟨by rfl, ?_⟩) ?_ ?_
          rotate_left
          · intro w'
            go_simp
            with_reducible rfl
          rotate_left
          · simp only [Act.put, List.setIfInBounds_toArray, List.set_cons_zero, List.set_cons_succ, i64_w, i32_w]
            rfl
          refine take_ (i := 5) (N := some 12) (v := ?_) (a' := ?_) #[true, true, true, false, true, true, false, false, false, false] rfl rfl (take_ofW HT_.out HW_.out (by kernel_rfl)) (fun _ _ _ h => h) (Or.inl ⟨by rfl, ?_⟩) hHeld ?_ ?_
          rotate_left
          · rintro w' ⟨s0, s1, s2⟩
            go_simp
            with_reducible rfl
          rotate_left
          · simp only [Act.put, List.setIfInBounds_toArray, List.set_cons_zero, List.set_cons_succ, i64_w, i32_w]
            rfl
          refine pure_ (i := 6) (N := some 13) (v := ?_) (a' := ?_) #[true, true, true, false, true, true, true, false, false, false] rfl rfl (any_of HT_.out (by kernel_rfl)) (fun _ _ _ h => h) (Or.inl ⟨by rfl, ?_⟩) ?_ ?_
          rotate_left
          · intro w'
            go_simp
            with_reducible rfl
          rotate_left
          · simp only [Act.put, List.setIfInBounds_toArray, List.set_cons_zero, List.set_cons_succ, i64_w, i32_w]
            rfl
          refine join_ (σ := Value × Value) 2 #[true, true, true, true, true, true, true, true, false, false] (fun s_ => [(10, s_.1), (14, s_.2)]) (fun s_ w' => (w'.cell? ⟨gb168, 0, none⟩ = some (.int .i64 a0_0) ∧ w'.cell? ⟨gb168, 1, none⟩ = some (.slice A0_1 l0_1.length c0_1) ∧ w'.cell? ⟨gb168, 2, none⟩ = some (.slice A0_2 l0_2.length c0_2)) ∧ (Kd.R (Kd.int .u8) 5 w' w.heap.size (fun k_ => some k_ ≠ (s_.2 : Value).ownBlock) s_.1 y169) ∧ (Kd.R (Kd.int .u8) 5 w' w.heap.size (fun k_ => some k_ ≠ (s_.1 : Value).ownBlock) s_.2 t172) ∧ (w'.heap[gb168]? = some (.cells #[.int .i64 a0_0, .slice A0_1 l0_1.length c0_1, .slice A0_2 l0_2.length c0_2] 35 (0, 0))) ∧ (Below w.heap.size w w')) ?_ ?_
          rotate_left
          · intro hCont
            refine two_ (i := 3) (j := 7) (Ni := some 10) (Nj := some 14) #[true, true, true, true, true, true, true, false, false, false] #[true, true, true, false, true, true, true, true, false, false] rfl rfl rfl rfl (two_of HT_.out (by kernel_rfl)) (by decide) (by decide) (fun K hK => ?_) (fun K hK => ?_)
            · skip
              refine Kd.R_lit_step (Kd.int .u8) _ 5 ?hg (N := 10) ?hd (xs := ([67, (a0_0) % 256] : List Int)) (inner := [.int .u8 67, .int .u8 ((a0_0) % 256)]) (ok := fun _ => True) (okp := fun _ => True) ?hr ?hp (fun _ hk => hk) trivial (Below.refl _ _) (Nat.le_refl _) (by simp) ?_; (case hd => rfl); (case hg => rfl); (case hr => go_simp; try rfl); (case hp => exact (Reps.one (show Kd.M (Kd.int .u8) _ _ _ 67 [.int .u8 67] from rfl) (Reps.one (show Kd.M (Kd.int .u8) _ _ _ ((a0_0) % 256) [.int .u8 ((a0_0) % 256)] from rfl) (Reps.none _ _))))
              intro v170 w13 ho14 hb hg_ hnew_
              clear hg_ hnew_
              (first | rw [← Ny169.out] at ho14 | (simp only [Int.reduceToNat] at ho14; rw [← Ny169.out] at ho14))
              have n0_ := Aside0.mk (Kd.R_lower ho14 (below_size (by repeat (first | (with_reducible first | exact HB.out | apply below_alloc | apply pw_below_drewN | apply below_drew1 | refine below_set ?_ GE168.out) | exact HB.out))))
              have n1_ := Aside0.mk (blk_below (g := gb168) (o := .cells #[.int .i64 a0_0, .slice A0_1 l0_1.length c0_1, .slice A0_2 l0_2.length c0_2] 35 (0, 0)) (by (with_reducible repeat (first | refine blk_drewN ?_ _ | refine blk_drew ?_ | refine blk_alloc ?_ _)); exact BK168.out) hb)
              have n2_ := Aside0.mk (below_step (by repeat (first | (with_reducible first | exact HB.out | apply below_alloc | apply pw_below_drewN | apply below_drew1 | refine below_set ?_ GE168.out) | exact HB.out)) hb)
              clear BK168
              clear HB
              have HO171 := n0_
              have BK168 := n1_
              have HB := n2_
              clear n0_ n1_ n2_
              clear hb ho14
              refine hK.out _ _ ⟨(blk_cell BK168.out 0).trans rfl, (blk_cell BK168.out 1).trans rfl, (blk_cell BK168.out 2).trans rfl⟩ (fun hHeld => ?_)
              clear hK K
              refine norm_ (a' := ?_) ?_ ?_
              rotate_left
              · show Act.put _ (some 10) _ = _
                simp only [Act.put, List.setIfInBounds_toArray, List.set_cons_zero, List.set_cons_succ, i64_w, i32_w]
                rfl
              refine one_ (i := 7) (N := some 14) #[true, true, true, true, true, true, true, true, false, false] rfl rfl (one_of HT_.out (by kernel_rfl)) (by decide) (fun K hK => ?_)
              refine goes_ Tryz.func109 (by kernel_rfl) rfl #[.int .i64 (l0_2.length : Int), .int .i64 4] (by rfl) rfl rfl (by (try simp only [List.map_toArray, List.map_cons, List.map_nil]); first | done | rfl) ?_
              with_reducible refine (table_low.calls k (l0_2.length : Int) 4 t172 _ A2.out).mono ?_
              rintro e w15 ⟨v173, rfl, ho0, hb⟩
              refine ⟨_, rfl, ?_⟩
              have n0_ := Aside0.mk (Kd.R_elder' (by (with_reducible repeat (first | apply Kd.R_alloc | apply Kd.R_drewN | apply Kd.R_drew)); exact HO171.out) (Kd.R_base ho0) hb)
              have n1_ := Aside0.mk (Kd.R_lower (Kd.R_new' ho0 (Kd.R_lt (by (with_reducible repeat (first | apply Kd.R_alloc | apply Kd.R_drewN | apply Kd.R_drew)); exact HO171.out))) (below_size (by repeat (first | (with_reducible first | exact HB.out | apply below_alloc | apply pw_below_drewN | apply below_drew1 | refine below_set ?_ GE168.out) | exact HB.out))))
              have n2_ := Aside0.mk (blk_below (g := gb168) (o := .cells #[.int .i64 a0_0, .slice A0_1 l0_1.length c0_1, .slice A0_2 l0_2.length c0_2] 35 (0, 0)) (by (with_reducible repeat (first | refine blk_drewN ?_ _ | refine blk_drew ?_ | refine blk_alloc ?_ _)); exact BK168.out) hb)
              have n3_ := Aside0.mk (below_step (by repeat (first | (with_reducible first | exact HB.out | apply below_alloc | apply pw_below_drewN | apply below_drew1 | refine below_set ?_ GE168.out) | exact HB.out)) hb)
              clear HO171
              clear BK168
              clear HB
              have HO171 := n0_
              have HO174 := n1_
              have BK168 := n2_
              have HB := n3_
              clear n0_ n1_ n2_ n3_
              (try clear hb)
              (try clear hb2)
              (try clear hk)
              (try clear hi)
              (try clear ho0)
              refine hK.out _ _ ⟨(blk_cell BK168.out 0).trans rfl, (blk_cell BK168.out 1).trans rfl, (blk_cell BK168.out 2).trans rfl⟩ (fun hHeld => ?_)
              clear hK K
              refine norm_ (a' := ?_) ?_ ?_
              rotate_left
              · show Act.put _ (some 14) _ = _
                simp only [Act.put, List.setIfInBounds_toArray, List.set_cons_zero, List.set_cons_succ, i64_w, i32_w]
                rfl
              exact norm_ (by simp only [putAll, Act.put, List.setIfInBounds_toArray, List.set_cons_zero, List.set_cons_succ]) (hCont (v170, v173) _ ⟨hHeld, (by (with_reducible repeat (first | apply Kd.R_alloc | apply Kd.R_drewN | apply Kd.R_drew)); exact Kd.R_mono HO171.out (fun _ hk => hk.2)), (by (with_reducible repeat (first | apply Kd.R_alloc | apply Kd.R_drewN | apply Kd.R_drew)); exact Kd.R_mono HO174.out (fun _ hk => hk.2)), (by (with_reducible repeat (first | refine blk_drewN ?_ _ | refine blk_drew ?_ | refine blk_alloc ?_ _)); exact BK168.out), (by repeat (first | (with_reducible first | exact HB.out | apply below_alloc | apply pw_below_drewN | apply below_drew1 | refine below_set ?_ GE168.out) | exact HB.out))⟩)
            · skip
              refine goes_ Tryz.func109 (by kernel_rfl) rfl #[.int .i64 (l0_2.length : Int), .int .i64 4] (by rfl) rfl rfl (by (try simp only [List.map_toArray, List.map_cons, List.map_nil]); first | done | rfl) ?_
              with_reducible refine (table_low.calls k (l0_2.length : Int) 4 t172 _ A2.out).mono ?_
              rintro e w13 ⟨v173, rfl, ho0, hb⟩
              refine ⟨_, rfl, ?_⟩
              have n0_ := Aside0.mk (Kd.R_lower ho0 (below_size (by repeat (first | (with_reducible first | exact HB.out | apply below_alloc | apply pw_below_drewN | apply below_drew1 | refine below_set ?_ GE168.out) | exact HB.out))))
              have n1_ := Aside0.mk (blk_below (g := gb168) (o := .cells #[.int .i64 a0_0, .slice A0_1 l0_1.length c0_1, .slice A0_2 l0_2.length c0_2] 35 (0, 0)) (by (with_reducible repeat (first | refine blk_drewN ?_ _ | refine blk_drew ?_ | refine blk_alloc ?_ _)); exact BK168.out) hb)
              have n2_ := Aside0.mk (below_step (by repeat (first | (with_reducible first | exact HB.out | apply below_alloc | apply pw_below_drewN | apply below_drew1 | refine below_set ?_ GE168.out) | exact HB.out)) hb)
              clear BK168
              clear HB
              have HO174 := n0_
              have BK168 := n1_
              have HB := n2_
              clear n0_ n1_ n2_
              (try clear hb)
              (try clear hb2)
              (try clear hk)
              (try clear hi)
              (try clear ho0)
              refine hK.out _ _ ⟨(blk_cell BK168.out 0).trans rfl, (blk_cell BK168.out 1).trans rfl, (blk_cell BK168.out 2).trans rfl⟩ (fun hHeld => ?_)
              clear hK K
              refine norm_ (a' := ?_) ?_ ?_
              rotate_left
              · show Act.put _ (some 14) _ = _
                simp only [Act.put, List.setIfInBounds_toArray, List.set_cons_zero, List.set_cons_succ, i64_w, i32_w]
                rfl
              refine one_ (i := 3) (N := some 10) #[true, true, true, true, true, true, true, true, false, false] rfl rfl (one_of HT_.out (by kernel_rfl)) (by decide) (fun K hK => ?_)
              refine Kd.R_lit_step (Kd.int .u8) _ 5 ?hg (N := 10) ?hd (xs := ([67, (a0_0) % 256] : List Int)) (inner := [.int .u8 67, .int .u8 ((a0_0) % 256)]) (ok := fun _ => True) (okp := fun _ => True) ?hr ?hp (fun _ hk => hk) trivial (Below.refl _ _) (Nat.le_refl _) (by simp) ?_; (case hd => rfl); (case hg => rfl); (case hr => go_simp; try rfl); (case hp => exact (Reps.one (show Kd.M (Kd.int .u8) _ _ _ 67 [.int .u8 67] from rfl) (Reps.one (show Kd.M (Kd.int .u8) _ _ _ ((a0_0) % 256) [.int .u8 ((a0_0) % 256)] from rfl) (Reps.none _ _))))
              intro v170 w14 ho15 hb hg_ hnew_
              clear hg_ hnew_
              (first | rw [← Ny169.out] at ho15 | (simp only [Int.reduceToNat] at ho15; rw [← Ny169.out] at ho15))
              have n0_ := Aside0.mk (Kd.R_elder' (by (with_reducible repeat (first | apply Kd.R_alloc | apply Kd.R_drewN | apply Kd.R_drew)); exact HO174.out) (Kd.R_base ho15) hb)
              have n1_ := Aside0.mk (Kd.R_lower (Kd.R_new' ho15 (Kd.R_lt (by (with_reducible repeat (first | apply Kd.R_alloc | apply Kd.R_drewN | apply Kd.R_drew)); exact HO174.out))) (below_size (by repeat (first | (with_reducible first | exact HB.out | apply below_alloc | apply pw_below_drewN | apply below_drew1 | refine below_set ?_ GE168.out) | exact HB.out))))
              have n2_ := Aside0.mk (blk_below (g := gb168) (o := .cells #[.int .i64 a0_0, .slice A0_1 l0_1.length c0_1, .slice A0_2 l0_2.length c0_2] 35 (0, 0)) (by (with_reducible repeat (first | refine blk_drewN ?_ _ | refine blk_drew ?_ | refine blk_alloc ?_ _)); exact BK168.out) hb)
              have n3_ := Aside0.mk (below_step (by repeat (first | (with_reducible first | exact HB.out | apply below_alloc | apply pw_below_drewN | apply below_drew1 | refine below_set ?_ GE168.out) | exact HB.out)) hb)
              clear HO174
              clear BK168
              clear HB
              have HO174 := n0_
              have HO171 := n1_
              have BK168 := n2_
              have HB := n3_
              clear n0_ n1_ n2_ n3_
              clear hb ho15
              refine hK.out _ _ ⟨(blk_cell BK168.out 0).trans rfl, (blk_cell BK168.out 1).trans rfl, (blk_cell BK168.out 2).trans rfl⟩ (fun hHeld => ?_)
              clear hK K
              refine norm_ (a' := ?_) ?_ ?_
              rotate_left
              · show Act.put _ (some 10) _ = _
                simp only [Act.put, List.setIfInBounds_toArray, List.set_cons_zero, List.set_cons_succ, i64_w, i32_w]
                rfl
              exact norm_ (by simp only [putAll, Act.put, List.setIfInBounds_toArray, List.set_cons_zero, List.set_cons_succ]) (hCont (v170, v173) _ ⟨hHeld, (by (with_reducible repeat (first | apply Kd.R_alloc | apply Kd.R_drewN | apply Kd.R_drew)); exact Kd.R_mono HO171.out (fun _ hk => hk.2)), (by (with_reducible repeat (first | apply Kd.R_alloc | apply Kd.R_drewN | apply Kd.R_drew)); exact Kd.R_mono HO174.out (fun _ hk => hk.2)), (by (with_reducible repeat (first | refine blk_drewN ?_ _ | refine blk_drew ?_ | refine blk_alloc ?_ _)); exact BK168.out), (by repeat (first | (with_reducible first | exact HB.out | apply below_alloc | apply pw_below_drewN | apply below_drew1 | refine below_set ?_ GE168.out) | exact HB.out))⟩)
          rintro ⟨v170, v173⟩ w16 ⟨hS_, h0_, h1_, h2_, h3_⟩
          have n0_ : Aside0 (Kd.R (Kd.int .u8) 5 w16 w.heap.size (fun k_ => some k_ ≠ (v173 : Value).ownBlock) v170 y169) := ⟨h0_⟩
          have n1_ : Aside0 (Kd.R (Kd.int .u8) 5 w16 w.heap.size (fun k_ => some k_ ≠ (v170 : Value).ownBlock) v173 t172) := ⟨h1_⟩
          have n2_ : Aside0 (w16.heap[gb168]? = some (.cells #[.int .i64 a0_0, .slice A0_1 l0_1.length c0_1, .slice A0_2 l0_2.length c0_2] 35 (0, 0))) := ⟨h2_⟩
          have n3_ : Aside0 (Below w.heap.size w w16) := ⟨h3_⟩
          clear BK168
          clear HB
          clear h0_ h1_ h2_ h3_
          have HO171 := n0_
          have HO174 := n1_
          have BK168 := n2_
          have HB := n3_
          clear n0_ n1_ n2_ n3_
          have hHeld : w16.cell? ⟨gb168, 0, none⟩ = some (.int .i64 a0_0) ∧ w16.cell? ⟨gb168, 1, none⟩ = some (.slice A0_1 l0_1.length c0_1) ∧ w16.cell? ⟨gb168, 2, none⟩ = some (.slice A0_2 l0_2.length c0_2) := hS_
          obtain ⟨Ao18, co18, eo18⟩ := Kd.R_slice HO174.out
          (first | subst eo18 | (injection eo18 with f1_ f2_ f3_; have f4_ := f1_.symm; have f5_ := f3_.symm; clear f1_ f2_ f3_; subst f4_; subst f5_))
          refine norm_ (a' := ?_) ?_ ?_
          rotate_left
          · simp only [putAll, Act.put, List.setIfInBounds_toArray, List.set_cons_zero, List.set_cons_succ]
            rfl
          refine one_ (i := 8) (N := some 15) #[true, true, true, true, true, true, true, true, true, false] rfl rfl (one_of HT_.out (by kernel_rfl)) (by decide) (fun K hK => ?_)
          refine Kd.R_append_rows_step (Kd.int .u8) (w0 := w) w.heap.size (by rfl) (.tmp 10) (.tmp 14) 37 5 (.int .u8 0) 1 rfl Tryz.underlying37 info5 rfl (by decide) (by omega) v170 y169 t172 _ _ _ (fun k_ => some k_ ≠ (.slice Ao18 t172.length co18 : Value).ownBlock) (fun _ => False) rfl rfl ?aO ?aR (fun _ _ h => h) (fun _ h => h.elim) ?aF ?aB ?aS ?aL ?_
          (case aR => repeat (first | exact (Kd.R_reads' HO174.out).2.2 | (with_reducible refine Kd.C_alloc ?_ _) | (with_reducible refine Kd.C_drewN ?_ _) | (with_reducible refine Kd.C_drew ?_)))
          (case aB => exact (by repeat (first | (with_reducible first | exact HB.out | apply below_alloc | apply pw_below_drewN | apply below_drew1 | refine below_set ?_ GE168.out) | exact HB.out)))
          (case aF => exact (fun k_ hk => Kd.fresh' (Kd.R_lt (by (with_reducible repeat (first | apply Kd.R_alloc | apply Kd.R_drewN | apply Kd.R_drew)); exact HO174.out)) k_ hk))
          (case aO => exact (by (with_reducible repeat (first | apply Kd.R_alloc | apply Kd.R_drewN | apply Kd.R_drew)); exact HO171.out))
          (case aS => exact (below_size (by repeat (first | (with_reducible first | exact HB.out | apply below_alloc | apply pw_below_drewN | apply below_drew1 | refine below_set ?_ GE168.out) | exact HB.out))))
          (case aL => have := LMc3.out; omega)
          intro v176 w17 ho hb hg hat
          rw [← Ny175.out] at ho
          have n0_ := Aside0.mk (blk_grown (g := gb168) (o := .cells #[.int .i64 a0_0, .slice A0_1 l0_1.length c0_1, .slice A0_2 l0_2.length c0_2] 35 (0, 0)) (by (with_reducible repeat (first | refine blk_drewN ?_ _ | refine blk_drew ?_ | refine blk_alloc ?_ _)); exact BK168.out) hg (Kd.R_ne HO171.out BK168.out (by decide)))
          have n1_ := Aside0.mk (Kd.R_after (ok := (fun _ => True)) (by (with_reducible repeat (first | apply Kd.R_alloc | apply Kd.R_drewN | apply Kd.R_drew)); exact Kd.R_mono HO174.out (fun _ hk => ⟨trivial, hk⟩)) hg hat)
          have n2_ := Aside0.mk (hb)
          have n3_ := Aside0.mk (ho)
          clear BK168
          clear HO174
          clear HB
          clear HO171
          have BK168 := n0_
          have HO174 := n1_
          have HB := n2_
          have HO177 := n3_
          clear n0_ n1_ n2_ n3_
          clear ho hb hg hat
          refine hK.out _ _ ⟨(blk_cell BK168.out 0).trans rfl, (blk_cell BK168.out 1).trans rfl, (blk_cell BK168.out 2).trans rfl⟩ (fun hHeld => ?_)
          clear hK K
          refine norm_ (a' := ?_) ?_ ?_
          rotate_left
          · show Act.put _ (some 15) _ = _
            simp only [Act.put, List.setIfInBounds_toArray, List.set_cons_zero, List.set_cons_succ, i64_w, i32_w]
            rfl
          refine pure_ (i := 9) (N := some 3) (v := ?_) (a' := ?_) #[true, true, true, true, true, true, true, true, true, true] rfl rfl (any_of HT_.out (by kernel_rfl)) (fun _ _ _ h => h) (Or.inl ⟨by rfl, ?_⟩) ?_ ?_
          rotate_left
          · intro w'
            go_simp
            with_reducible rfl
          rotate_left
          · simp only [Act.put, List.setIfInBounds_toArray, List.set_cons_zero, List.set_cons_succ, i64_w, i32_w]
            rfl
          refine done_ (done_of HT_.out (by kernel_rfl)) ?_
          have hcz19_0 : w17.cell? ⟨gb168, 0, none⟩ = some (.int .i64 a0_0) := (blk_cell BK168.out 0).trans rfl
          have hcz19_1 : w17.cell? ⟨gb168, 1, none⟩ = some (.slice A0_1 l0_1.length c0_1) := (blk_cell BK168.out 1).trans rfl
          have hcz19_2 : w17.cell? ⟨gb168, 2, none⟩ = some (.slice A0_2 l0_2.length c0_2) := (blk_cell BK168.out 2).trans rfl
          have hfz19_0 := blk_frozen BK168.out 0
          have hfz19_1 := blk_frozen BK168.out 1
          have hfz19_2 := blk_frozen BK168.out 2
          try go_wp2_with (first | ((with_reducible refine gate_callee (f := 110) rfl ?_); refine goesL_ (some 20) rfl rfl Tryz.func110 (by kernel_rfl) rfl #[.int .i64 (l0_1.length : Int)] rfl (by (try simp only [List.map_toArray, List.map_cons, List.map_nil]); first | done | rfl) ?_; (with_reducible refine (table_headerLength.calls (l0_1.length : Int) t178 _ A4.out).mono ?_); rintro e w' ⟨rfl, ⟨nd, rfl⟩⟩; refine ⟨_, rfl, ?_⟩) | ((with_reducible refine gate_callee (f := 109) rfl ?_); refine goesL_ (some 21) rfl rfl Tryz.func109 (by kernel_rfl) rfl #[.int .i64 t178, .int .i64 2] rfl (by (try simp only [List.map_toArray, List.map_cons, List.map_nil]); first | done | rfl) ?_; (with_reducible refine (table_low.calls k t178 2 t179 _ A5.out).mono ?_); rintro e w20 ⟨v180, rfl, ho0, hb⟩; refine ⟨_, rfl, ?_⟩; have n0_ := Aside0.mk (Kd.R_elder' (by (with_reducible repeat (first | apply Kd.R_alloc | apply Kd.R_drewN | apply Kd.R_drew)); exact HO174.out) (Kd.R_base ho0) hb); have n1_ := Aside0.mk (Kd.R_elder' (by (with_reducible repeat (first | apply Kd.R_alloc | apply Kd.R_drewN | apply Kd.R_drew)); exact HO177.out) (Kd.R_base ho0) hb); have n2_ := Aside0.mk (Kd.R_lower (Kd.R_new' (Kd.R_new' ho0 (Kd.R_lt (by (with_reducible repeat (first | apply Kd.R_alloc | apply Kd.R_drewN | apply Kd.R_drew)); exact HO174.out))) (Kd.R_lt (by (with_reducible repeat (first | apply Kd.R_alloc | apply Kd.R_drewN | apply Kd.R_drew)); exact HO177.out))) (below_size (by repeat (first | (with_reducible first | exact HB.out | apply below_alloc | apply pw_below_drewN | apply below_drew1 | refine below_set ?_ GE168.out) | exact HB.out)))); have n3_ := Aside0.mk (blk_below (g := gb168) (o := .cells #[.int .i64 a0_0, .slice A0_1 l0_1.length c0_1, .slice A0_2 l0_2.length c0_2] 35 (0, 0)) (by (with_reducible repeat (first | refine blk_drewN ?_ _ | refine blk_drew ?_ | refine blk_alloc ?_ _)); exact BK168.out) hb); have n4_ := Aside0.mk (below_step (by repeat (first | (with_reducible first | exact HB.out | apply below_alloc | apply pw_below_drewN | apply below_drew1 | refine below_set ?_ GE168.out) | exact HB.out)) hb); clear HO174; clear HO177; clear BK168; clear HB; have HO174 := n0_; have HO177 := n1_; have HO181 := n2_; have BK168 := n3_; have HB := n4_; clear n0_ n1_ n2_ n3_ n4_; (try clear hb); (try clear hb2); (try clear hk); (try clear hi); (try clear ho0); obtain ⟨Ao22, co22, eo22⟩ := Kd.R_slice HO181.out; subst eo22) | ((with_reducible refine gate_builtin (b := .append) (xs := #[.tmp 16, .tmp 21]) rfl ?_); at_builtin; refine Kd.R_append_rows (Kd.int .u8) (w0 := w) w.heap.size rfl (.tmp 16) (.tmp 21) 37 5 (.int .u8 0) 1 rfl Tryz.underlying37 info5 rfl (by decide) (by omega) v176 y175 t179 _ _ _ (fun k_ => some k_ ≠ (.slice Ao18 t172.length co18 : Value).ownBlock ∧ some k_ ≠ (.slice Ao22 t179.length co22 : Value).ownBlock) (fun _ => False) rfl rfl ?aO ?aR (fun _ _ h => h) (fun _ h => h.elim) ?aF ?aB ?aS ?aL ?_; (case aR => repeat (first | exact (Kd.R_reads' HO181.out).2.2 | (with_reducible refine Kd.C_alloc ?_ _) | (with_reducible refine Kd.C_drewN ?_ _) | (with_reducible refine Kd.C_drew ?_))); (case aB => exact (by repeat (first | (with_reducible first | exact HB.out | apply below_alloc | apply pw_below_drewN | apply below_drew1 | refine below_set ?_ GE168.out) | exact HB.out))); (case aF => exact (fun k_ hk => ⟨Kd.fresh' (Kd.R_lt (by (with_reducible repeat (first | apply Kd.R_alloc | apply Kd.R_drewN | apply Kd.R_drew)); exact HO174.out)) k_ hk, Kd.fresh' (Kd.R_lt (by (with_reducible repeat (first | apply Kd.R_alloc | apply Kd.R_drewN | apply Kd.R_drew)); exact HO181.out)) k_ hk⟩)); (case aO => exact (by (with_reducible repeat (first | apply Kd.R_alloc | apply Kd.R_drewN | apply Kd.R_drew)); exact HO177.out)); (case aS => exact (below_size (by repeat (first | (with_reducible first | exact HB.out | apply below_alloc | apply pw_below_drewN | apply below_drew1 | refine below_set ?_ GE168.out) | exact HB.out)))); (case aL => have := LMc6.out; omega); intro v183 w21 ho hb hg hat; rw [← Ny182.out] at ho; have n0_ := Aside0.mk (blk_grown (g := gb168) (o := .cells #[.int .i64 a0_0, .slice A0_1 l0_1.length c0_1, .slice A0_2 l0_2.length c0_2] 35 (0, 0)) (by (with_reducible repeat (first | refine blk_drewN ?_ _ | refine blk_drew ?_ | refine blk_alloc ?_ _)); exact BK168.out) hg (Kd.R_ne HO177.out BK168.out (by decide))); have n1_ := Aside0.mk (Kd.R_after (ok := (fun k_ => some k_ ≠ (.slice Ao22 t179.length co22 : Value).ownBlock)) (by (with_reducible repeat (first | apply Kd.R_alloc | apply Kd.R_drewN | apply Kd.R_drew)); exact Kd.R_mono HO174.out (fun _ hk => ⟨hk.2, hk.1.2⟩)) hg hat); have n2_ := Aside0.mk (Kd.R_after (ok := (fun k_ => some k_ ≠ (.slice Ao18 t172.length co18 : Value).ownBlock)) (by (with_reducible repeat (first | apply Kd.R_alloc | apply Kd.R_drewN | apply Kd.R_drew)); exact Kd.R_mono HO181.out (fun _ hk => ⟨hk.1.2, hk.2⟩)) hg hat); have n3_ := Aside0.mk (hb); have n4_ := Aside0.mk (ho); clear BK168; clear HO174; clear HO181; clear HB; clear HO177; have BK168 := n0_; have HO174 := n1_; have HO181 := n2_; have HB := n3_; have HO184 := n4_; clear n0_ n1_ n2_ n3_ n4_; clear ho hb hg hat; have hcz23_0 : w21.cell? ⟨gb168, 0, none⟩ = some (.int .i64 a0_0) := (blk_cell BK168.out 0).trans rfl; have hcz23_1 : w21.cell? ⟨gb168, 1, none⟩ = some (.slice A0_1 l0_1.length c0_1) := (blk_cell BK168.out 1).trans rfl; have hcz23_2 : w21.cell? ⟨gb168, 2, none⟩ = some (.slice A0_2 l0_2.length c0_2) := (blk_cell BK168.out 2).trans rfl; have hfz23_0 := blk_frozen BK168.out 0; have hfz23_1 := blk_frozen BK168.out 1; have hfz23_2 := blk_frozen BK168.out 2) | ((with_reducible refine gate_callee (f := 69) rfl ?_); refine goesL_ (some 26) rfl rfl Tryz.func69 (by kernel_rfl) rfl #[.slice A0_1 l0_1.length c0_1] rfl (by (try simp only [List.map_toArray, List.map_cons, List.map_nil]); first | done | rfl) ?_; (with_reducible refine (table_length.calls k _ _ l0_1 t185 _ ?side1 ?side2 A7.out).mono ?_); (case side1 => repeat (first | exact (Kd.C_below HR0_1.out HB.out) | (with_reducible refine Kd.C_alloc ?_ _) | (with_reducible refine Kd.C_drewN ?_ _) | (with_reducible refine Kd.C_drew ?_))); (case side2 => exact HC0_1.out); rintro e w24 ⟨rfl, hb⟩; refine ⟨_, rfl, ?_⟩; have n0_ := Aside0.mk (Kd.R_below (by (with_reducible repeat (first | apply Kd.R_alloc | apply Kd.R_drewN | apply Kd.R_drew)); exact HO174.out) hb); have n1_ := Aside0.mk (Kd.R_below (by (with_reducible repeat (first | apply Kd.R_alloc | apply Kd.R_drewN | apply Kd.R_drew)); exact HO181.out) hb); have n2_ := Aside0.mk (Kd.R_below (by (with_reducible repeat (first | apply Kd.R_alloc | apply Kd.R_drewN | apply Kd.R_drew)); exact HO184.out) hb); have n3_ := Aside0.mk (blk_below (g := gb168) (o := .cells #[.int .i64 a0_0, .slice A0_1 l0_1.length c0_1, .slice A0_2 l0_2.length c0_2] 35 (0, 0)) (by (with_reducible repeat (first | refine blk_drewN ?_ _ | refine blk_drew ?_ | refine blk_alloc ?_ _)); exact BK168.out) hb); have n4_ := Aside0.mk (below_step (by repeat (first | (with_reducible first | exact HB.out | apply below_alloc | apply pw_below_drewN | apply below_drew1 | refine below_set ?_ GE168.out) | exact HB.out)) hb); clear HO174; clear HO181; clear HO184; clear BK168; clear HB; have HO174 := n0_; have HO181 := n1_; have HO184 := n2_; have BK168 := n3_; have HB := n4_; clear n0_ n1_ n2_ n3_ n4_; (try clear hb); (try clear hb2); (try clear hk); (try clear hi)) | ((with_reducible refine gate_callee (f := 109) rfl ?_); refine goesL_ (some 27) rfl rfl Tryz.func109 (by kernel_rfl) rfl #[.int .i64 t185, .int .i64 2] rfl (by (try simp only [List.map_toArray, List.map_cons, List.map_nil]); first | done | rfl) ?_; (with_reducible refine (table_low.calls k t185 2 t186 _ A8.out).mono ?_); rintro e w25 ⟨v187, rfl, ho0, hb⟩; refine ⟨_, rfl, ?_⟩; have n0_ := Aside0.mk (Kd.R_elder' (by (with_reducible repeat (first | apply Kd.R_alloc | apply Kd.R_drewN | apply Kd.R_drew)); exact HO174.out) (Kd.R_base ho0) hb); have n1_ := Aside0.mk (Kd.R_elder' (by (with_reducible repeat (first | apply Kd.R_alloc | apply Kd.R_drewN | apply Kd.R_drew)); exact HO181.out) (Kd.R_base ho0) hb); have n2_ := Aside0.mk (Kd.R_elder' (by (with_reducible repeat (first | apply Kd.R_alloc | apply Kd.R_drewN | apply Kd.R_drew)); exact HO184.out) (Kd.R_base ho0) hb); have n3_ := Aside0.mk (Kd.R_lower (Kd.R_new' (Kd.R_new' (Kd.R_new' ho0 (Kd.R_lt (by (with_reducible repeat (first | apply Kd.R_alloc | apply Kd.R_drewN | apply Kd.R_drew)); exact HO174.out))) (Kd.R_lt (by (with_reducible repeat (first | apply Kd.R_alloc | apply Kd.R_drewN | apply Kd.R_drew)); exact HO181.out))) (Kd.R_lt (by (with_reducible repeat (first | apply Kd.R_alloc | apply Kd.R_drewN | apply Kd.R_drew)); exact HO184.out))) (below_size (by repeat (first | (with_reducible first | exact HB.out | apply below_alloc | apply pw_below_drewN | apply below_drew1 | refine below_set ?_ GE168.out) | exact HB.out)))); have n4_ := Aside0.mk (blk_below (g := gb168) (o := .cells #[.int .i64 a0_0, .slice A0_1 l0_1.length c0_1, .slice A0_2 l0_2.length c0_2] 35 (0, 0)) (by (with_reducible repeat (first | refine blk_drewN ?_ _ | refine blk_drew ?_ | refine blk_alloc ?_ _)); exact BK168.out) hb); have n5_ := Aside0.mk (below_step (by repeat (first | (with_reducible first | exact HB.out | apply below_alloc | apply pw_below_drewN | apply below_drew1 | refine below_set ?_ GE168.out) | exact HB.out)) hb); clear HO174; clear HO181; clear HO184; clear BK168; clear HB; have HO174 := n0_; have HO181 := n1_; have HO184 := n2_; have HO188 := n3_; have BK168 := n4_; have HB := n5_; clear n0_ n1_ n2_ n3_ n4_ n5_; (try clear hb); (try clear hb2); (try clear hk); (try clear hi); (try clear ho0); obtain ⟨Ao27, co27, eo27⟩ := Kd.R_slice HO188.out; subst eo27) | ((with_reducible refine gate_builtin (b := .append) (xs := #[.tmp 23, .tmp 27]) rfl ?_); at_builtin; refine Kd.R_append_rows (Kd.int .u8) (w0 := w) w.heap.size rfl (.tmp 23) (.tmp 27) 37 5 (.int .u8 0) 1 rfl Tryz.underlying37 info5 rfl (by decide) (by omega) v183 y182 t186 _ _ _ (fun k_ => some k_ ≠ (.slice Ao18 t172.length co18 : Value).ownBlock ∧ some k_ ≠ (.slice Ao22 t179.length co22 : Value).ownBlock ∧ some k_ ≠ (.slice Ao27 t186.length co27 : Value).ownBlock) (fun _ => False) rfl rfl ?aO ?aR (fun _ _ h => h) (fun _ h => h.elim) ?aF ?aB ?aS ?aL ?_; (case aR => repeat (first | exact (Kd.R_reads' HO188.out).2.2 | (with_reducible refine Kd.C_alloc ?_ _) | (with_reducible refine Kd.C_drewN ?_ _) | (with_reducible refine Kd.C_drew ?_))); (case aB => exact (by repeat (first | (with_reducible first | exact HB.out | apply below_alloc | apply pw_below_drewN | apply below_drew1 | refine below_set ?_ GE168.out) | exact HB.out))); (case aF => exact (fun k_ hk => ⟨Kd.fresh' (Kd.R_lt (by (with_reducible repeat (first | apply Kd.R_alloc | apply Kd.R_drewN | apply Kd.R_drew)); exact HO174.out)) k_ hk, Kd.fresh' (Kd.R_lt (by (with_reducible repeat (first | apply Kd.R_alloc | apply Kd.R_drewN | apply Kd.R_drew)); exact HO181.out)) k_ hk, Kd.fresh' (Kd.R_lt (by (with_reducible repeat (first | apply Kd.R_alloc | apply Kd.R_drewN | apply Kd.R_drew)); exact HO188.out)) k_ hk⟩)); (case aO => exact (by (with_reducible repeat (first | apply Kd.R_alloc | apply Kd.R_drewN | apply Kd.R_drew)); exact Kd.R_mono HO184.out (fun _ hk => ⟨hk.1.1, ⟨hk.1.2, hk.2⟩⟩))); (case aS => exact (below_size (by repeat (first | (with_reducible first | exact HB.out | apply below_alloc | apply pw_below_drewN | apply below_drew1 | refine below_set ?_ GE168.out) | exact HB.out)))); (case aL => have := LMc9.out; omega); intro v190 w26 ho hb hg hat; rw [← Ny189.out] at ho; have n0_ := Aside0.mk (blk_grown (g := gb168) (o := .cells #[.int .i64 a0_0, .slice A0_1 l0_1.length c0_1, .slice A0_2 l0_2.length c0_2] 35 (0, 0)) (by (with_reducible repeat (first | refine blk_drewN ?_ _ | refine blk_drew ?_ | refine blk_alloc ?_ _)); exact BK168.out) hg (Kd.R_ne HO184.out BK168.out (by decide))); have n1_ := Aside0.mk (Kd.R_after (ok := (fun k_ => some k_ ≠ (.slice Ao22 t179.length co22 : Value).ownBlock ∧ some k_ ≠ (.slice Ao27 t186.length co27 : Value).ownBlock)) (by (with_reducible repeat (first | apply Kd.R_alloc | apply Kd.R_drewN | apply Kd.R_drew)); exact Kd.R_mono HO174.out (fun _ hk => ⟨⟨hk.1.1, hk.2⟩, hk.1.2⟩)) hg hat); have n2_ := Aside0.mk (Kd.R_after (ok := (fun k_ => some k_ ≠ (.slice Ao18 t172.length co18 : Value).ownBlock ∧ some k_ ≠ (.slice Ao27 t186.length co27 : Value).ownBlock)) (by (with_reducible repeat (first | apply Kd.R_alloc | apply Kd.R_drewN | apply Kd.R_drew)); exact Kd.R_mono HO181.out (fun _ hk => ⟨⟨hk.1.1, hk.2⟩, hk.1.2⟩)) hg hat); have n3_ := Aside0.mk (Kd.R_after (ok := (fun k_ => some k_ ≠ (.slice Ao18 t172.length co18 : Value).ownBlock ∧ some k_ ≠ (.slice Ao22 t179.length co22 : Value).ownBlock)) (by (with_reducible repeat (first | apply Kd.R_alloc | apply Kd.R_drewN | apply Kd.R_drew)); exact Kd.R_mono HO188.out (fun _ hk => ⟨⟨hk.1.1.2, hk.1.2⟩, hk.2⟩)) hg hat); have n4_ := Aside0.mk (hb); have n5_ := Aside0.mk (ho); clear BK168; clear HO174; clear HO181; clear HO188; clear HB; clear HO184; have BK168 := n0_; have HO174 := n1_; have HO181 := n2_; have HO188 := n3_; have HB := n4_; have HO191 := n5_; clear n0_ n1_ n2_ n3_ n4_ n5_; clear ho hb hg hat; have hcz28_0 : w26.cell? ⟨gb168, 0, none⟩ = some (.int .i64 a0_0) := (blk_cell BK168.out 0).trans rfl; have hcz28_1 : w26.cell? ⟨gb168, 1, none⟩ = some (.slice A0_1 l0_1.length c0_1) := (blk_cell BK168.out 1).trans rfl; have hcz28_2 : w26.cell? ⟨gb168, 2, none⟩ = some (.slice A0_2 l0_2.length c0_2) := (blk_cell BK168.out 2).trans rfl; have hfz28_0 := blk_frozen BK168.out 0; have hfz28_1 := blk_frozen BK168.out 1; have hfz28_2 := blk_frozen BK168.out 2) | ((with_reducible refine gate_dst (N := 34) rfl ?_); refine Kd.R_lit (Kd.int .u8) _ 5 ?hg (N := 34) ?hd (xs := ([((l0_1.length : Int)) % 256, 0] : List Int)) (inner := [.int .u8 (((l0_1.length : Int)) % 256), .int .u8 0]) (ok := fun _ => True) (okp := fun _ => True) ?hr ?hp (fun _ hk => hk) trivial (Below.refl _ _) (Nat.le_refl _) (by simp) ?_; (case hd => rfl); (case hg => rfl); (case hr => go_simp; try rfl); (case hp => exact (Reps.one (show Kd.M (Kd.int .u8) _ _ _ (((l0_1.length : Int)) % 256) [.int .u8 (((l0_1.length : Int)) % 256)] from rfl) (Reps.one (show Kd.M (Kd.int .u8) _ _ _ 0 [.int .u8 0] from rfl) (Reps.none _ _)))); intro v193 w29 ho30 hb hg_ hnew_; clear hg_ hnew_; (first | rw [← Ny192.out] at ho30 | (simp only [Int.reduceToNat] at ho30; rw [← Ny192.out] at ho30)); have n0_ := Aside0.mk (Kd.R_elder' (by (with_reducible repeat (first | apply Kd.R_alloc | apply Kd.R_drewN | apply Kd.R_drew)); exact HO174.out) (Kd.R_base ho30) hb); have n1_ := Aside0.mk (Kd.R_elder' (by (with_reducible repeat (first | apply Kd.R_alloc | apply Kd.R_drewN | apply Kd.R_drew)); exact HO181.out) (Kd.R_base ho30) hb); have n2_ := Aside0.mk (Kd.R_elder' (by (with_reducible repeat (first | apply Kd.R_alloc | apply Kd.R_drewN | apply Kd.R_drew)); exact HO188.out) (Kd.R_base ho30) hb); have n3_ := Aside0.mk (Kd.R_elder' (by (with_reducible repeat (first | apply Kd.R_alloc | apply Kd.R_drewN | apply Kd.R_drew)); exact HO191.out) (Kd.R_base ho30) hb); have n4_ := Aside0.mk (Kd.R_lower (Kd.R_new' (Kd.R_new' (Kd.R_new' (Kd.R_new' ho30 (Kd.R_lt (by (with_reducible repeat (first | apply Kd.R_alloc | apply Kd.R_drewN | apply Kd.R_drew)); exact HO174.out))) (Kd.R_lt (by (with_reducible repeat (first | apply Kd.R_alloc | apply Kd.R_drewN | apply Kd.R_drew)); exact HO181.out))) (Kd.R_lt (by (with_reducible repeat (first | apply Kd.R_alloc | apply Kd.R_drewN | apply Kd.R_drew)); exact HO188.out))) (Kd.R_lt (by (with_reducible repeat (first | apply Kd.R_alloc | apply Kd.R_drewN | apply Kd.R_drew)); exact HO191.out))) (below_size (by repeat (first | (with_reducible first | exact HB.out | apply below_alloc | apply pw_below_drewN | apply below_drew1 | refine below_set ?_ GE168.out) | exact HB.out)))); have n5_ := Aside0.mk (blk_below (g := gb168) (o := .cells #[.int .i64 a0_0, .slice A0_1 l0_1.length c0_1, .slice A0_2 l0_2.length c0_2] 35 (0, 0)) (by (with_reducible repeat (first | refine blk_drewN ?_ _ | refine blk_drew ?_ | refine blk_alloc ?_ _)); exact BK168.out) hb); have n6_ := Aside0.mk (below_step (by repeat (first | (with_reducible first | exact HB.out | apply below_alloc | apply pw_below_drewN | apply below_drew1 | refine below_set ?_ GE168.out) | exact HB.out)) hb); clear HO174; clear HO181; clear HO188; clear HO191; clear BK168; clear HB; have HO174 := n0_; have HO181 := n1_; have HO188 := n2_; have HO191 := n3_; have HO194 := n4_; have BK168 := n5_; have HB := n6_; clear n0_ n1_ n2_ n3_ n4_ n5_ n6_; clear hb ho30; obtain ⟨Ao32, co32, eo32⟩ := Kd.R_slice HO194.out; subst eo32) | ((with_reducible refine gate_builtin (b := .append) (xs := #[.tmp 29, .tmp 34]) rfl ?_); at_builtin; refine Kd.R_append_rows (Kd.int .u8) (w0 := w) w.heap.size rfl (.tmp 29) (.tmp 34) 37 5 (.int .u8 0) 1 rfl Tryz.underlying37 info5 rfl (by decide) (by omega) v190 y189 y192 _ _ _ (fun k_ => some k_ ≠ (.slice Ao18 t172.length co18 : Value).ownBlock ∧ some k_ ≠ (.slice Ao22 t179.length co22 : Value).ownBlock ∧ some k_ ≠ (.slice Ao27 t186.length co27 : Value).ownBlock ∧ some k_ ≠ (.slice Ao32 y192.length co32 : Value).ownBlock) (fun _ => False) rfl rfl ?aO ?aR (fun _ _ h => h) (fun _ h => h.elim) ?aF ?aB ?aS ?aL ?_; (case aR => repeat (first | exact (Kd.R_reads' HO194.out).2.2 | (with_reducible refine Kd.C_alloc ?_ _) | (with_reducible refine Kd.C_drewN ?_ _) | (with_reducible refine Kd.C_drew ?_))); (case aB => exact (by repeat (first | (with_reducible first | exact HB.out | apply below_alloc | apply pw_below_drewN | apply below_drew1 | refine below_set ?_ GE168.out) | exact HB.out))); (case aF => exact (fun k_ hk => ⟨Kd.fresh' (Kd.R_lt (by (with_reducible repeat (first | apply Kd.R_alloc | apply Kd.R_drewN | apply Kd.R_drew)); exact HO174.out)) k_ hk, Kd.fresh' (Kd.R_lt (by (with_reducible repeat (first | apply Kd.R_alloc | apply Kd.R_drewN | apply Kd.R_drew)); exact HO181.out)) k_ hk, Kd.fresh' (Kd.R_lt (by (with_reducible repeat (first | apply Kd.R_alloc | apply Kd.R_drewN | apply Kd.R_drew)); exact HO188.out)) k_ hk, Kd.fresh' (Kd.R_lt (by (with_reducible repeat (first | apply Kd.R_alloc | apply Kd.R_drewN | apply Kd.R_drew)); exact HO194.out)) k_ hk⟩)); (case aO => exact (by (with_reducible repeat (first | apply Kd.R_alloc | apply Kd.R_drewN | apply Kd.R_drew)); exact Kd.R_mono HO191.out (fun _ hk => ⟨hk.1.1, ⟨hk.1.2.1, ⟨hk.1.2.2, hk.2⟩⟩⟩))); (case aS => exact (below_size (by repeat (first | (with_reducible first | exact HB.out | apply below_alloc | apply pw_below_drewN | apply below_drew1 | refine below_set ?_ GE168.out) | exact HB.out)))); (case aL => have := LMc10.out; omega); intro v196 w31 ho hb hg hat; rw [← Ny195.out] at ho; have n0_ := Aside0.mk (blk_grown (g := gb168) (o := .cells #[.int .i64 a0_0, .slice A0_1 l0_1.length c0_1, .slice A0_2 l0_2.length c0_2] 35 (0, 0)) (by (with_reducible repeat (first | refine blk_drewN ?_ _ | refine blk_drew ?_ | refine blk_alloc ?_ _)); exact BK168.out) hg (Kd.R_ne HO191.out BK168.out (by decide))); have n1_ := Aside0.mk (Kd.R_after (ok := (fun k_ => some k_ ≠ (.slice Ao22 t179.length co22 : Value).ownBlock ∧ some k_ ≠ (.slice Ao27 t186.length co27 : Value).ownBlock ∧ some k_ ≠ (.slice Ao32 y192.length co32 : Value).ownBlock)) (by (with_reducible repeat (first | apply Kd.R_alloc | apply Kd.R_drewN | apply Kd.R_drew)); exact Kd.R_mono HO174.out (fun _ hk => ⟨⟨hk.1.1.1, ⟨hk.1.1.2, hk.2⟩⟩, hk.1.2⟩)) hg hat); have n2_ := Aside0.mk (Kd.R_after (ok := (fun k_ => some k_ ≠ (.slice Ao18 t172.length co18 : Value).ownBlock ∧ some k_ ≠ (.slice Ao27 t186.length co27 : Value).ownBlock ∧ some k_ ≠ (.slice Ao32 y192.length co32 : Value).ownBlock)) (by (with_reducible repeat (first | apply Kd.R_alloc | apply Kd.R_drewN | apply Kd.R_drew)); exact Kd.R_mono HO181.out (fun _ hk => ⟨⟨hk.1.1.1, ⟨hk.1.1.2, hk.2⟩⟩, hk.1.2⟩)) hg hat); have n3_ := Aside0.mk (Kd.R_after (ok := (fun k_ => some k_ ≠ (.slice Ao18 t172.length co18 : Value).ownBlock ∧ some k_ ≠ (.slice Ao22 t179.length co22 : Value).ownBlock ∧ some k_ ≠ (.slice Ao32 y192.length co32 : Value).ownBlock)) (by (with_reducible repeat (first | apply Kd.R_alloc | apply Kd.R_drewN | apply Kd.R_drew)); exact Kd.R_mono HO188.out (fun _ hk => ⟨⟨hk.1.1.1, ⟨hk.1.1.2, hk.2⟩⟩, hk.1.2⟩)) hg hat); have n4_ := Aside0.mk (Kd.R_after (ok := (fun k_ => some k_ ≠ (.slice Ao18 t172.length co18 : Value).ownBlock ∧ some k_ ≠ (.slice Ao22 t179.length co22 : Value).ownBlock ∧ some k_ ≠ (.slice Ao27 t186.length co27 : Value).ownBlock)) (by (with_reducible repeat (first | apply Kd.R_alloc | apply Kd.R_drewN | apply Kd.R_drew)); exact Kd.R_mono HO194.out (fun _ hk => ⟨⟨hk.1.1.1.2, ⟨hk.1.1.2, hk.1.2⟩⟩, hk.2⟩)) hg hat); have n5_ := Aside0.mk (hb); have n6_ := Aside0.mk (ho); clear BK168; clear HO174; clear HO181; clear HO188; clear HO194; clear HB; clear HO191; have BK168 := n0_; have HO174 := n1_; have HO181 := n2_; have HO188 := n3_; have HO194 := n4_; have HB := n5_; have HO197 := n6_; clear n0_ n1_ n2_ n3_ n4_ n5_ n6_; clear ho hb hg hat; have hcz33_0 : w31.cell? ⟨gb168, 0, none⟩ = some (.int .i64 a0_0) := (blk_cell BK168.out 0).trans rfl; have hcz33_1 : w31.cell? ⟨gb168, 1, none⟩ = some (.slice A0_1 l0_1.length c0_1) := (blk_cell BK168.out 1).trans rfl; have hcz33_2 : w31.cell? ⟨gb168, 2, none⟩ = some (.slice A0_2 l0_2.length c0_2) := (blk_cell BK168.out 2).trans rfl; have hfz33_0 := blk_frozen BK168.out 0; have hfz33_1 := blk_frozen BK168.out 1; have hfz33_2 := blk_frozen BK168.out 2))
          go_loopg [3, 39] k (fun kq v3 v39 w' => ∃ (x3_1 : List Int) (x39_1 : Int), v39 = .int .i64 x39_1 ∧ Aside0 (table_header.l0 kq x3_1 l0_1 (l0_1.length : Int) x39_1 = some r) ∧ Aside0 (kq ≤ k) ∧ Aside0 (Kd.R (Kd.int .u8) 5 w' w.heap.size (fun _ => True) v3 x3_1) ∧ Aside0 (w'.heap[gb168]? = some (.cells #[.int .i64 a0_0, (.slice A0_1 l0_1.length c0_1), (.slice A0_2 l0_2.length c0_2)] 35 (0, 0))) ∧ Aside0 (Below w.heap.size w w'))
          case atStart => exact ⟨(y195), (0), (by first | rfl | (simp; done) | (simp [*]; done)), H', ⟨Nat.le_refl _⟩, ⟨by (with_reducible repeat (first | apply Kd.R_alloc | apply Kd.R_drewN | apply Kd.R_drew)); exact Kd.R_mono HO197.out (fun _ hk => trivial)⟩, ⟨by (with_reducible repeat (first | refine blk_drewN ?_ _ | refine blk_drew ?_ | refine blk_alloc ?_ _)); exact BK168.out⟩, ⟨by repeat (first | (with_reducible first | exact HB.out | apply below_alloc | apply pw_below_drewN | apply below_drew1 | refine below_set ?_ GE168.out) | exact HB.out)⟩⟩
          case round =>
            clear H'
            (try clear c1);(try clear p2);(try clear c3);(try clear c6);(try clear c9);(try clear c10);(try clear c11);(try clear hcz19_0);(try clear hcz19_1);(try clear hcz19_2);(try clear hcz23_0);(try clear hcz23_1);(try clear hcz23_2);(try clear hcz28_0);(try clear hcz28_1);(try clear hcz28_2);(try clear hcz33_0);(try clear hcz33_1);(try clear hcz33_2);(try clear hfz19_0);(try clear hfz19_1);(try clear hfz19_2);(try clear hfz23_0);(try clear hfz23_1);(try clear hfz23_2);(try clear hfz28_0);(try clear hfz28_1);(try clear hfz28_2);(try clear hfz33_0);(try clear hfz33_1);(try clear hfz33_2)
            obtain ⟨x3_1, x39_1, rfl, HA, HK1, HO_3, BK168, HB⟩ := hrel
            cases gk with
            | zero => exact absurd HA.out (by simp [table_header.l0])
            | succ k1 =>
              have H := HA.out
              clear HA
              simp only [table_header.l0] at H
              by_cases c34 : x39_1 < (l0_1.length : Int)
              · rw [if_pos c34] at H
                have c34b0 : decide (x39_1 < (l0_1.length : Int)) = true := decide_eq_true c34
                clear c34
                by_cases c35 : 0 ≤ x39_1
                · rw [if_pos c35] at H
                  have c35b0 : decide (0 ≤ x39_1) = true := decide_eq_true c35
                  clear c35
                  by_cases c36 : x39_1 < (l0_1.length : Int)
                  · rw [if_pos c36] at H
                    have c36b0 : decide (x39_1 < (l0_1.length : Int)) = true := decide_eq_true c36
                    clear c36
                    replace H := Option.bind_eq_some_iff.mp H
                    obtain ⟨t200, A370, H⟩ := H
                    replace H : (if x3_1.length + t200.length < 140737488355328 then (table_header.l0 k1 (x3_1 ++ t200) l0_1 (l0_1.length : Int) (wrap64 (x39_1 + 1))) else (none)) = some r := H
                    have A37 := Aside0.mk A370
                    clear A370
                    by_cases c38 : x3_1.length + t200.length < 140737488355328
                    · rw [if_pos c38] at H
                      have LMc38 := Aside0.mk c38
                      clear c38
                      obtain ⟨y203, hy203⟩ : ∃ y_ : List Int, y_ = (x3_1 ++ t200) := ⟨_, rfl⟩
                      replace H : (table_header.l0 k1 y203 l0_1 (l0_1.length : Int) (wrap64 (x39_1 + 1))) = some r := by rw [hy203]; exact H
                      have Ny203 := Aside0.mk hy203
                      clear hy203
                      have H' := Aside0.mk H
                      clear H
                      have p198 : 0 ≤ (x39_1 : Int) := of_decide_eq_true (by first | (with_reducible assumption) | assumption)
                      have q198 : x39_1 < (l0_1.length : Int) := of_decide_eq_true (by first | (with_reducible assumption) | assumption)
                      obtain ⟨ad198, e198, hx198_0, hx198_1, hx198_2, hx198_3⟩ := at_T23 HR0_1.out x39_1 p198 q198
                      cases e198
                      replace hx198_0 := (HB.out.cell (World.block_lt_of_cell? w _ hx198_0)).trans hx198_0
                      replace hx198_1 := (HB.out.cell (World.block_lt_of_cell? w _ hx198_1)).trans hx198_1
                      replace hx198_2 := (HB.out.cell (World.block_lt_of_cell? w _ hx198_2)).trans hx198_2
                      replace hx198_3 := (HB.out.cell (World.block_lt_of_cell? w _ hx198_3)).trans hx198_3
                      replace p198 := eq_true p198
                      replace q198 := eq_true q198
                      obtain ⟨hs10, htl, htd⟩ := descO_some A37.out
                      have HS10 := Aside0.mk hs10
                      have HTL := Aside0.mk htl
                      have HTD := Aside0.mk htd
                      clear hs10 htl htd
                      go_wp2_with (first | ((with_reducible refine gate_dst (N := 5) rfl ?_); refine box_event ?hg (N := 5) ?hd (cs := #[.string (⟨#[]⟩ : ByteArray), .int .i64 0, .int .i64 0, .bool false]) (t := 23) ?hr ?_; (case hd => rfl); (case hg => rfl); (case hr => go_simp; try rfl); intro gb199 hg w39 hbox hb; have n0_ := Aside0.mk (Kd.R_below (by (with_reducible repeat (first | apply Kd.R_alloc | apply Kd.R_drewN | apply Kd.R_drew)); exact HO_3.out) hb); have n1_ := Aside0.mk (blk_below (g := gb168) (o := .cells #[.int .i64 a0_0, .slice (some ad198) l0_1.length c0_1, .slice A0_2 l0_2.length c0_2] 35 (0, 0)) (by (with_reducible repeat (first | refine blk_drewN ?_ _ | refine blk_drew ?_ | refine blk_alloc ?_ _)); exact BK168.out) hb); have n2_ := Aside0.mk (below_step (by repeat (first | (with_reducible first | exact HB.out | apply below_alloc | apply pw_below_drewN | apply below_drew1 | refine below_set ?_ GE168.out) | exact HB.out)) hb); have n3_ := Aside0.mk (hbox); have n5_ := Aside0.mk ((by rw [hg]; exact (below_size (by repeat (first | (with_reducible first | exact HB.out | apply below_alloc | apply pw_below_drewN | apply below_drew1 | refine below_set ?_ GE168.out) | exact HB.out))) : w.heap.size ≤ gb199)); have n6_ := Aside0.mk ((by rw [hg]; exact Nat.ne_of_lt (blk_lt (g := gb168) (o := .cells #[.int .i64 a0_0, .slice (some ad198) l0_1.length c0_1, .slice A0_2 l0_2.length c0_2] 35 (0, 0)) (by (with_reducible repeat (first | refine blk_drewN ?_ _ | refine blk_drew ?_ | refine blk_alloc ?_ _)); exact BK168.out)) : gb168 ≠ gb199)); have n7_ := Aside0.mk ((by rw [hg]; exact Nat.ne_of_gt (blk_lt (g := gb168) (o := .cells #[.int .i64 a0_0, .slice (some ad198) l0_1.length c0_1, .slice A0_2 l0_2.length c0_2] 35 (0, 0)) (by (with_reducible repeat (first | refine blk_drewN ?_ _ | refine blk_drew ?_ | refine blk_alloc ?_ _)); exact BK168.out)) : gb199 ≠ gb168)); clear HO_3; clear BK168; clear HB; have HO_3 := n0_; have BK168 := n1_; have HB := n2_; have BK199 := n3_; have GE199 := n5_; have NB168_199 := n6_; have NB199_168 := n7_; clear n0_ n1_ n2_ n3_ n5_ n6_ n7_; clear hb hbox hg; have hnb40 := NB199_168.out; have hnc40 := NB168_199.out; have hcz41_0 : w39.cell? ⟨gb199, 0, none⟩ = some (.string (⟨#[]⟩ : ByteArray)) := (blk_cell BK199.out 0).trans rfl; have hcz41_1 : w39.cell? ⟨gb199, 1, none⟩ = some (.int .i64 0) := (blk_cell BK199.out 1).trans rfl; have hcz41_2 : w39.cell? ⟨gb199, 2, none⟩ = some (.int .i64 0) := (blk_cell BK199.out 2).trans rfl; have hcz41_3 : w39.cell? ⟨gb199, 3, none⟩ = some (.bool false) := (blk_cell BK199.out 3).trans rfl; have hfz41_0 := blk_frozen BK199.out 0; have hfz41_1 := blk_frozen BK199.out 1; have hfz41_2 := blk_frozen BK199.out 2; have hfz41_3 := blk_frozen BK199.out 3) | ((with_reducible refine gate_dst (N := 6) rfl ?_); refine box_event ?hg (N := 6) ?hd (cs := #[.int .u8 0, .int .u8 0, .int .u8 0, .int .u8 0, .int .u8 0, .int .u8 0, .int .u8 0, .int .u8 0, .int .u8 0, .int .u8 0, .int .u8 0, .int .u8 0, .int .u8 0, .int .u8 0, .int .u8 0, .int .u8 0]) (t := 123) ?hr ?_; (case hd => rfl); (case hg => rfl); (case hr => go_simp; try rfl); intro g6 hg w6 hbox hb; have n0_ := Aside0.mk (Kd.R_below (by (with_reducible repeat (first | apply Kd.R_alloc | apply Kd.R_drewN | apply Kd.R_drew)); exact (Kd.R_mono (Kd.R_far (p := ⟨gb199, 3, none⟩) (Kd.R_far (p := ⟨gb199, 2, none⟩) (Kd.R_far (p := ⟨gb199, 1, none⟩) (Kd.R_far (p := ⟨gb199, 0, none⟩) (Kd.R_types HO_3.out BK199.out (by decide)) (fun _ hk => hk.2) (.string ((rd_T23 l0_1 x39_1).f0))) (fun _ hk => hk.2) (.int .i64 ((rd_T23 l0_1 x39_1).f1))) (fun _ hk => hk.2) (.int .i64 ((rd_T23 l0_1 x39_1).f2))) (fun _ hk => hk.2) (.bool ((rd_T23 l0_1 x39_1).f3))) (fun _ h_ => h_.1))) hb); have n2_ := Aside0.mk (blk_below (g := gb168) (o := .cells #[.int .i64 a0_0, .slice (some ad198) l0_1.length c0_1, .slice A0_2 l0_2.length c0_2] 35 (0, 0)) (by (with_reducible repeat (first | refine blk_drewN ?_ _ | refine blk_drew ?_ | refine blk_alloc ?_ _)); refine blk_far ?_ NB168_199.out _; (with_reducible repeat (first | refine blk_drewN ?_ _ | refine blk_drew ?_ | refine blk_alloc ?_ _)); refine blk_far ?_ NB168_199.out _; (with_reducible repeat (first | refine blk_drewN ?_ _ | refine blk_drew ?_ | refine blk_alloc ?_ _)); refine blk_far ?_ NB168_199.out _; (with_reducible repeat (first | refine blk_drewN ?_ _ | refine blk_drew ?_ | refine blk_alloc ?_ _)); refine blk_far ?_ NB168_199.out _; (with_reducible repeat (first | refine blk_drewN ?_ _ | refine blk_drew ?_ | refine blk_alloc ?_ _)); exact BK168.out) hb); have n3_ := Aside0.mk (blk_below (g := gb199) (o := .cells #[.string ((rd_T23 l0_1 x39_1).f0), .int .i64 ((rd_T23 l0_1 x39_1).f1), .int .i64 ((rd_T23 l0_1 x39_1).f2), .bool ((rd_T23 l0_1 x39_1).f3)] 23 (0, 0)) (by (with_reducible repeat (first | refine blk_drewN ?_ _ | refine blk_drew ?_ | refine blk_alloc ?_ _)); refine blk_put (cs := #[.string ((rd_T23 l0_1 x39_1).f0), .int .i64 ((rd_T23 l0_1 x39_1).f1), .int .i64 ((rd_T23 l0_1 x39_1).f2), .bool false]) ?_ 3 _ rfl; (with_reducible repeat (first | refine blk_drewN ?_ _ | refine blk_drew ?_ | refine blk_alloc ?_ _)); refine blk_put (cs := #[.string ((rd_T23 l0_1 x39_1).f0), .int .i64 ((rd_T23 l0_1 x39_1).f1), .int .i64 0, .bool false]) ?_ 2 _ rfl; (with_reducible repeat (first | refine blk_drewN ?_ _ | refine blk_drew ?_ | refine blk_alloc ?_ _)); refine blk_put (cs := #[.string ((rd_T23 l0_1 x39_1).f0), .int .i64 0, .int .i64 0, .bool false]) ?_ 1 _ rfl; (with_reducible repeat (first | refine blk_drewN ?_ _ | refine blk_drew ?_ | refine blk_alloc ?_ _)); refine blk_put (cs := #[.string (⟨#[]⟩ : ByteArray), .int .i64 0, .int .i64 0, .bool false]) ?_ 0 _ rfl; (with_reducible repeat (first | refine blk_drewN ?_ _ | refine blk_drew ?_ | refine blk_alloc ?_ _)); exact BK199.out) hb); have n4_ := Aside0.mk (below_step (by repeat (first | (with_reducible first | exact HB.out | apply below_alloc | apply pw_below_drewN | apply below_drew1 | refine below_set ?_ GE168.out | refine below_set ?_ GE199.out) | exact HB.out)) hb); have n5_ := Aside0.mk ((by rw [hg]; exact Nat.ne_of_lt (blk_lt (g := gb168) (o := .cells #[.int .i64 a0_0, .slice (some ad198) l0_1.length c0_1, .slice A0_2 l0_2.length c0_2] 35 (0, 0)) (by (with_reducible repeat (first | refine blk_drewN ?_ _ | refine blk_drew ?_ | refine blk_alloc ?_ _)); refine blk_far ?_ NB168_199.out _; (with_reducible repeat (first | refine blk_drewN ?_ _ | refine blk_drew ?_ | refine blk_alloc ?_ _)); refine blk_far ?_ NB168_199.out _; (with_reducible repeat (first | refine blk_drewN ?_ _ | refine blk_drew ?_ | refine blk_alloc ?_ _)); refine blk_far ?_ NB168_199.out _; (with_reducible repeat (first | refine blk_drewN ?_ _ | refine blk_drew ?_ | refine blk_alloc ?_ _)); refine blk_far ?_ NB168_199.out _; (with_reducible repeat (first | refine blk_drewN ?_ _ | refine blk_drew ?_ | refine blk_alloc ?_ _)); exact BK168.out))) : gb168 ≠ g6); have n6_ := Aside0.mk ((by rw [hg]; exact Nat.ne_of_lt (blk_lt (g := gb199) (o := .cells #[.string ((rd_T23 l0_1 x39_1).f0), .int .i64 ((rd_T23 l0_1 x39_1).f1), .int .i64 ((rd_T23 l0_1 x39_1).f2), .bool ((rd_T23 l0_1 x39_1).f3)] 23 (0, 0)) (by (with_reducible repeat (first | refine blk_drewN ?_ _ | refine blk_drew ?_ | refine blk_alloc ?_ _)); refine blk_put (cs := #[.string ((rd_T23 l0_1 x39_1).f0), .int .i64 ((rd_T23 l0_1 x39_1).f1), .int .i64 ((rd_T23 l0_1 x39_1).f2), .bool false]) ?_ 3 _ rfl; (with_reducible repeat (first | refine blk_drewN ?_ _ | refine blk_drew ?_ | refine blk_alloc ?_ _)); refine blk_put (cs := #[.string ((rd_T23 l0_1 x39_1).f0), .int .i64 ((rd_T23 l0_1 x39_1).f1), .int .i64 0, .bool false]) ?_ 2 _ rfl; (with_reducible repeat (first | refine blk_drewN ?_ _ | refine blk_drew ?_ | refine blk_alloc ?_ _)); refine blk_put (cs := #[.string ((rd_T23 l0_1 x39_1).f0), .int .i64 0, .int .i64 0, .bool false]) ?_ 1 _ rfl; (with_reducible repeat (first | refine blk_drewN ?_ _ | refine blk_drew ?_ | refine blk_alloc ?_ _)); refine blk_put (cs := #[.string (⟨#[]⟩ : ByteArray), .int .i64 0, .int .i64 0, .bool false]) ?_ 0 _ rfl; (with_reducible repeat (first | refine blk_drewN ?_ _ | refine blk_drew ?_ | refine blk_alloc ?_ _)); exact BK199.out))) : gb199 ≠ g6); have n7_ := Aside0.mk ((by rw [hg]; exact below_size (by repeat (first | (with_reducible first | exact HB.out | apply below_alloc | apply pw_below_drewN | apply below_drew1 | refine below_set ?_ GE168.out | refine below_set ?_ GE199.out) | exact HB.out))) : w.heap.size ≤ g6); have n8_ := Aside0.mk hbox; clear HO_3; clear BK168; clear BK199; clear HB; have HO_3 := n0_; have BK168 := n2_; have BK199 := n3_; have HB := n4_; have N168_6 := n5_; have N199_6 := n6_; have GE6 := n7_; have BK6 := n8_; clear n0_ n2_ n3_ n4_ n5_ n6_ n7_ n8_; clear hb hbox hg))
                      (try clear hcz41_0);(try clear hcz41_1);(try clear hcz41_2);(try clear hcz41_3);(try clear hfz41_0);(try clear hfz41_1);(try clear hfz41_2);(try clear hfz41_3);(try clear hx198_0);(try clear hx198_1);(try clear hx198_2);(try clear hx198_3)
                      have nO := Aside0.mk (Kd.R_drew HO_3.out)
                      have n1 := Aside0.mk (blk_drew BK168.out)
                      have n2 := Aside0.mk (blk_drew BK199.out)
                      have n3 := Aside0.mk (blk_drew BK6.out)
                      have nB := Aside0.mk (below_drew1 HB.out)
                      clear HO_3 BK168 BK199 BK6 HB
                      have HO_3 := nO
                      have BK168 := n1
                      have BK199 := n2
                      have BK6 := n3
                      have HB := nB
                      clear nO n1 n2 n3 nB
                      refine start_ (n := 4) (S := fun w' => w'.heap[gb199]? = some (.cells #[.string ((rd_T23 l0_1 x39_1).f0), .int .i64 ((rd_T23 l0_1 x39_1).f1), .int .i64 ((rd_T23 l0_1 x39_1).f2), .bool ((rd_T23 l0_1 x39_1).f3)] 23 (0, 0))) (ds := []) #[false, false, false, false] (by kernel_rfl) rfl rfl BK199.out (fun hHeld => ?_)
                      refine with_tab hd_tab9 (fun HT_ => ?_)
                      generalize w6.drew = w7 at HO_3 BK168 BK199 BK6 HB hHeld ⊢
                      refine pure_ (i := 0) (N := some 43) (v := ?_) (a' := ?_) #[true, false, false, false] rfl rfl (any_of HT_.out (by kernel_rfl)) (fun _ _ _ h => h) (Or.inl ⟨by rfl, ?_⟩) ?_ ?_
                      rotate_left
                      · intro w'
                        go_simp
                        with_reducible rfl
                      rotate_left
                      · simp only [Act.put, List.setIfInBounds_toArray, List.set_cons_zero, List.set_cons_succ, i64_w, i32_w]
                        rfl
                      refine pure_ (i := 1) (N := some 44) (v := ?_) (a' := ?_) #[true, true, false, false] rfl rfl (any_of HT_.out (by kernel_rfl)) (fun _ _ _ h => h) (Or.inl ⟨by rfl, ?_⟩) ?_ ?_
                      rotate_left
                      · intro w'
                        go_simp
                        with_reducible rfl
                      rotate_left
                      · simp only [Act.put, List.setIfInBounds_toArray, List.set_cons_zero, List.set_cons_succ, i64_w, i32_w]
                        rfl
                      refine take_ (i := 2) (N := some 45) (v := ?_) (a' := ?_) #[true, true, true, false] rfl rfl (take_of HT_.out (by kernel_rfl)) (fun _ _ _ h => h) (Or.inl ⟨by rfl, ?_⟩) hHeld ?_ ?_
                      rotate_left
                      · rintro w' s0
                        have sc := (blk_cell s0 0).trans rfl
                        go_simp
                        with_reducible rfl
                      rotate_left
                      · simp only [Act.put, List.setIfInBounds_toArray, List.set_cons_zero, List.set_cons_succ, i64_w, i32_w]
                        rfl
                      refine one_ (i := 3) (N := some 46) #[true, true, true, true] rfl rfl (one_of HT_.out (by kernel_rfl)) (by decide) (fun K hK => ?_)
                      have hcp := copy_arr w7 g6 (rd_T23 l0_1 x39_1).f0 BK6.out HS10.out
                      refine event_step (v := .int .i64 (rd_T23 l0_1 x39_1).f0.size) (w1 := w7.setRow g6 (u8s (nameL (rd_T23 l0_1 x39_1).f0 ++ [0, 0, 0, 0, 0, 0]))) rfl (by first | (go_simp; done) | (go_simp; exact ⟨rfl, rfl⟩)) ?_
                      clear hcp
                      have nO := Aside0.mk (rowset_R HO_3.out BK6.out (u8s (nameL (rd_T23 l0_1 x39_1).f0 ++ [0, 0, 0, 0, 0, 0])) (by decide))
                      have n1 := Aside0.mk (rowset_far BK168.out N168_6.out (u8s (nameL (rd_T23 l0_1 x39_1).f0 ++ [0, 0, 0, 0, 0, 0])))
                      have n2 := Aside0.mk (rowset_far BK199.out N199_6.out (u8s (nameL (rd_T23 l0_1 x39_1).f0 ++ [0, 0, 0, 0, 0, 0])))
                      have n3 := Aside0.mk (setRow_heap w7 g6 _ (u8s (nameL (rd_T23 l0_1 x39_1).f0 ++ [0, 0, 0, 0, 0, 0])) 123 _ BK6.out)
                      have nB := Aside0.mk (below_setRow HB.out GE6.out (u8s (nameL (rd_T23 l0_1 x39_1).f0 ++ [0, 0, 0, 0, 0, 0])))
                      clear HO_3 BK168 BK199 BK6 HB
                      have HO_3 := nO
                      have BK168 := n1
                      have BK199 := n2
                      have BK6 := n3
                      have HB := nB
                      clear nO n1 n2 n3 nB
                      generalize w7.setRow g6 (u8s (nameL (rd_T23 l0_1 x39_1).f0 ++ [0, 0, 0, 0, 0, 0])) = w8 at HO_3 BK168 BK199 BK6 HB ⊢
                      refine hK.out _ _ BK199.out (fun hHeld => ?_)
                      clear hK K
                      refine norm_ (a' := ?_) ?_ ?_
                      rotate_left
                      · show Act.put _ (some 46) _ = _
                        simp only [Act.put, List.setIfInBounds_toArray, List.set_cons_zero, List.set_cons_succ, i64_w, i32_w]
                        rfl
                      refine done_ (done_of HT_.out (by kernel_rfl)) ?_
                      clear hHeld HT_
                      go_wp2
                      obtain ⟨kf1, kf2, hkv⟩ := kindVal_letter (rd_T23 l0_1 x39_1).f1
                      have HKV := Aside0.mk hkv
                      clear hkv
                      have hfl : ∀ (a b c d e : Value) (W : World), (Instr.field 102 (.agg #[a, b, c, d, e]) 0).run Tryz.prog W = .ok a W := fun _ _ _ _ _ _ => by kernel_rfl
                      have nO := Aside0.mk (Kd.R_drew HO_3.out)
                      have n1 := Aside0.mk (blk_drew BK168.out)
                      have n2 := Aside0.mk (blk_drew BK199.out)
                      have n3 := Aside0.mk (blk_drew BK6.out)
                      have nB := Aside0.mk (below_drew1 HB.out)
                      clear HO_3 BK168 BK199 BK6 HB
                      have HO_3 := nO
                      have BK168 := n1
                      have BK199 := n2
                      have BK6 := n3
                      have HB := nB
                      clear nO n1 n2 n3 nB
                      refine start_ (n := 12) (S := fun w' => w'.heap[gb199]? = some (.cells #[.string ((rd_T23 l0_1 x39_1).f0), .int .i64 ((rd_T23 l0_1 x39_1).f1), .int .i64 ((rd_T23 l0_1 x39_1).f2), .bool ((rd_T23 l0_1 x39_1).f3)] 23 (0, 0))) (ds := []) #[false, false, false, false, false, false, false, false, false, false, false, false] (by kernel_rfl) rfl rfl BK199.out (fun hHeld => ?_)
                      refine with_tab hd_tab10 (fun HT_ => ?_)
                      generalize w8.drew = w9 at HO_3 BK168 BK199 BK6 HB hHeld ⊢
                      refine pure_ (i := 1) (N := some 48) (v := ?_) (a' := ?_) #[false, true, false, false, false, false, false, false, false, false, false, false] rfl rfl (any_of HT_.out (by kernel_rfl)) (fun _ _ _ h => h) (Or.inl ⟨by rfl, ?_⟩) ?_ ?_
                      rotate_left
                      · intro w'
                        go_simp
                        with_reducible rfl
                      rotate_left
                      · simp only [Act.put, List.setIfInBounds_toArray, List.set_cons_zero, List.set_cons_succ, i64_w, i32_w]
                        rfl
                      refine take_ (i := 2) (N := some 49) (v := ?_) (a' := ?_) #[false, true, true, false, false, false, false, false, false, false, false, false] rfl rfl (take_of HT_.out (by kernel_rfl)) (fun _ _ _ h => h) (Or.inl ⟨by rfl, ?_⟩) hHeld ?_ ?_
                      rotate_left
                      · rintro w' s0
                        have sc := (blk_cell s0 1).trans rfl
                        go_simp
                        with_reducible rfl
                      rotate_left
                      · simp only [Act.put, List.setIfInBounds_toArray, List.set_cons_zero, List.set_cons_succ, i64_w, i32_w]
                        rfl
                      refine pure_ (i := 5) (N := some 52) (v := ?_) (a' := ?_) #[false, true, true, false, false, true, false, false, false, false, false, false] rfl rfl (any_of HT_.out (by kernel_rfl)) (fun _ _ _ h => h) (Or.inl ⟨by rfl, ?_⟩) ?_ ?_
                      rotate_left
                      · intro w'
                        go_simp
                        with_reducible rfl
                      rotate_left
                      · simp only [Act.put, List.setIfInBounds_toArray, List.set_cons_zero, List.set_cons_succ, i64_w, i32_w]
                        rfl
                      refine take_ (i := 6) (N := some 53) (v := ?_) (a' := ?_) #[false, true, true, false, false, true, true, false, false, false, false, false] rfl rfl (take_of HT_.out (by kernel_rfl)) (fun _ _ _ h => h) (Or.inl ⟨by rfl, ?_⟩) hHeld ?_ ?_
                      rotate_left
                      · rintro w' s0
                        have sc := (blk_cell s0 2).trans rfl
                        go_simp
                        with_reducible rfl
                      rotate_left
                      · simp only [Act.put, List.setIfInBounds_toArray, List.set_cons_zero, List.set_cons_succ, i64_w, i32_w]
                        rfl
                      refine pure_ (i := 7) (N := some 54) (v := ?_) (a' := ?_) #[false, true, true, false, false, true, true, true, false, false, false, false] rfl rfl (any_of HT_.out (by kernel_rfl)) (fun _ _ _ h => h) (Or.inl ⟨by rfl, ?_⟩) ?_ ?_
                      rotate_left
                      · intro w'
                        go_simp
                        with_reducible rfl
                      rotate_left
                      · simp only [Act.put, List.setIfInBounds_toArray, List.set_cons_zero, List.set_cons_succ, i64_w, i32_w]
                        rfl
                      refine one_ (i := 0) (N := some 47) #[true, true, true, false, false, true, true, true, false, false, false, false] rfl rfl (one_of HT_.out (by kernel_rfl)) (by decide) (fun K hK => ?_)
                      refine goes_ Tryz.func89 (by kernel_rfl) rfl #[] (by rfl) rfl rfl (by (try simp only [List.map_toArray, List.map_cons, List.map_nil]); first | done | rfl) ?_
                      refine (table_kinds w9).mono ?_
                      rintro e w10 ⟨rk, rfl, hkb, hb⟩
                      refine ⟨_, rfl, ?_⟩
                      have HKB := Aside0.mk hkb
                      clear hkb
                      have nO := Aside0.mk (Kd.R_below HO_3.out hb)
                      have n1 := Aside0.mk (blk_below BK168.out hb)
                      have n2 := Aside0.mk (blk_below BK199.out hb)
                      have n3 := Aside0.mk (blk_below BK6.out hb)
                      have nB := Aside0.mk (below_step HB.out hb)
                      clear HO_3 BK168 BK199 BK6 HB
                      have HO_3 := nO
                      have BK168 := n1
                      have BK199 := n2
                      have BK6 := n3
                      have HB := nB
                      clear nO n1 n2 n3 nB
                      clear hb
                      refine hK.out _ _ BK199.out (fun hHeld => ?_)
                      clear hK K
                      refine norm_ (a' := ?_) ?_ ?_
                      rotate_left
                      · show Act.put _ (some 47) _ = _
                        simp only [Act.put, List.setIfInBounds_toArray, List.set_cons_zero, List.set_cons_succ, i64_w, i32_w]
                        rfl
                      refine one_ (i := 3) (N := some 50) #[true, true, true, true, false, true, true, true, false, false, false, false] rfl rfl (one_of HT_.out (by kernel_rfl)) (by decide) (fun K hK => ?_)
                      have hlk := run_look' w10 rk HKB.out _ _ HKV.out
                      refine event_step (v := .agg #[.int .u8 (kindLetter (rd_T23 l0_1 x39_1).f1), .int .i64 (kindLo (rd_T23 l0_1 x39_1).f1), .int .i64 (kindHi (rd_T23 l0_1 x39_1).f1), kf1, kf2]) (w1 := w10) rfl (by first | (go_simp; done) | (go_simp; rfl) | (go_simp; exact ⟨rfl, rfl⟩)) ?_
                      refine hK.out _ _ BK199.out (fun hHeld => ?_)
                      clear hK K
                      refine norm_ (a' := ?_) ?_ ?_
                      rotate_left
                      · show Act.put _ (some 50) _ = _
                        simp only [Act.put, List.setIfInBounds_toArray, List.set_cons_zero, List.set_cons_succ, i64_w, i32_w]
                        rfl
                      clear hlk
                      refine one_ (i := 4) (N := some 51) #[true, true, true, true, true, true, true, true, false, false, false, false] rfl rfl (one_of HT_.out (by kernel_rfl)) (by decide) (fun K hK => ?_)
                      refine event_step (v := .int .u8 (kindLetter (rd_T23 l0_1 x39_1).f1)) (w1 := w10) rfl (by first | (go_simp; done) | (go_simp; rfl) | (go_simp; exact ⟨rfl, rfl⟩)) ?_
                      refine hK.out _ _ BK199.out (fun hHeld => ?_)
                      clear hK K
                      refine norm_ (a' := ?_) ?_ ?_
                      rotate_left
                      · show Act.put _ (some 51) _ = _
                        simp only [Act.put, List.setIfInBounds_toArray, List.set_cons_zero, List.set_cons_succ, i64_w, i32_w]
                        rfl
                      refine one_ (i := 8) (N := some 55) #[true, true, true, true, true, true, true, true, true, false, false, false] rfl rfl (one_of HT_.out (by kernel_rfl)) (by decide) (fun K hK => ?_)
                      refine event_step (v := .pointer (some ⟨g6, 10, none⟩)) (w1 := w10) rfl (by first | (go_simp; done) | (go_simp; rfl) | (go_simp; exact ⟨rfl, rfl⟩)) ?_
                      refine hK.out _ _ BK199.out (fun hHeld => ?_)
                      clear hK K
                      refine norm_ (a' := ?_) ?_ ?_
                      rotate_left
                      · show Act.put _ (some 55) _ = _
                        simp only [Act.put, List.setIfInBounds_toArray, List.set_cons_zero, List.set_cons_succ, i64_w, i32_w]
                        rfl
                      have HN10 := Aside0.mk (nameL_len HS10.out)
                      refine one_ (i := 9) (N := none) #[true, true, true, true, true, true, true, true, true, true, false, false] rfl rfl (one_of HT_.out (by kernel_rfl)) (by decide) (fun K hK => ?_)
                      have hcc : ∃ x, w10.cell? ⟨g6, 10, none⟩ = some x := ⟨_, (blk_cell BK6.out 10).trans (u8s_some (by rw [List.length_append, HN10.out]; simp))⟩
                      obtain ⟨x0, hcc⟩ := hcc
                      have hff := blk_frozen BK6.out 10
                      refine skip_event (w1 := w10.setCell ⟨g6, 10, none⟩ (.int .u8 (kindLetter (rd_T23 l0_1 x39_1).f1))) rfl (by rfl) (by first | (go_simp; done) | (go_simp; rfl) | (go_simp; exact ⟨rfl, rfl⟩)) ?_
                      clear hcc hff
                      have nO := Aside0.mk (cellset_R (j := 10) (u := .int .u8 (kindLetter (rd_T23 l0_1 x39_1).f1)) HO_3.out BK6.out (by decide))
                      have n1 := Aside0.mk (blk_far BK168.out (p := ⟨g6, 10, none⟩) N168_6.out (.int .u8 (kindLetter (rd_T23 l0_1 x39_1).f1)))
                      have n2 := Aside0.mk (blk_far BK199.out (p := ⟨g6, 10, none⟩) N199_6.out (.int .u8 (kindLetter (rd_T23 l0_1 x39_1).f1)))
                      have n3 := Aside0.mk (blk_put BK6.out 10 (.int .u8 (kindLetter (rd_T23 l0_1 x39_1).f1)) ((set16 _ HN10.out 0 0 0 0 0 0 _).1))
                      have nB := Aside0.mk (below_set (j := 10) (v := .int .u8 (kindLetter (rd_T23 l0_1 x39_1).f1)) HB.out GE6.out)
                      clear HO_3 BK168 BK199 BK6 HB
                      have HO_3 := nO
                      have BK168 := n1
                      have BK199 := n2
                      have BK6 := n3
                      have HB := nB
                      clear nO n1 n2 n3 nB
                      generalize w10.setCell ⟨g6, 10, none⟩ (.int .u8 (kindLetter (rd_T23 l0_1 x39_1).f1)) = w11 at HO_3 BK168 BK199 BK6 HB ⊢
                      refine hK.out _ _ BK199.out (fun hHeld => ?_)
                      clear hK K
                      refine one_ (i := 10) (N := some 56) #[true, true, true, true, true, true, true, true, true, true, true, false] rfl rfl (one_of HT_.out (by kernel_rfl)) (by decide) (fun K hK => ?_)
                      refine event_step (v := .pointer (some ⟨g6, 11, none⟩)) (w1 := w11) rfl (by first | (go_simp; done) | (go_simp; rfl) | (go_simp; exact ⟨rfl, rfl⟩)) ?_
                      refine hK.out _ _ BK199.out (fun hHeld => ?_)
                      clear hK K
                      refine norm_ (a' := ?_) ?_ ?_
                      rotate_left
                      · show Act.put _ (some 56) _ = _
                        simp only [Act.put, List.setIfInBounds_toArray, List.set_cons_zero, List.set_cons_succ, i64_w, i32_w]
                        rfl
                      refine one_ (i := 11) (N := none) #[true, true, true, true, true, true, true, true, true, true, true, true] rfl rfl (one_of HT_.out (by kernel_rfl)) (by decide) (fun K hK => ?_)
                      have hcc : ∃ x, w11.cell? ⟨g6, 11, none⟩ = some x := ⟨_, (blk_cell BK6.out 11).trans (u8s_some (by rw [List.length_append, HN10.out]; simp))⟩
                      obtain ⟨x0, hcc⟩ := hcc
                      have hff := blk_frozen BK6.out 11
                      refine skip_event (w1 := w11.setCell ⟨g6, 11, none⟩ (.int .u8 ((rd_T23 l0_1 x39_1).f2 % 256))) rfl (by rfl) (by first | (go_simp; done) | (go_simp; rfl) | (go_simp; exact ⟨rfl, rfl⟩)) ?_
                      clear hcc hff
                      have nO := Aside0.mk (cellset_R (j := 11) (u := .int .u8 ((rd_T23 l0_1 x39_1).f2 % 256)) HO_3.out BK6.out (by decide))
                      have n1 := Aside0.mk (blk_far BK168.out (p := ⟨g6, 11, none⟩) N168_6.out (.int .u8 ((rd_T23 l0_1 x39_1).f2 % 256)))
                      have n2 := Aside0.mk (blk_far BK199.out (p := ⟨g6, 11, none⟩) N199_6.out (.int .u8 ((rd_T23 l0_1 x39_1).f2 % 256)))
                      have n3 := Aside0.mk (blk_put BK6.out 11 (.int .u8 ((rd_T23 l0_1 x39_1).f2 % 256)) ((set16 _ HN10.out _ 0 0 0 0 0 _).2.1))
                      have nB := Aside0.mk (below_set (j := 11) (v := .int .u8 ((rd_T23 l0_1 x39_1).f2 % 256)) HB.out GE6.out)
                      clear HO_3 BK168 BK199 BK6 HB
                      have HO_3 := nO
                      have BK168 := n1
                      have BK199 := n2
                      have BK6 := n3
                      have HB := nB
                      clear nO n1 n2 n3 nB
                      generalize w11.setCell ⟨g6, 11, none⟩ (.int .u8 ((rd_T23 l0_1 x39_1).f2 % 256)) = w12 at HO_3 BK168 BK199 BK6 HB ⊢
                      refine hK.out _ _ BK199.out (fun hHeld => ?_)
                      clear hK K
                      refine done_ (done_of HT_.out (by kernel_rfl)) ?_
                      clear hHeld HT_ hfl HKV HKB
                      have k3 : w12.cell? ⟨gb199, 3, none⟩ = some (.bool (rd_T23 l0_1 x39_1).f3) := (blk_cell BK199.out 3).trans rfl
                      have hcc : ∃ x, w12.cell? ⟨g6, 12, none⟩ = some x := ⟨_, (blk_cell BK6.out 12).trans (u8s_some (by rw [List.length_append, HN10.out]; simp))⟩
                      obtain ⟨x0, hcc⟩ := hcc
                      have hff := blk_frozen BK6.out 12
                      by_cases hnl : (rd_T23 l0_1 x39_1).f3 = true
                      · have HTD' : Aside0 (t200 = nameL (rd_T23 l0_1 x39_1).f0 ++ [kindLetter (rd_T23 l0_1 x39_1).f1, (rd_T23 l0_1 x39_1).f2 % 256, 1, 0, 0, 0]) := ⟨by rw [HTD.out]; unfold descL; rw [hnl]; rfl⟩
                        go_wp2_with (first | ((with_reducible refine gate_builtin (b := .append) (xs := #[.tmp 60, .tmp 61]) rfl ?_); at_builtin; refine Kd.R_append_rows (Kd.int .u8) (w0 := w) w.heap.size rfl (.tmp 60) (.tmp 61) 37 5 (.int .u8 0) 1 rfl Tryz.underlying37 info5 rfl (by decide) (by omega) u3 x3_1 t200 _ _ _ (fun _ => True) (fun _ => False) rfl rfl ?aO ?aR (fun _ _ h => h) (fun _ h => h.elim) ?aF ?aB ?aS ?aL ?_; (case aR => exact hd_C (blk_put BK6.out 12 (.int .u8 1) (set16 _ HN10.out _ _ 0 0 0 0 _).2.2) HTD'.out HTL.out); (case aB => exact (below_set (j := 12) (v := .int .u8 1) HB.out GE6.out)); (case aF => exact (fun _ _ => trivial)); (case aO => exact (cellset_R (j := 12) (u := .int .u8 1) HO_3.out BK6.out (by decide))); (case aS => exact (below_size (below_set (j := 12) (v := .int .u8 1) HB.out GE6.out))); (case aL => have := LMc38.out; have := HTL.out; omega); intro v204 w43 ho hb hg hat; rw [← Ny203.out] at ho; have n0_ := Aside0.mk (blk_grown (g := gb168) (o := .cells #[.int .i64 a0_0, .slice (some ad198) l0_1.length c0_1, .slice A0_2 l0_2.length c0_2] 35 (0, 0)) (blk_far BK168.out (p := ⟨g6, 12, none⟩) N168_6.out (.int .u8 1)) hg (Kd.R_ne (cellset_R (j := 12) (u := .int .u8 1) HO_3.out BK6.out (by decide)) (blk_far BK168.out (p := ⟨g6, 12, none⟩) N168_6.out (.int .u8 1)) (by decide))); have n3_ := Aside0.mk (hb); have n4_ := Aside0.mk (ho); clear BK168; clear HB; clear HO_3; have BK168 := n0_; have HB := n3_; have HO205 := n4_; clear n0_ n3_ n4_; clear ho hb hg hat))
                        go_roundg k1
                        case measure => have := HK1.out; omega
                        case rel => exact ⟨(y203), (wrap64 (x39_1 + 1)), (by first | rfl | (simp; done) | (simp [*]; done)), H', ⟨by have := HK1.out; omega⟩, ⟨by (with_reducible repeat (first | apply Kd.R_alloc | apply Kd.R_drewN | apply Kd.R_drew)); exact Kd.R_mono HO205.out (fun _ hk => trivial)⟩, ⟨by (with_reducible repeat (first | refine blk_drewN ?_ _ | refine blk_drew ?_ | refine blk_alloc ?_ _)); exact BK168.out⟩, ⟨by repeat (first | (with_reducible first | exact HB.out | apply below_alloc | apply pw_below_drewN | apply below_drew1 | refine below_set ?_ GE168.out | refine below_set ?_ GE199.out) | exact HB.out)⟩⟩
                      · replace hnl := Bool.eq_false_iff.2 hnl
                        have HTD' : Aside0 (t200 = nameL (rd_T23 l0_1 x39_1).f0 ++ [kindLetter (rd_T23 l0_1 x39_1).f1, (rd_T23 l0_1 x39_1).f2 % 256, 0, 0, 0, 0]) := ⟨by rw [HTD.out]; unfold descL; rw [hnl]; rfl⟩
                        go_wp2_with (first | ((with_reducible refine gate_builtin (b := .append) (xs := #[.tmp 60, .tmp 61]) rfl ?_); at_builtin; refine Kd.R_append_rows (Kd.int .u8) (w0 := w) w.heap.size rfl (.tmp 60) (.tmp 61) 37 5 (.int .u8 0) 1 rfl Tryz.underlying37 info5 rfl (by decide) (by omega) u3 x3_1 t200 _ _ _ (fun _ => True) (fun _ => False) rfl rfl ?aO ?aR (fun _ _ h => h) (fun _ h => h.elim) ?aF ?aB ?aS ?aL ?_; (case aR => exact hd_C (BK6.out) HTD'.out HTL.out); (case aB => exact HB.out); (case aF => exact (fun _ _ => trivial)); (case aO => exact (HO_3.out)); (case aS => exact (below_size HB.out)); (case aL => have := LMc38.out; have := HTL.out; omega); intro v204 w43 ho hb hg hat; rw [← Ny203.out] at ho; have n0_ := Aside0.mk (blk_grown (g := gb168) (o := .cells #[.int .i64 a0_0, .slice (some ad198) l0_1.length c0_1, .slice A0_2 l0_2.length c0_2] 35 (0, 0)) (BK168.out) hg (Kd.R_ne (HO_3.out) (BK168.out) (by decide))); have n3_ := Aside0.mk (hb); have n4_ := Aside0.mk (ho); clear BK168; clear HB; clear HO_3; have BK168 := n0_; have HB := n3_; have HO205 := n4_; clear n0_ n3_ n4_; clear ho hb hg hat))
                        go_roundg k1
                        case measure => have := HK1.out; omega
                        case rel => exact ⟨(y203), (wrap64 (x39_1 + 1)), (by first | rfl | (simp; done) | (simp [*]; done)), H', ⟨by have := HK1.out; omega⟩, ⟨by (with_reducible repeat (first | apply Kd.R_alloc | apply Kd.R_drewN | apply Kd.R_drew)); exact Kd.R_mono HO205.out (fun _ hk => trivial)⟩, ⟨by (with_reducible repeat (first | refine blk_drewN ?_ _ | refine blk_drew ?_ | refine blk_alloc ?_ _)); exact BK168.out⟩, ⟨by repeat (first | (with_reducible first | exact HB.out | apply below_alloc | apply pw_below_drewN | apply below_drew1 | refine below_set ?_ GE168.out | refine below_set ?_ GE199.out) | exact HB.out)⟩⟩
                    · rw [if_neg c38] at H
                      exact absurd H (by simp)
                  · rw [if_neg c36] at H
                    exact absurd H (by simp)
                · rw [if_neg c35] at H
                  exact absurd H (by simp)
              · rw [if_neg c34] at H
                have c34b0 : decide (x39_1 < (l0_1.length : Int)) = false := decide_eq_false c34
                clear c34
                by_cases c45 : x3_1.length < 140737488355328
                · rw [if_pos c45] at H
                  have LMc45 := Aside0.mk c45
                  clear c45
                  obtain ⟨y206, hy206⟩ : ∃ y_ : List Int, y_ = (x3_1 ++ [13]) := ⟨_, rfl⟩
                  replace H : (some y206) = some r := by rw [hy206]; exact H
                  have Ny206 := Aside0.mk hy206
                  clear hy206
                  obtain rfl := Option.some.inj H
                  go_wp2_with (first | ((with_reducible refine gate_builtin (b := .append) (xs := #[.tmp 64, .tmp 65]) rfl ?_); at_builtin; refine Kd.R_append (Kd.int .u8) (w0 := w) w.heap.size rfl (.tmp 64) (.tmp 65) 37 5 (.int .u8 0) 1 rfl Tryz.underlying37 info5 rfl (by decide) (by omega) u3 x3_1 13 [.int .u8 13] (fun _ => True) (fun _ => False) rfl rfl ?aP (fun _ hk => hk.elim) ?aF ?aO ?aB ?aS ?aL ?_; (case aP => exact rfl); (case aB => exact (by repeat (first | (with_reducible first | exact HB.out | apply below_alloc | apply pw_below_drewN | apply below_drew1 | refine below_set ?_ GE168.out) | exact HB.out))); (case aF => exact (fun _ _ => trivial)); (case aO => exact (by (with_reducible repeat (first | apply Kd.R_alloc | apply Kd.R_drewN | apply Kd.R_drew)); exact HO_3.out)); (case aS => exact (below_size (by repeat (first | (with_reducible first | exact HB.out | apply below_alloc | apply pw_below_drewN | apply below_drew1 | refine below_set ?_ GE168.out) | exact HB.out)))); (case aL => have := LMc45.out; omega); intro v207 w46 ho hb hg hat; rw [← Ny206.out] at ho; have n0_ := Aside0.mk (blk_grown (g := gb168) (o := .cells #[.int .i64 a0_0, .slice A0_1 l0_1.length c0_1, .slice A0_2 l0_2.length c0_2] 35 (0, 0)) (by (with_reducible repeat (first | refine blk_drewN ?_ _ | refine blk_drew ?_ | refine blk_alloc ?_ _)); exact BK168.out) hg (Kd.R_ne HO_3.out BK168.out (by decide))); have n1_ := Aside0.mk (hb); have n2_ := Aside0.mk (ho); clear BK168; clear HB; clear HO_3; have BK168 := n0_; have HB := n1_; have HO208 := n2_; clear n0_ n1_ n2_; clear ho hb hg hat))
                  go_ret
                  exact ⟨_, rfl, by (with_reducible repeat (first | apply Kd.R_alloc | apply Kd.R_drewN | apply Kd.R_drew)); exact HO208.out, by repeat (first | (with_reducible first | exact HB.out | apply below_alloc | apply pw_below_drewN | apply below_drew1 | refine below_set ?_ GE168.out) | exact HB.out)⟩
                · rw [if_neg c45] at H
                  exact absurd H (by simp)
        · rw [if_neg c10] at H
          exact absurd H (by simp)
      · rw [if_neg c9] at H
        exact absurd H (by simp)
    · rw [if_neg c6] at H
      exact absurd H (by simp)
  · rw [if_neg c3] at H
    exact absurd H (by simp)
end Go.Proofs.YtldpdidlfbphcaaGreatDoor.P
end
section
namespace Go.Proofs.YtldpdidlfbphcaaGreatDoor.P
open Go.RowKit Go.Proofs.YtldpdidlfbphcaaGreatDoorW.PrintWords Go.Proofs.YtldpdidlfbphcaaGreatDoorW.PrintLast Go.Proofs.YtldpdidlfbphcaaGreatDoorW.PrintMore
attribute [local go_sem] max2_int min2_int max_two min_two max_three min_three max_four min_four
def table_Header.f (k : Nat) (a0_0 : Int) (l0_1 : List (S23)) (l0_2 : List (S46)) : Option (List Int × Int) := (table_Validate.f k a0_0 l0_1 l0_2).bind fun t244 => (if t244 = 0 then ((table_header.f k a0_0 l0_1 l0_2).bind fun t245 => (some (t245, 0))) else (some (([] : List Int), t244)))
theorem table_Header.mono : ∀ a0 a1 a2 k, LeO (table_Header.f k a0 a1 a2) (table_Header.f (k + 1) a0 a1 a2) := by
  intro a0 a1 a2 k
  unfold table_Header.f
  repeat' first
      | (with_reducible exact table_Validate.mono _ _ _ _)
      | (with_reducible exact table_header.mono _ _ _ _)
      | (with_reducible exact LeO.refl _)
      | (with_reducible exact LeO.none _)
      | (with_reducible refine LeO.ite ?_ ?_)
      | (with_reducible refine LeO.bind ?_ (fun _ => ?_))
      | exact table_Validate.mono _ _ _ _
      | exact table_header.mono _ _ _ _
      | exact LeO.none _
      | refine LeO.ite ?_ ?_
      | refine LeO.bind ?_ (fun _ => ?_)
set_option maxHeartbeats 8000000 in
set_option maxRecDepth 100000 in
theorem table_Header.calls (k : Nat) (a0_0 : Int) (A0_1 : Option Addr) (c0_1 : Nat) (l0_1 : List (S23)) (A0_2 : Option Addr) (c0_2 : Nat) (l0_2 : List (S46)) (r1 : List Int) (r2 : Int) (w : World) (hr0_1 : Kd.C k23 w A0_1 l0_1.length l0_1) (hc0_1 : l0_1.length ≤ c0_1) (hr0_2 : Kd.C k46 w A0_2 l0_2.length l0_2) (hc0_2 : l0_2.length ≤ c0_2) (h : table_Header.f k a0_0 l0_1 l0_2 = some (r1, r2)) :
    Calls Tryz.prog 19 #[.agg #[.int .i64 a0_0, .slice A0_1 l0_1.length c0_1, .slice A0_2 l0_2.length c0_2]] w fun e w' => ∃ v0_ : Value, e = .returned (.tuple #[v0_, .int .i64 r2]) ∧ Kd.R (Kd.int .u8) 5 w' w.heap.size (fun _ => True) v0_ r1 ∧ Below w.heap.size w w' := by
  have hu35 := Tryz.underlying35
  have HR0_1 := Aside0.mk hr0_1
  have HC0_1 := Aside0.mk hc0_1
  clear hr0_1 hc0_1
  have HR0_2 := Aside0.mk hr0_2
  have HC0_2 := Aside0.mk hc0_2
  clear hr0_2 hc0_2
  have HB := Aside0.mk (Below.refl w.heap.size w)
  have H : ((table_Validate.f k a0_0 l0_1 l0_2).bind fun t244 => (if t244 = 0 then ((table_header.f k a0_0 l0_1 l0_2).bind fun t245 => (some (t245, 0))) else (some (([] : List Int), t244)))) = some (r1, r2) := h
  clear h
  replace H := Option.bind_eq_some_iff.mp H
  obtain ⟨t244, A20, H⟩ := H
  replace H : (if t244 = 0 then ((table_header.f k a0_0 l0_1 l0_2).bind fun t245 => (some (t245, 0))) else (some (([] : List Int), t244))) = some (r1, r2) := H
  have A2 := Aside0.mk A20
  clear A20
  by_cases c3 : t244 = 0
  · rw [if_pos c3] at H
    have c3b0 : (t244 == 0) = true := beq_iff_eq.mpr c3
    have c3b1 : (t244 != 0) = false := bne_eq_false_iff_eq.mpr c3
    clear c3
    replace H := Option.bind_eq_some_iff.mp H
    obtain ⟨t245, A40, H⟩ := H
    replace H : (some (t245, 0)) = some (r1, r2) := H
    have A4 := Aside0.mk A40
    clear A40
    simp only [Option.some.injEq, Prod.mk.injEq] at H
    obtain ⟨rfl, rfl⟩ := H
    go_enter Tryz.func19, Tryz.ntmps19
    go_wp2_with (first | ((with_reducible refine gate_dst (N := 1) rfl ?_); refine box_event ?hg (N := 1) ?hd (cs := #[.int .i64 a0_0, .slice A0_1 l0_1.length c0_1, .slice A0_2 l0_2.length c0_2]) (t := 35) ?hr ?_; (case hd => rfl); (case hg => rfl); (case hr => go_simp; try rfl); intro gb243 hg w5 hbox hb; have n0_ := Aside0.mk (below_step HB.out hb); have n1_ := Aside0.mk (hbox); have n3_ := Aside0.mk ((by rw [hg]; exact (below_size HB.out) : w.heap.size ≤ gb243)); clear HB; have HB := n0_; have BK243 := n1_; have GE243 := n3_; clear n0_ n1_ n3_; clear hb hbox hg; have hcz6_0 : w5.cell? ⟨gb243, 0, none⟩ = some (.int .i64 a0_0) := (blk_cell BK243.out 0).trans rfl; have hcz6_1 : w5.cell? ⟨gb243, 1, none⟩ = some (.slice A0_1 l0_1.length c0_1) := (blk_cell BK243.out 1).trans rfl; have hcz6_2 : w5.cell? ⟨gb243, 2, none⟩ = some (.slice A0_2 l0_2.length c0_2) := (blk_cell BK243.out 2).trans rfl; have hfz6_0 := blk_frozen BK243.out 0; have hfz6_1 := blk_frozen BK243.out 1; have hfz6_2 := blk_frozen BK243.out 2) | ((with_reducible refine gate_callee (f := 34) rfl ?_); refine goesL_ (some 6) rfl rfl Tryz.func34 (by kernel_rfl) rfl #[.agg #[.int .i64 a0_0, .slice A0_1 l0_1.length c0_1, .slice A0_2 l0_2.length c0_2]] rfl (by (try simp only [List.map_toArray, List.map_cons, List.map_nil]); first | done | rfl) ?_; (with_reducible refine (table_Validate.calls k a0_0 _ _ l0_1 _ _ l0_2 t244 _ ?side1 ?side2 ?side3 ?side4 A2.out).mono ?_); (case side1 => repeat (first | exact (Kd.C_below HR0_1.out HB.out) | (with_reducible refine Kd.C_alloc ?_ _) | (with_reducible refine Kd.C_drewN ?_ _) | (with_reducible refine Kd.C_drew ?_))); (case side2 => exact HC0_1.out); (case side3 => repeat (first | exact (Kd.C_below HR0_2.out HB.out) | (with_reducible refine Kd.C_alloc ?_ _) | (with_reducible refine Kd.C_drewN ?_ _) | (with_reducible refine Kd.C_drew ?_))); (case side4 => exact HC0_2.out); rintro e w7 ⟨rfl, hb⟩; refine ⟨_, rfl, ?_⟩; have n0_ := Aside0.mk (blk_below (g := gb243) (o := .cells #[.int .i64 a0_0, .slice A0_1 l0_1.length c0_1, .slice A0_2 l0_2.length c0_2] 35 (0, 0)) BK243.out hb); have n1_ := Aside0.mk (below_step HB.out hb); clear BK243; clear HB; have BK243 := n0_; have HB := n1_; clear n0_ n1_; (try clear hb); (try clear hb2); (try clear hk); (try clear hi); have hcz8_0 : w7.cell? ⟨gb243, 0, none⟩ = some (.int .i64 a0_0) := (blk_cell BK243.out 0).trans rfl; have hcz8_1 : w7.cell? ⟨gb243, 1, none⟩ = some (.slice A0_1 l0_1.length c0_1) := (blk_cell BK243.out 1).trans rfl; have hcz8_2 : w7.cell? ⟨gb243, 2, none⟩ = some (.slice A0_2 l0_2.length c0_2) := (blk_cell BK243.out 2).trans rfl; have hfz8_0 := blk_frozen BK243.out 0; have hfz8_1 := blk_frozen BK243.out 1; have hfz8_2 := blk_frozen BK243.out 2) | ((with_reducible refine gate_callee (f := 62) rfl ?_); refine goesL_ (some 11) rfl rfl Tryz.func62 (by kernel_rfl) rfl #[.agg #[.int .i64 a0_0, .slice A0_1 l0_1.length c0_1, .slice A0_2 l0_2.length c0_2]] rfl (by (try simp only [List.map_toArray, List.map_cons, List.map_nil]); first | done | rfl) ?_; (with_reducible refine (table_header.calls k a0_0 _ _ l0_1 _ _ l0_2 t245 _ ?side1 ?side2 ?side3 ?side4 A4.out).mono ?_); (case side1 => repeat (first | exact (Kd.C_below HR0_1.out HB.out) | (with_reducible refine Kd.C_alloc ?_ _) | (with_reducible refine Kd.C_drewN ?_ _) | (with_reducible refine Kd.C_drew ?_))); (case side2 => exact HC0_1.out); (case side3 => repeat (first | exact (Kd.C_below HR0_2.out HB.out) | (with_reducible refine Kd.C_alloc ?_ _) | (with_reducible refine Kd.C_drewN ?_ _) | (with_reducible refine Kd.C_drew ?_))); (case side4 => exact HC0_2.out); rintro e w9 ⟨v246, rfl, ho0, hb⟩; refine ⟨_, rfl, ?_⟩; have n0_ := Aside0.mk (Kd.R_lower ho0 (below_size HB.out)); have n1_ := Aside0.mk (blk_below (g := gb243) (o := .cells #[.int .i64 a0_0, .slice A0_1 l0_1.length c0_1, .slice A0_2 l0_2.length c0_2] 35 (0, 0)) BK243.out hb); have n2_ := Aside0.mk (below_step HB.out hb); clear BK243; clear HB; have HO247 := n0_; have BK243 := n1_; have HB := n2_; clear n0_ n1_ n2_; (try clear hb); (try clear hb2); (try clear hk); (try clear hi); (try clear ho0)))
    go_ret2
    exact ⟨_, rfl, by (with_reducible repeat (first | apply Kd.R_alloc | apply Kd.R_drewN | apply Kd.R_drew)); exact HO247.out, by repeat (first | (with_reducible first | exact HB.out | apply below_alloc | apply pw_below_drewN | apply below_drew1 | refine below_set ?_ GE243.out) | exact HB.out)⟩
  · rw [if_neg c3] at H
    have c3b0 : (t244 == 0) = false := beq_eq_false_iff_ne.mpr c3
    have c3b1 : (t244 != 0) = true := bne_iff_ne.mpr c3
    simp only [Option.some.injEq, Prod.mk.injEq] at H
    obtain ⟨rfl, rfl⟩ := H
    go_enter Tryz.func19, Tryz.ntmps19
    go_wp2_with (first | ((with_reducible refine gate_dst (N := 1) rfl ?_); refine box_event ?hg (N := 1) ?hd (cs := #[.int .i64 a0_0, .slice A0_1 l0_1.length c0_1, .slice A0_2 l0_2.length c0_2]) (t := 35) ?hr ?_; (case hd => rfl); (case hg => rfl); (case hr => go_simp; try rfl); intro gb243 hg w10 hbox hb; have n0_ := Aside0.mk (below_step HB.out hb); have n1_ := Aside0.mk (hbox); have n3_ := Aside0.mk ((by rw [hg]; exact (below_size HB.out) : w.heap.size ≤ gb243)); clear HB; have HB := n0_; have BK243 := n1_; have GE243 := n3_; clear n0_ n1_ n3_; clear hb hbox hg; have hcz11_0 : w10.cell? ⟨gb243, 0, none⟩ = some (.int .i64 a0_0) := (blk_cell BK243.out 0).trans rfl; have hcz11_1 : w10.cell? ⟨gb243, 1, none⟩ = some (.slice A0_1 l0_1.length c0_1) := (blk_cell BK243.out 1).trans rfl; have hcz11_2 : w10.cell? ⟨gb243, 2, none⟩ = some (.slice A0_2 l0_2.length c0_2) := (blk_cell BK243.out 2).trans rfl; have hfz11_0 := blk_frozen BK243.out 0; have hfz11_1 := blk_frozen BK243.out 1; have hfz11_2 := blk_frozen BK243.out 2) | ((with_reducible refine gate_callee (f := 34) rfl ?_); refine goesL_ (some 6) rfl rfl Tryz.func34 (by kernel_rfl) rfl #[.agg #[.int .i64 a0_0, .slice A0_1 l0_1.length c0_1, .slice A0_2 l0_2.length c0_2]] rfl (by (try simp only [List.map_toArray, List.map_cons, List.map_nil]); first | done | rfl) ?_; (with_reducible refine (table_Validate.calls k a0_0 _ _ l0_1 _ _ l0_2 t244 _ ?side1 ?side2 ?side3 ?side4 A2.out).mono ?_); (case side1 => repeat (first | exact (Kd.C_below HR0_1.out HB.out) | (with_reducible refine Kd.C_alloc ?_ _) | (with_reducible refine Kd.C_drewN ?_ _) | (with_reducible refine Kd.C_drew ?_))); (case side2 => exact HC0_1.out); (case side3 => repeat (first | exact (Kd.C_below HR0_2.out HB.out) | (with_reducible refine Kd.C_alloc ?_ _) | (with_reducible refine Kd.C_drewN ?_ _) | (with_reducible refine Kd.C_drew ?_))); (case side4 => exact HC0_2.out); rintro e w12 ⟨rfl, hb⟩; refine ⟨_, rfl, ?_⟩; have n0_ := Aside0.mk (blk_below (g := gb243) (o := .cells #[.int .i64 a0_0, .slice A0_1 l0_1.length c0_1, .slice A0_2 l0_2.length c0_2] 35 (0, 0)) BK243.out hb); have n1_ := Aside0.mk (below_step HB.out hb); clear BK243; clear HB; have BK243 := n0_; have HB := n1_; clear n0_ n1_; (try clear hb); (try clear hb2); (try clear hk); (try clear hi)))
    go_ret2
    exact ⟨_, rfl, by first | exact Kd.R_nil _ _ _ _ _ | exact Kd.N_nil _ _ _ _ _ | exact Kd.V_nil _ _ _ _ _ | exact Kd.Q_nil _ _ _ _ _ | exact Kd.S_nil _ _ _ _ _, by repeat (first | (with_reducible first | exact HB.out | apply below_alloc | apply pw_below_drewN | apply below_drew1 | refine below_set ?_ GE243.out) | exact HB.out)⟩
end Go.Proofs.YtldpdidlfbphcaaGreatDoor.P
end
section
namespace Go.Proofs.YtldpdidlfbphcaaGreatDoor.P
open Go.RowKit Go.Proofs.YtldpdidlfbphcaaGreatDoorW.PrintWords Go.Proofs.YtldpdidlfbphcaaGreatDoorW.PrintLast Go.Proofs.YtldpdidlfbphcaaGreatDoorW.PrintMore
attribute [local go_sem] max2_int min2_int max_two min_two max_three min_three max_four min_four
theorem size23 : (Tryz.prog.info? 23).map (·.size) = some 4 := by kernel_rfl
theorem size25 : (Tryz.prog.info? 25).map (·.size) = some 3 := by kernel_rfl
theorem made_apart {W w1 : World} {b : Nat} {ok1 ok2 : Nat → Prop} {vo vf : Value} {x5 x6 : List Int} (h1 : Kd.R (Kd.int .u8) 5 W b ok1 vo x5) (h2 : Kd.R (Kd.int .u8) 5 w1 W.heap.size ok2 vf x6) : ∀ k, vo.ownBlock = some k → vf.ownBlock ≠ some k := by
  intro k hk hf
  have a := Kd.R_base h2 k hf
  have b := Kd.R_lt h1 k hk
  omega
theorem RowInv.start {w W w1 : World} {gr gB : Nat} {rc : Array Value} {vo vf : Value} {x5 x6 : List Int} (h1 : Kd.R (Kd.int .u8) 5 W w.heap.size (fun _ => True) vo x5) (h2 : Kd.R (Kd.int .u8) 5 W w.heap.size (fun _ => True) vf x6) (h3 : ∀ k, vo.ownBlock = some k → vf.ownBlock ≠ some k) (h4 : W.heap[gr]? = some (.cells rc 46 (0, 0))) (hB : Below w.heap.size w W)
    (hbox : w1.heap[gB]? = some (.cells #[.pointer none, .slice none 0 0] 126 (0, 0))) (hb : Below W.heap.size W w1) (hg : gB = W.heap.size) : RowInv w gr gB rc vo vf x5 x6 (⟨#[]⟩ : ByteArray) w1 := by
  subst hg
  refine ⟨?_, ?_, h3, blk_below h4 hb, blk_lt h4, hB.size, .inl ⟨Nat.le_refl _, _, hbox, ⟨rfl, .inl ⟨rfl, rfl⟩⟩, by simp [Value.ownBlock]⟩, below_step hB hb⟩
  · exact Kd.R_below (Kd.R_mono (Kd.R_bound h1) (fun _ hk => hk.2.2.1)) hb
  · exact Kd.R_below (Kd.R_mono (Kd.R_bound h2) (fun _ hk => hk.2.2.1)) hb
theorem inv_open {w W : World} {gr gB : Nat} {rc : Array Value} {vo vf : Value} {x5 x6 : List Int} {X : ByteArray} (h : RowInv w gr gB rc vo vf x5 x6 X W) : ∃ W0 : World, Aside0 (RowInv w gr gB rc vo vf x5 x6 X W0) ∧ Aside0 (Below W0.heap.size W0 W) := ⟨W, ⟨h⟩, ⟨Below.refl _ _⟩⟩
theorem RowInv.args {w W : World} {gr gB : Nat} {rc : Array Value} {vo vf : Value} {x5 x6 : List Int} {X : ByteArray} (h : RowInv w gr gB rc vo vf x5 x6 X W) : Below w.heap.size w W := h.2.2.2.2.2.2.2
theorem RowInv.rec {w W : World} {gr gB : Nat} {rc : Array Value} {vo vf : Value} {x5 x6 : List Int} {X : ByteArray} (h : RowInv w gr gB rc vo vf x5 x6 X W) : W.heap[gr]? = some (.cells rc 46 (0, 0)) := h.2.2.2.1
theorem row_step {l0 : List S23} {l1 : List S25} {n : Nat} {x6 : List Int} {b : Int} {X : ByteArray} {r : List Int × ByteArray} {f : S23} (h : rowL (l0.drop n) (l1.drop n) x6 b X = some r) (hn : n < l0.length) (hf : l0.getD n z23 = f) :
    n < l1.length ∧ ∃ y6 p, rowFlag f (l1.getD n z25) x6 b = some y6 ∧ rowPart f (l1.getD n z25) = some p ∧ X.size + p.size ≤ 140737488355328 ∧ rowL (l0.drop (n + 1)) (l1.drop (n + 1)) y6 (rowBit f b) (X ++ p) = some r := by
  rw [List.drop_eq_getElem_cons hn] at h
  have e0 : l0.getD n z23 = l0[n] := by simp [List.getD, hn]
  by_cases h1 : n < l1.length
  · have e1 : l1.getD n z25 = l1[n] := by simp [List.getD, h1]
    rw [List.drop_eq_getElem_cons h1] at h
    rw [e1]
    rw [e0] at hf
    subst hf
    refine ⟨h1, ?_⟩
    simp only [rowL] at h
    obtain ⟨y6, h2, h⟩ := Option.bind_eq_some_iff.mp h
    obtain ⟨p, h3, h⟩ := Option.bind_eq_some_iff.mp h
    split at h
    · rename_i h4
      exact ⟨y6, p, h2, h3, h4, h⟩
    · cases h
  · have e2 : l1.drop n = [] := List.drop_eq_nil_of_le (by omega)
    rw [e2] at h
    simp only [rowL] at h
    cases h
theorem row_kept {w1 w2 : World} {b : Nat} {ok : Nat → Prop} {v : Value} {xs : List Int} {gB : Nat} (h : Kd.R (Kd.int .u8) 5 w1 b ok v xs) (ha : ∀ k, v.ownBlock = some k → ∀ u, w1.cell? ⟨gB, 1, none⟩ = some u → u.ownBlock ≠ some k) (ho : ∀ k o, w1.heap[k]? = some o → (∀ u, w1.cell? ⟨gB, 1, none⟩ = some u → u.ownBlock ≠ some k) → w2.heap[k]? = some o) : Kd.R (Kd.int .u8) 5 w2 b (fun _ => True) v xs := by
  refine Kd.R_mono (Kd.R_step (Kd.R_tight rfl h) (fun k hk hlt => ?_)) (fun _ _ => trivial)
  obtain ⟨o, he⟩ : ∃ o, w1.heap[k]? = some o := ⟨_, Array.getElem?_eq_getElem hlt⟩
  rw [he]
  exact ho k o he (ha k hk.symm)
def row_T13 : Bool × List (List Nat × List Nat) := (true, [([], []), ([], []), ([1], [1]), ([0, 2], [0, 2]), ([3], [3]), ([], []), ([5], [5]), ([6], [6]), ([4, 7], [4, 7]), ([0, 2, 0, 1, 2, 3, 4, 5, 6, 7, 8], [0, 2]), ([9, 8, 0, 1, 2, 3, 4, 5, 6, 7, 8], [8, 9])])
def row_B13 : List Nat := [0, 0, 2, 7, 15, 0, 32, 96, 255, 511, 1023]
theorem row_tab13 : rtab .any (opsOf Tryz.f63 13) = row_T13 := by kernel_rfl
theorem row_bits13 : waitsOk row_T13.2 row_B13 = true := by kernel_rfl
def row_T17 : Bool × List (List Nat × List Nat) := (true, [([],[]),([],[]),([1],[1]),([0,2],[0,2]),([3],[3]),([],[]),([],[]),([4,5,6,0],[4,5,6]),([7,7],[7])])
theorem row_tab17 : rtab .any (opsOf Tryz.f63 17) = row_T17 := by kernel_rfl
def row_B17 : List Nat := [0, 0, 2, 7, 15, 0, 0, 127, 255]
theorem row_bits17 : waitsOk row_T17.2 row_B17 = true := by kernel_rfl
set_option maxHeartbeats 16000000 in
set_option maxRecDepth 100000 in
theorem row_walk (A0 : Option Addr) (c0 : Nat) (l0 : List (S23)) (a1_0 : Bool) (A1 : Option Addr) (c1 : Nat) (l1 : List (S25)) (t : Int) (F : List Int) (Y : ByteArray) (w : World) (hr0 : Kd.C k23 w A0 l0.length l0) (hc0 : l0.length ≤ c0) (hr1 : Kd.C k25 w A1 l1.length l1) (hc1 : l1.length ≤ c1)
    (hA : table_nullBytes.f (l0.length + 2) l0 = some t) (ht0 : 0 ≤ t) (ht1 : t.toNat ≤ 281474976710656) (hL : rowL l0 l1 (List.replicate t.toNat 0) 0 (⟨#[]⟩ : ByteArray) = some (F, Y)) (hn : l0.length ≤ 1000000000) (hs : 1 + F.length + Y.size ≤ 140737488355328) (hyn : Y.size ≠ 0) :
    Calls Tryz.prog 63 #[.slice A0 l0.length c0, .agg #[.bool a1_0, .slice A1 l1.length c1]] w fun e w' => ∃ v0_ : Value, e = .returned (v0_) ∧ Kd.R (Kd.int .u8) 5 w' w.heap.size (fun _ => True) v0_ (([rowHead a1_0] : List Int) ++ F ++ bytesI Y) ∧ Below w.heap.size w w' := by
  have hu46 := Tryz.underlying46
  have hu25 := Tryz.underlying25
  have hu23 := Tryz.underlying23
  have HR0 := Aside0.mk hr0
  have HC0 := Aside0.mk hc0
  have HR1 := Aside0.mk hr1
  have HC1 := Aside0.mk hc1
  have AT := Aside0.mk hA
  have T0 := Aside0.mk ht0
  have T1 := Aside0.mk ht1
  have AL := Aside0.mk hL
  have HN := Aside0.mk hn
  have HS := Aside0.mk hs
  have HYN := Aside0.mk hyn
  clear hr0 hc0 hr1 hc1 hA ht0 ht1 hL hn hs hyn
  have HB := Aside0.mk (Below.refl w.heap.size w)
  go_enter Tryz.func63, Tryz.ntmps63
  go_upto_if 14 with (first | ((with_reducible refine gate_dst (N := 3) rfl ?_); refine box_event ?hg (N := 3) ?hd (cs := #[.bool a1_0, .slice A1 l1.length c1]) (t := 46) ?hr ?_; (case hd => rfl); (case hg => rfl); (case hr => go_simp; try rfl); intro gr hg w4 hbox hb; have n0_ := Aside0.mk (below_step HB.out hb); have BKr := Aside0.mk hbox; clear HB; have HB := n0_; clear n0_ hb hbox hg) | ((with_reducible refine gate_dst (N := 12) rfl ?_); refine Kd.R_lit (Kd.int .u8) _ 5 ?hg (N := 12) ?hd (xs := ([32] : List Int)) (inner := [.int .u8 32]) (ok := fun _ => True) (okp := fun _ => True) ?hr ?hp (fun _ hk => hk) trivial (Below.refl _ _) (Nat.le_refl _) (by simp) ?_; (case hd => rfl); (case hg => rfl); (case hr => go_simp; try rfl); (case hp => exact (Reps.one (show Kd.M (Kd.int .u8) _ _ _ 32 [.int .u8 32] from rfl) (Reps.none _ _))); intro vo w5 ho6 hb hg_ hnew_; clear hg_ hnew_; have HO := Aside0.mk (Kd.R_lower ho6 (below_size HB.out)); have n1_ := Aside0.mk (blk_below BKr.out hb); have n2_ := Aside0.mk (below_step HB.out hb); clear BKr; clear HB; have BKr := n1_; have HB := n2_; clear n1_ n2_; clear hb ho6; have hcz0 : w5.cell? ⟨gr, 0, none⟩ = some (.bool a1_0) := (blk_cell BKr.out 0).trans rfl; have hcz1 : w5.cell? ⟨gr, 1, none⟩ = some (.slice A1 l1.length c1) := (blk_cell BKr.out 1).trans rfl; have hfz0 := blk_frozen BKr.out 0; have hfz1 := blk_frozen BKr.out 1))
  (try simp only [Act.put, List.setIfInBounds_toArray, List.set_cons_zero, List.set_cons_succ])
  go_cut [] (fun wc => ∃ x5 : List Int, Aside0 (x5 = [rowHead a1_0]) ∧ Aside0 (Kd.R (Kd.int .u8) 5 wc w.heap.size (fun _ => True) vo x5) ∧ Aside0 (wc.heap[gr]? = some (.cells #[.bool a1_0, .slice A1 l1.length c1] 46 (0, 0))) ∧ Aside0 (Below w.heap.size w wc))
  case first =>
    cases a1_0
    · go_wp2
      go_meet
      case rel => exact ⟨[32], ⟨rfl⟩, HO, BKr, HB⟩
    · obtain ⟨go10, co10, eo10, gb10, gl10, cl10, HG10⟩ := Kd.R_form HO.out (by simp)
      subst eo10
      have GB10 := Aside0.mk gb10
      clear gb10 gl10 HG10
      obtain ⟨hx10, hf10⟩ := Kd.R_celln 0 HO.out (0 : Int) (by omega) (by simp)
      (try rw [show ((0 : Int)).toNat = 0 from rfl] at hx10 hf10)
      have HP11 := Kd.R_putg HO.out (0 : Int) 42
      go_wp2_with (first | ((with_reducible refine gate_store (t := 5) (p := 16) rfl ?_); refine store_event (t := 5) (p := 16) (v := ?vo_w12) (w1 := (w5.setCell ⟨go10, (0 : Int).toNat, none⟩ (.int .u8 42))) ?hg ?ho ?hn ?hr ?_; (case ho => rfl); (case hg => rfl); (case hn => rfl); (case hr => go_simp; try rfl); intro w12 hw; have hg : w5.grownBy w12 (some go10) := (by rw [hw]; exact HP11.2); have n1_ : Aside0 (Kd.R (Kd.int .u8) 5 w12 w.heap.size (fun _ => True) (.slice (some ⟨go10, 0, none⟩) [(32 : Int)].length co10) [42]) := ⟨by rw [hw]; exact HP11.1⟩; clear HP11; have n0_ := Aside0.mk (blk_grown BKr.out hg (Kd.R_ne HO.out BKr.out (by decide))); have n2_ := Aside0.mk ((by rw [hw]; exact below_set (HB.out) GB10.out : Below w.heap.size w w12)); clear BKr; clear HO; clear HB; have BKr := n0_; have HO := n1_; have HB := n2_; clear n0_ n1_ n2_; clear hg hw))
      go_meet
      case rel => exact ⟨[42], ⟨rfl⟩, HO, BKr, HB⟩
  case rest =>
    try clear hcz0 hcz1 hfz0 hfz1
    clear HO BKr HB
    obtain ⟨x5, HX5, HO, BKr, HB⟩ := hcut
    go_wp2_with (first | ((with_reducible refine gate_callee (f := 71) rfl ?_); refine goesL_ (some 18) rfl rfl Tryz.func71 (by kernel_rfl) rfl #[.slice A0 l0.length c0] rfl (by (try simp only [List.map_toArray, List.map_cons, List.map_nil]); first | done | rfl) ?_; (with_reducible refine (table_nullBytes.calls (l0.length + 2) _ _ l0 t _ ?side1 ?side2 AT.out).mono ?_); (case side1 => exact (Kd.C_below HR0.out HB.out)); (case side2 => exact HC0.out); rintro e w16 ⟨rfl, hb⟩; refine ⟨_, rfl, ?_⟩; have n0_ := Aside0.mk (Kd.R_below HO.out hb); have n1_ := Aside0.mk (blk_below BKr.out hb); have n2_ := Aside0.mk (below_step HB.out hb); clear HO; clear BKr; clear HB; have HO := n0_; have BKr := n1_; have HB := n2_; clear n0_ n1_ n2_ hb) | ((with_reducible refine gate_dst (N := 19) rfl ?_); refine Kd.R_make (Kd.int .u8) _ 5 rfl (N := 19) rfl 37 _ _ rfl t rfl rfl Tryz.underlying37 (.int .u8 0) 1 info5 rfl (by decide) (by omega) 0 (ok := fun _ => True) (okp := fun _ => True) rfl (fun _ hk => hk) trivial (T0.out) (by have := T1.out; omega) (Below.refl _ _) (Nat.le_refl _) ?_; intro vf w17 ho18 hb hg_ hnew_; clear hg_ hnew_; have HAP := Aside0.mk (made_apart HO.out ho18); have n0_ := Aside0.mk (Kd.R_below HO.out hb); have HF := Aside0.mk (Kd.R_lower ho18 (below_size HB.out)); have n2_ := Aside0.mk (blk_below BKr.out hb); have n3_ := Aside0.mk (below_step HB.out hb); clear HO; clear BKr; clear HB; have HO := n0_; have BKr := n2_; have HB := n3_; clear n0_ n2_ n3_; clear hb ho18) | ((with_reducible refine gate_dst (N := 7) rfl ?_); refine box_event ?hg (N := 7) ?hd (cs := #[.pointer none, .slice none 0 0]) (t := 126) ?hr ?_; (case hd => rfl); (case hg => rfl); (case hr => go_simp; try rfl); intro gB hg w19 hbox hb; have HI := Aside0.mk (RowInv.start HO.out HF.out HAP.out BKr.out HB.out hbox hb hg); clear HO HF HAP BKr HB hb hbox hg))
    go_loopg [8, 22] (l0.length + 1) (fun kq v8 v22 w' => ∃ (n : Nat) (x6 : List Int) (b : Int) (X : ByteArray), v8 = .int .i64 b ∧ v22 = .int .i64 (n : Int) ∧ Aside0 (rowL (l0.drop n) (l1.drop n) x6 b X = some (F, Y)) ∧ Aside0 (kq + n = l0.length + 1) ∧ Aside0 (n ≤ l0.length) ∧ Aside0 (RowInv w gr gB #[.bool a1_0, .slice A1 l1.length c1] vo vf x5 x6 X w'))
    case atStart => exact ⟨0, List.replicate t.toNat 0, 0, (⟨#[]⟩ : ByteArray), rfl, rfl, AL, ⟨by omega⟩, ⟨Nat.zero_le _⟩, HI⟩
    case round =>
      clear HI
      obtain ⟨n, x6, b, X, rfl, rfl, HA, HK, HNl, HI⟩ := hrel
      by_cases c3 : (n : Int) < (l0.length : Int)
      · obtain ⟨f, hf⟩ : ∃ f, rd_T23 l0 (n : Int) = f := ⟨_, rfl⟩
        obtain ⟨hn1, y6, p, hfl, hpt, hsz, hL⟩ := row_step HA.out (Int.ofNat_lt.1 c3) hf
        obtain ⟨v, hv⟩ : ∃ v, rd_T25 l1 (n : Int) = v := ⟨_, rfl⟩
        have hv' : l1.getD n z25 = v := hv
        rw [hv'] at hfl hpt
        have c3b := decide_eq_true c3
        have p2 : (0 : Int) ≤ n := Int.natCast_nonneg _
        have c4 : (n : Int) < (l1.length : Int) := Int.ofNat_lt.2 hn1
        have c4b := decide_eq_true c4
        obtain ⟨ad, ea, hx0, hx1, hx2, hx3⟩ := at_T23 HR0.out (n : Int) p2 c3
        cases ea
        obtain ⟨ad1, ea, hy0, hy1, hy2⟩ := at_T25 HR1.out (n : Int) p2 c4
        cases ea
        rw [hf] at hx0 hx1 hx2 hx3
        rw [hv] at hy0 hy1 hy2
        rw [Int.toNat_natCast] at hx0 hx1 hx2 hx3 hy0 hy1 hy2
        have HY0 := Aside0.mk hy0
        have HY1 := Aside0.mk hy1
        have HY2 := Aside0.mk hy2
        have HBW := Aside0.mk HI.out.args
        replace hx0 := (HBW.out.cell (World.block_lt_of_cell? w _ hx0)).trans hx0
        replace hx1 := (HBW.out.cell (World.block_lt_of_cell? w _ hx1)).trans hx1
        replace hx2 := (HBW.out.cell (World.block_lt_of_cell? w _ hx2)).trans hx2
        replace hx3 := (HBW.out.cell (World.block_lt_of_cell? w _ hx3)).trans hx3
        have hw : wrap64 ((n : Int) + 1) = ((n + 1 : Nat) : Int) := by
          have := HN.out
          have e : ((n : Int) + 1) = ((n + 1 : Nat) : Int) := by omega
          rw [e]; exact (show wrap64 ((n + 1 : Nat) : Int) = _ by have := Int.ofNat_lt.1 c3; unfold wrap64; omega)
        have HFL := Aside0.mk hfl
        have HPT := Aside0.mk hpt
        have HSZ := Aside0.mk hsz
        have HL := Aside0.mk hL
        have HN1 := Aside0.mk (Int.ofNat_lt.1 c3)
        have HWR := Aside0.mk hw
        clear hw hf hv hv' hn1 hfl hpt hsz hL hy0 hy1 hy2 HA HBW
        obtain ⟨W0, HI, HW⟩ := inv_open HI.out
        obtain ⟨Ao, co, eo⟩ := Kd.R_slice HI.out.2.1
        subst eo
        obtain ⟨s0, s1, s2, s3⟩ := f
        obtain ⟨v0, v1, v2⟩ := v
        simp only at hx0 hx1 hx2 hx3 HY0 HY1 HY2
        have hbit : ∀ q : Bool, s3 = q → rowBit ⟨s0, s1, s2, s3⟩ b = if q = true then wrap64 (b + 1) else b := fun q e => by subst e; rfl
        have HBIT := Aside0.mk hbit
        clear hbit
        cases s3
        · by_cases hz : v0 = 0
          · subst hz
            have HREP : Aside0 (strings_Repeat.f (⟨#[32]⟩ : ByteArray) s2 = some p) := ⟨by have h_ := HPT.out; unfold rowPart at h_; rw [if_pos rfl] at h_; exact h_⟩
            have hy6 : x6 = y6 := by have h_ := HFL.out; unfold rowFlag at h_; simp only [if_neg (show ¬ (false = true) by decide)] at h_; exact Option.some.inj h_
            subst hy6
            clear HFL
            go_wp2_with (first | ((with_reducible refine gate_dst (N := 10) rfl ?_); refine box_event ?hg (N := 10) ?hd (cs := #[.string (⟨#[]⟩ : ByteArray), .int .i64 0, .int .i64 0, .bool false]) (t := 23) ?hr ?_; (case hd => rfl); (case hg => rfl); (case hr => go_simp; try rfl); intro gf hg w25 hbox hb; have GEf : Aside0 (W0.heap.size ≤ gf) := ⟨by rw [hg]; exact HW.out.size⟩; have n0_ := Aside0.mk (below_step HW.out hb); have BKf := Aside0.mk hbox; clear HW; have HW := n0_; clear n0_ hb hbox hg; clear hx0 hx1 hx2 hx3; (try clear c3b)) | ((with_reducible refine gate_store (t := 23) (p := 10) rfl ?_); refine store_box ?hg (ty := 23) (p := 10) (y := .tmp 26) ?ho ?hd gf (cells := #[.string s0, .int .i64 s1, .int .i64 s2, .bool false]) (old := #[.string (⟨#[]⟩ : ByteArray), .int .i64 0, .int .i64 0, .bool false]) (t := 23) ?hx ?hy ?hgg ?hi ?hold ?h1 ?_; (case ho => rfl); (case hg => rfl); (case hd => rfl); (case hx => rfl); (case hy => rfl); (case hgg => exact BKf.out); (case hi => exact size23); (case hold => rfl); (case h1 => simp [Value.oneCell']); intro w26 hbk hbel hoth; have n0_ := Aside0.mk (hbel _ _ HW.out GEf.out); have n1_ := Aside0.mk hbk; clear HW; clear BKf; have HW := n0_; have BKf := n1_; clear n0_ n1_ hbk hbel hoth; have hr0 : w26.cell? ⟨gr, 0, none⟩ = some (.bool a1_0) := (blk_cell (blk_below HI.out.rec HW.out) 0).trans rfl; have hr1 : w26.cell? ⟨gr, 1, none⟩ = some (.slice (some ad1) l1.length c1) := (blk_cell (blk_below HI.out.rec HW.out) 1).trans rfl; have HBW := Aside0.mk (below_step HI.out.args HW.out); have hy0 := (HBW.out.cell (World.block_lt_of_cell? w _ HY0.out)).trans HY0.out; have hy1 := (HBW.out.cell (World.block_lt_of_cell? w _ HY1.out)).trans HY1.out; have hy2 := (HBW.out.cell (World.block_lt_of_cell? w _ HY2.out)).trans HY2.out; clear HBW) | ((with_reducible refine gate_dst (N := 11) rfl ?_); refine box_event ?hg (N := 11) ?hd (cs := #[.int .i64 0, .int .i64 0, .string (⟨#[]⟩ : ByteArray)]) (t := 25) ?hr ?_; (case hd => rfl); (case hg => rfl); (case hr => go_simp; try rfl); intro gv hg w31 hbox hb; have GEv : Aside0 (W0.heap.size ≤ gv) := ⟨by rw [hg]; exact HW.out.size⟩; have NE : Aside0 (gf ≠ gv) := ⟨by rw [hg]; exact Nat.ne_of_lt (blk_lt BKf.out)⟩; have n0_ := Aside0.mk (below_step HW.out hb); have n1_ := Aside0.mk (blk_below BKf.out hb); have BKv := Aside0.mk hbox; clear HW; clear BKf; have HW := n0_; have BKf := n1_; clear n0_ n1_ hb hbox hg; clear hr0 hr1 hy0 hy1 hy2) | ((with_reducible refine gate_store (t := 25) (p := 11) rfl ?_); refine store_box ?hg (ty := 25) (p := 11) (y := .tmp 31) ?ho ?hd gv (cells := #[.int .i64 0, .int .i64 v1, .string v2]) (old := #[.int .i64 0, .int .i64 0, .string (⟨#[]⟩ : ByteArray)]) (t := 25) ?hx ?hy ?hgg ?hi ?hold ?h1 ?_; (case ho => rfl); (case hg => rfl); (case hd => rfl); (case hx => rfl); (case hy => rfl); (case hgg => exact BKv.out); (case hi => exact size25); (case hold => rfl); (case h1 => simp [Value.oneCell']); intro w32 hbk hbel hoth; have n0_ := Aside0.mk (hbel _ _ HW.out GEv.out); have n1_ := Aside0.mk hbk; have n2_ := Aside0.mk ((hoth gf NE.out).trans BKf.out); clear HW; clear BKv; clear BKf; have HW := n0_; have BKv := n1_; have BKf := n2_; clear n0_ n1_ n2_ hbk hbel hoth; have kf0 : w32.cell? ⟨gf, 0, none⟩ = some (.string s0) := (blk_cell BKf.out 0).trans rfl; have kf1 : w32.cell? ⟨gf, 1, none⟩ = some (.int .i64 s1) := (blk_cell BKf.out 1).trans rfl; have kf2 : w32.cell? ⟨gf, 2, none⟩ = some (.int .i64 s2) := (blk_cell BKf.out 2).trans rfl; have kf3 : w32.cell? ⟨gf, 3, none⟩ = some (.bool false) := (blk_cell BKf.out 3).trans rfl; have kv0 : w32.cell? ⟨gv, 0, none⟩ = some (.int .i64 0) := (blk_cell BKv.out 0).trans rfl; have kv1 : w32.cell? ⟨gv, 1, none⟩ = some (.int .i64 v1) := (blk_cell BKv.out 1).trans rfl; have kv2 : w32.cell? ⟨gv, 2, none⟩ = some (.string v2) := (blk_cell BKv.out 2).trans rfl) | ((with_reducible refine gate_callee (f := 99) rfl ?_); refine goesL_ (some 54) rfl rfl Tryz.func99 (by kernel_rfl) rfl #[.string (⟨#[32]⟩ : ByteArray), .int .i64 s2] rfl (by (try simp only [List.map_toArray, List.map_cons, List.map_nil]); first | done | rfl) ?_; (with_reducible refine (strings_Repeat.calls (⟨#[32]⟩ : ByteArray) s2 p _ HREP.out).mono ?_); rintro e w35 ⟨rfl, hb⟩; refine ⟨_, rfl, ?_⟩; have n0_ := Aside0.mk (below_step HW.out hb); clear HW; have HW := n0_; clear n0_ hb) | ((with_reducible refine gate_callee (f := 111) rfl ?_); refine goesL_ (some 55) rfl rfl Tryz.func111 (by kernel_rfl) rfl #[.pointer (some ⟨gB, 0, none⟩), .string p] rfl (by (try simp only [List.map_toArray, List.map_cons, List.map_nil]); first | done | rfl) ?_; have hbl := HI.out.2.2.2.2.2.2.1; (with_reducible refine (Builder_WriteString gB gB (Lib.byteCells X.data.toList) p _ ?hbl ?hlen ?hBw).mono ?_); (case hbl => exact isBuilder_below hbl HW.out); (case hlen => have := HSZ.out; rw [Lib.byteCells_length]; exact this); (case hBw => have h_ := isBuilder_lt (isBuilder_below hbl HW.out); omega); clear hbl; rintro e w40 ⟨rfl, hbld, hb⟩; refine ⟨_, rfl, ?_⟩; have n0_ := Aside0.mk (RowInv.write (RowInv.below HI.out HW.out) hbld hb); clear HI; have HI := n0_; clear n0_ hbld hb HW BKf BKv; (try clear GEf GEv NE)))
            go_roundg (gk - 1)
            case measure => have := HK.out; have := HN1.out; omega
            case rel => exact ⟨n + 1, x6, b, X ++ p, rfl, by rw [HWR.out], ⟨by have h_ := HL.out; rw [HBIT.out false rfl] at h_; exact h_⟩, ⟨by have := HK.out; have := HN1.out; omega⟩, ⟨by have := HN1.out; omega⟩, HI⟩
          · skip
            have HPT' : writeO ⟨s0, s1, s2, false⟩ ⟨v0, v1, v2⟩ = some p := by have h_ := HPT.out; unfold rowPart at h_; rw [if_neg hz] at h_; exact h_
            obtain ⟨kc, klo, khi, krf, KF, hkv, hke, hkc⟩ := write_any _ _ _ HPT'
            have HKV := Aside0.mk hkv
            have HKE := Aside0.mk hke
            have HKC := Aside0.mk hkc
            clear HPT' hkv hke hkc
            have hfl : ∀ (a b c d e : Value) (W : World), (Instr.field 102 (.agg #[a, b, c, d, e]) 3).run Tryz.prog W = .ok d W := fun _ _ _ _ _ _ => by kernel_rfl
            have hz0 : (v0 == 0) = false := beq_eq_false_iff_ne.mpr hz
            have hz1 : (v0 != 0) = true := bne_iff_ne.mpr hz
            have HZ := Aside0.mk hz
            clear hz
            have hy6 : x6 = y6 := by have h_ := HFL.out; unfold rowFlag at h_; simp only [if_neg (show ¬ (false = true) by decide)] at h_; exact Option.some.inj h_
            subst hy6
            clear HFL
            go_wp2_with (first | ((with_reducible refine gate_dst (N := 10) rfl ?_); refine box_event ?hg (N := 10) ?hd (cs := #[.string (⟨#[]⟩ : ByteArray), .int .i64 0, .int .i64 0, .bool false]) (t := 23) ?hr ?_; (case hd => rfl); (case hg => rfl); (case hr => go_simp; try rfl); intro gf hg w25 hbox hb; have GEf : Aside0 (W0.heap.size ≤ gf) := ⟨by rw [hg]; exact HW.out.size⟩; have n0_ := Aside0.mk (below_step HW.out hb); have BKf := Aside0.mk hbox; clear HW; have HW := n0_; clear n0_ hb hbox hg; clear hx0 hx1 hx2 hx3; (try clear c3b)) | ((with_reducible refine gate_store (t := 23) (p := 10) rfl ?_); refine store_box ?hg (ty := 23) (p := 10) (y := .tmp 26) ?ho ?hd gf (cells := #[.string s0, .int .i64 s1, .int .i64 s2, .bool false]) (old := #[.string (⟨#[]⟩ : ByteArray), .int .i64 0, .int .i64 0, .bool false]) (t := 23) ?hx ?hy ?hgg ?hi ?hold ?h1 ?_; (case ho => rfl); (case hg => rfl); (case hd => rfl); (case hx => rfl); (case hy => rfl); (case hgg => exact BKf.out); (case hi => exact size23); (case hold => rfl); (case h1 => simp [Value.oneCell']); intro w26 hbk hbel hoth; have n0_ := Aside0.mk (hbel _ _ HW.out GEf.out); have n1_ := Aside0.mk hbk; clear HW; clear BKf; have HW := n0_; have BKf := n1_; clear n0_ n1_ hbk hbel hoth; have hr0 : w26.cell? ⟨gr, 0, none⟩ = some (.bool a1_0) := (blk_cell (blk_below HI.out.rec HW.out) 0).trans rfl; have hr1 : w26.cell? ⟨gr, 1, none⟩ = some (.slice (some ad1) l1.length c1) := (blk_cell (blk_below HI.out.rec HW.out) 1).trans rfl; have HBW := Aside0.mk (below_step HI.out.args HW.out); have hy0 := (HBW.out.cell (World.block_lt_of_cell? w _ HY0.out)).trans HY0.out; have hy1 := (HBW.out.cell (World.block_lt_of_cell? w _ HY1.out)).trans HY1.out; have hy2 := (HBW.out.cell (World.block_lt_of_cell? w _ HY2.out)).trans HY2.out; clear HBW) | ((with_reducible refine gate_dst (N := 11) rfl ?_); refine box_event ?hg (N := 11) ?hd (cs := #[.int .i64 0, .int .i64 0, .string (⟨#[]⟩ : ByteArray)]) (t := 25) ?hr ?_; (case hd => rfl); (case hg => rfl); (case hr => go_simp; try rfl); intro gv hg w31 hbox hb; have GEv : Aside0 (W0.heap.size ≤ gv) := ⟨by rw [hg]; exact HW.out.size⟩; have NE : Aside0 (gf ≠ gv) := ⟨by rw [hg]; exact Nat.ne_of_lt (blk_lt BKf.out)⟩; have n0_ := Aside0.mk (below_step HW.out hb); have n1_ := Aside0.mk (blk_below BKf.out hb); have BKv := Aside0.mk hbox; clear HW; clear BKf; have HW := n0_; have BKf := n1_; clear n0_ n1_ hb hbox hg; clear hr0 hr1 hy0 hy1 hy2) | ((with_reducible refine gate_store (t := 25) (p := 11) rfl ?_); refine store_box ?hg (ty := 25) (p := 11) (y := .tmp 31) ?ho ?hd gv (cells := #[.int .i64 v0, .int .i64 v1, .string v2]) (old := #[.int .i64 0, .int .i64 0, .string (⟨#[]⟩ : ByteArray)]) (t := 25) ?hx ?hy ?hgg ?hi ?hold ?h1 ?_; (case ho => rfl); (case hg => rfl); (case hd => rfl); (case hx => rfl); (case hy => rfl); (case hgg => exact BKv.out); (case hi => exact size25); (case hold => rfl); (case h1 => simp [Value.oneCell']); intro w32 hbk hbel hoth; have n0_ := Aside0.mk (hbel _ _ HW.out GEv.out); have n1_ := Aside0.mk hbk; have n2_ := Aside0.mk ((hoth gf NE.out).trans BKf.out); clear HW; clear BKv; clear BKf; have HW := n0_; have BKv := n1_; have BKf := n2_; clear n0_ n1_ n2_ hbk hbel hoth; have kf0 : w32.cell? ⟨gf, 0, none⟩ = some (.string s0) := (blk_cell BKf.out 0).trans rfl; have kf1 : w32.cell? ⟨gf, 1, none⟩ = some (.int .i64 s1) := (blk_cell BKf.out 1).trans rfl; have kf2 : w32.cell? ⟨gf, 2, none⟩ = some (.int .i64 s2) := (blk_cell BKf.out 2).trans rfl; have kf3 : w32.cell? ⟨gf, 3, none⟩ = some (.bool false) := (blk_cell BKf.out 3).trans rfl; have kv0 : w32.cell? ⟨gv, 0, none⟩ = some (.int .i64 v0) := (blk_cell BKv.out 0).trans rfl; have kv1 : w32.cell? ⟨gv, 1, none⟩ = some (.int .i64 v1) := (blk_cell BKv.out 1).trans rfl; have kv2 : w32.cell? ⟨gv, 2, none⟩ = some (.string v2) := (blk_cell BKv.out 2).trans rfl))
            have n0_ := Aside0.mk (below_drew1 HW.out)
            have n1_ := Aside0.mk (blk_drew BKf.out)
            have n2_ := Aside0.mk (blk_drew BKv.out)
            clear HW BKf BKv
            have HW := n0_
            have BKf := n1_
            have BKv := n2_
            clear n0_ n1_ n2_
            (try clear kf0 kf1 kf2 kf3)
            (try clear kv0 kv1 kv2)
            refine start_ (n := 9) (S := fun w' => w'.heap[gf]? = some (.cells #[.string s0, .int .i64 s1, .int .i64 s2, .bool false] 23 (0, 0)) ∧ w'.heap[gv]? = some (.cells #[.int .i64 v0, .int .i64 v1, .string v2] 25 (0, 0))) (ds := [8]) #[false, false, false, false, false, false, false, false, false] (by kernel_rfl) rfl rfl ⟨BKf.out, BKv.out⟩ (fun hHeld => ?_); refine with_tabW row_tab17 row_bits17 (fun HT_ HW_ => ?_)
            generalize w32.drew = w33 at HW BKf BKv hHeld ⊢
            refine pure_ (i := 1) (N := some 57) (v := ?_) (a' := ?_) #[false, true, false, false, false, false, false, false, false] rfl rfl (any_of HT_.out (by kernel_rfl)) (fun _ _ _ h => h) (Or.inl ⟨by rfl, ?_⟩) ?_ ?_
            rotate_left
            · intro w'
              go_simp
              with_reducible rfl
            rotate_left
            · simp only [Act.put, List.setIfInBounds_toArray, List.set_cons_zero, List.set_cons_succ, i64_w, i32_w]
              rfl
            refine take_ (i := 2) (N := some 58) (v := ?_) (a' := ?_) #[false, true, true, false, false, false, false, false, false] rfl rfl (take_ofW HT_.out HW_.out (by kernel_rfl)) (fun _ _ _ h => h) (Or.inl ⟨by rfl, ?_⟩) hHeld ?_ ?_
            rotate_left
            · rintro w' ⟨s0_, s1_⟩
              have sc := (blk_cell s0_ 1).trans rfl
              go_simp
              with_reducible rfl
            rotate_left
            · simp only [Act.put, List.setIfInBounds_toArray, List.set_cons_zero, List.set_cons_succ, i64_w, i32_w]
              rfl
            refine take_ (i := 5) (N := some 61) (v := ?_) (a' := ?_) #[false, true, true, false, false, true, false, false, false] rfl rfl (take_ofW HT_.out HW_.out (by kernel_rfl)) (fun _ _ _ h => h) (Or.inl ⟨by rfl, ?_⟩) hHeld ?_ ?_
            rotate_left
            · rintro w' ⟨s0_, s1_⟩
              have sc0 : w'.cell? ⟨gf, 0, none⟩ = some (.string s0) := (blk_cell s0_ 0).trans rfl
              have sc1 : w'.cell? ⟨gf, 1, none⟩ = some (.int .i64 s1) := (blk_cell s0_ 1).trans rfl
              have sc2 : w'.cell? ⟨gf, 2, none⟩ = some (.int .i64 s2) := (blk_cell s0_ 2).trans rfl
              have sc3 : w'.cell? ⟨gf, 3, none⟩ = some (.bool false) := (blk_cell s0_ 3).trans rfl
              go_simp
              with_reducible rfl
            rotate_left
            · simp only [Act.put, List.setIfInBounds_toArray, List.set_cons_zero, List.set_cons_succ, i64_w, i32_w]
              rfl
            refine take_ (i := 6) (N := some 62) (v := ?_) (a' := ?_) #[false, true, true, false, false, true, true, false, false] rfl rfl (take_ofW HT_.out HW_.out (by kernel_rfl)) (fun _ _ _ h => h) (Or.inl ⟨by rfl, ?_⟩) hHeld ?_ ?_
            rotate_left
            · rintro w' ⟨s0_, s1_⟩
              have sc0 : w'.cell? ⟨gv, 0, none⟩ = some (.int .i64 v0) := (blk_cell s1_ 0).trans rfl
              have sc1 : w'.cell? ⟨gv, 1, none⟩ = some (.int .i64 v1) := (blk_cell s1_ 1).trans rfl
              have sc2 : w'.cell? ⟨gv, 2, none⟩ = some (.string v2) := (blk_cell s1_ 2).trans rfl
              go_simp
              with_reducible rfl
            rotate_left
            · simp only [Act.put, List.setIfInBounds_toArray, List.set_cons_zero, List.set_cons_succ, i64_w, i32_w]
              rfl
            refine one_ (i := 0) (N := some 56) #[true, true, true, false, false, true, true, false, false] rfl rfl (one_of HT_.out (by kernel_rfl)) (by decide) (fun K hK => ?_)
            refine goes_ Tryz.func89 (by kernel_rfl) rfl #[] (by rfl) rfl rfl (by (try simp only [List.map_toArray, List.map_cons, List.map_nil]); first | done | rfl) ?_
            refine (table_kinds w33).mono ?_
            rintro e w34 ⟨rk, rfl, hkb, hb⟩
            refine ⟨_, rfl, ?_⟩
            have HKB := Aside0.mk hkb
            clear hkb
            have n0_ := Aside0.mk (below_step HW.out hb)
            have n1_ := Aside0.mk (blk_below BKf.out hb)
            have n2_ := Aside0.mk (blk_below BKv.out hb)
            clear HW BKf BKv
            have HW := n0_
            have BKf := n1_
            have BKv := n2_
            clear n0_ n1_ n2_ hb
            refine hK.out _ _ ⟨BKf.out, BKv.out⟩ (fun hHeld => ?_)
            clear hK K
            refine norm_ (a' := ?_) ?_ ?_
            rotate_left
            · show Act.put _ (some 56) _ = _
              simp only [Act.put, List.setIfInBounds_toArray, List.set_cons_zero, List.set_cons_succ, i64_w, i32_w]
              rfl
            refine one_ (i := 3) (N := some 59) #[true, true, true, true, false, true, true, false, false] rfl rfl (one_of HT_.out (by kernel_rfl)) (by decide) (fun K hK => ?_)
            have hlk := run_look' w34 rk HKB.out _ _ HKV.out
            refine event_step (v := .agg #[kc, klo, khi, .func (.func KF) #[] #[], krf]) (w1 := w34) rfl (by first | (go_simp; done) | (go_simp; rfl) | (go_simp; exact ⟨rfl, rfl⟩)) ?_
            refine hK.out _ _ ⟨BKf.out, BKv.out⟩ (fun hHeld => ?_)
            clear hK K
            refine norm_ (a' := ?_) ?_ ?_
            rotate_left
            · show Act.put _ (some 59) _ = _
              simp only [Act.put, List.setIfInBounds_toArray, List.set_cons_zero, List.set_cons_succ, i64_w, i32_w]
              rfl
            clear hlk
            refine one_ (i := 4) (N := some 60) #[true, true, true, true, true, true, true, false, false] rfl rfl (one_of HT_.out (by kernel_rfl)) (by decide) (fun K hK => ?_)
            refine event_step (v := .func (.func KF) #[] #[]) (w1 := w34) rfl (by first | (go_simp; done) | (go_simp; rfl) | (go_simp; exact ⟨rfl, rfl⟩)) ?_
            refine hK.out _ _ ⟨BKf.out, BKv.out⟩ (fun hHeld => ?_)
            clear hK K
            refine norm_ (a' := ?_) ?_ ?_
            rotate_left
            · show Act.put _ (some 60) _ = _
              simp only [Act.put, List.setIfInBounds_toArray, List.set_cons_zero, List.set_cons_succ, i64_w, i32_w]
              rfl
            refine one_ (i := 7) (N := some 63) #[true, true, true, true, true, true, true, true, false] rfl rfl (one_of HT_.out (by kernel_rfl)) (by decide) (fun K hK => ?_)
            refine goesV_ (f := KF) (x := 60) HKE.out #[.agg #[.string s0, .int .i64 s1, .int .i64 s2, .bool false], .agg #[.int .i64 v0, .int .i64 v1, .string v2]] (by rfl) rfl rfl (by rfl) (by (try simp only [List.map_toArray, List.map_cons, List.map_nil]); first | done | rfl) ?_
            refine (HKC.out w34).mono ?_
            rintro e w35 ⟨rfl, hb⟩
            refine ⟨_, rfl, ?_⟩
            have n0_ := Aside0.mk (below_step HW.out hb)
            have n1_ := Aside0.mk (blk_below BKf.out hb)
            have n2_ := Aside0.mk (blk_below BKv.out hb)
            clear HW BKf BKv
            have HW := n0_
            have BKf := n1_
            have BKv := n2_
            clear n0_ n1_ n2_ hb
            refine hK.out _ _ ⟨BKf.out, BKv.out⟩ (fun hHeld => ?_)
            clear hK K
            refine norm_ (a' := ?_) ?_ ?_
            rotate_left
            · show Act.put _ (some 63) _ = _
              simp only [Act.put, List.setIfInBounds_toArray, List.set_cons_zero, List.set_cons_succ, i64_w, i32_w]
              rfl
            refine last_ (i := 8) (N := some 64) #[true, true, true, true, true, true, true, true, true] rfl rfl (one_of HT_.out (by kernel_rfl)) (by decide) (fun K hK => ?_)
            refine goes_ Tryz.func111 (by kernel_rfl) rfl #[.pointer (some ⟨gB, 0, none⟩), .string p] (by rfl) rfl rfl (by (try simp only [List.map_toArray, List.map_cons, List.map_nil]); first | done | rfl) ?_
            have hbl := HI.out.2.2.2.2.2.2.1; (with_reducible refine (Builder_WriteString gB gB (Lib.byteCells X.data.toList) p _ ?hbl ?hlen ?hBw).mono ?_); (case hbl => exact isBuilder_below hbl HW.out); (case hlen => have := HSZ.out; rw [Lib.byteCells_length]; exact this); (case hBw => have h_ := isBuilder_lt (isBuilder_below hbl HW.out); omega); clear hbl; rintro e w40 ⟨rfl, hbld, hb⟩; refine ⟨_, rfl, ?_⟩; have n0_ := Aside0.mk (RowInv.write (RowInv.below HI.out HW.out) hbld hb); clear HI; have HI := n0_; clear n0_ hbld hb HW BKf BKv; (try clear GEf GEv NE)
            refine hK.out _ _ ?_
            clear hK K
            refine norm_ (a' := ?_) ?_ ?_
            rotate_left
            · show Act.put _ (some 64) _ = _
              simp only [Act.put, List.setIfInBounds_toArray, List.set_cons_zero, List.set_cons_succ, i64_w, i32_w]
              rfl
            refine done_ (done_of HT_.out (by kernel_rfl)) ?_
            clear hHeld HT_ HW_ hfl HKV HKB HKE HKC
            go_wp2
            go_roundg (gk - 1)
            case measure => have := HK.out; have := HN1.out; omega
            case rel => exact ⟨n + 1, x6, b, X ++ p, rfl, by rw [HWR.out], ⟨by have h_ := HL.out; rw [HBIT.out false rfl] at h_; exact h_⟩, ⟨by have := HK.out; have := HN1.out; omega⟩, ⟨by have := HN1.out; omega⟩, HI⟩
        · by_cases hz : v0 = 0
          · subst hz
            have HREP : Aside0 (strings_Repeat.f (⟨#[32]⟩ : ByteArray) s2 = some p) := ⟨by have h_ := HPT.out; unfold rowPart at h_; rw [if_pos rfl] at h_; exact h_⟩
            go_wp2_with (first | ((with_reducible refine gate_dst (N := 10) rfl ?_); refine box_event ?hg (N := 10) ?hd (cs := #[.string (⟨#[]⟩ : ByteArray), .int .i64 0, .int .i64 0, .bool false]) (t := 23) ?hr ?_; (case hd => rfl); (case hg => rfl); (case hr => go_simp; try rfl); intro gf hg w25 hbox hb; have GEf : Aside0 (W0.heap.size ≤ gf) := ⟨by rw [hg]; exact HW.out.size⟩; have n0_ := Aside0.mk (below_step HW.out hb); have BKf := Aside0.mk hbox; clear HW; have HW := n0_; clear n0_ hb hbox hg; clear hx0 hx1 hx2 hx3; (try clear c3b)) | ((with_reducible refine gate_store (t := 23) (p := 10) rfl ?_); refine store_box ?hg (ty := 23) (p := 10) (y := .tmp 26) ?ho ?hd gf (cells := #[.string s0, .int .i64 s1, .int .i64 s2, .bool true]) (old := #[.string (⟨#[]⟩ : ByteArray), .int .i64 0, .int .i64 0, .bool false]) (t := 23) ?hx ?hy ?hgg ?hi ?hold ?h1 ?_; (case ho => rfl); (case hg => rfl); (case hd => rfl); (case hx => rfl); (case hy => rfl); (case hgg => exact BKf.out); (case hi => exact size23); (case hold => rfl); (case h1 => simp [Value.oneCell']); intro w26 hbk hbel hoth; have n0_ := Aside0.mk (hbel _ _ HW.out GEf.out); have n1_ := Aside0.mk hbk; clear HW; clear BKf; have HW := n0_; have BKf := n1_; clear n0_ n1_ hbk hbel hoth; have hr0 : w26.cell? ⟨gr, 0, none⟩ = some (.bool a1_0) := (blk_cell (blk_below HI.out.rec HW.out) 0).trans rfl; have hr1 : w26.cell? ⟨gr, 1, none⟩ = some (.slice (some ad1) l1.length c1) := (blk_cell (blk_below HI.out.rec HW.out) 1).trans rfl; have HBW := Aside0.mk (below_step HI.out.args HW.out); have hy0 := (HBW.out.cell (World.block_lt_of_cell? w _ HY0.out)).trans HY0.out; have hy1 := (HBW.out.cell (World.block_lt_of_cell? w _ HY1.out)).trans HY1.out; have hy2 := (HBW.out.cell (World.block_lt_of_cell? w _ HY2.out)).trans HY2.out; clear HBW) | ((with_reducible refine gate_dst (N := 11) rfl ?_); refine box_event ?hg (N := 11) ?hd (cs := #[.int .i64 0, .int .i64 0, .string (⟨#[]⟩ : ByteArray)]) (t := 25) ?hr ?_; (case hd => rfl); (case hg => rfl); (case hr => go_simp; try rfl); intro gv hg w31 hbox hb; have GEv : Aside0 (W0.heap.size ≤ gv) := ⟨by rw [hg]; exact HW.out.size⟩; have NE : Aside0 (gf ≠ gv) := ⟨by rw [hg]; exact Nat.ne_of_lt (blk_lt BKf.out)⟩; have n0_ := Aside0.mk (below_step HW.out hb); have n1_ := Aside0.mk (blk_below BKf.out hb); have BKv := Aside0.mk hbox; clear HW; clear BKf; have HW := n0_; have BKf := n1_; clear n0_ n1_ hb hbox hg; clear hr0 hr1 hy0 hy1 hy2) | ((with_reducible refine gate_store (t := 25) (p := 11) rfl ?_); refine store_box ?hg (ty := 25) (p := 11) (y := .tmp 31) ?ho ?hd gv (cells := #[.int .i64 0, .int .i64 v1, .string v2]) (old := #[.int .i64 0, .int .i64 0, .string (⟨#[]⟩ : ByteArray)]) (t := 25) ?hx ?hy ?hgg ?hi ?hold ?h1 ?_; (case ho => rfl); (case hg => rfl); (case hd => rfl); (case hx => rfl); (case hy => rfl); (case hgg => exact BKv.out); (case hi => exact size25); (case hold => rfl); (case h1 => simp [Value.oneCell']); intro w32 hbk hbel hoth; have n0_ := Aside0.mk (hbel _ _ HW.out GEv.out); have n1_ := Aside0.mk hbk; have n2_ := Aside0.mk ((hoth gf NE.out).trans BKf.out); clear HW; clear BKv; clear BKf; have HW := n0_; have BKv := n1_; have BKf := n2_; clear n0_ n1_ n2_ hbk hbel hoth; have kf0 : w32.cell? ⟨gf, 0, none⟩ = some (.string s0) := (blk_cell BKf.out 0).trans rfl; have kf1 : w32.cell? ⟨gf, 1, none⟩ = some (.int .i64 s1) := (blk_cell BKf.out 1).trans rfl; have kf2 : w32.cell? ⟨gf, 2, none⟩ = some (.int .i64 s2) := (blk_cell BKf.out 2).trans rfl; have kf3 : w32.cell? ⟨gf, 3, none⟩ = some (.bool true) := (blk_cell BKf.out 3).trans rfl; have kv0 : w32.cell? ⟨gv, 0, none⟩ = some (.int .i64 0) := (blk_cell BKv.out 0).trans rfl; have kv1 : w32.cell? ⟨gv, 1, none⟩ = some (.int .i64 v1) := (blk_cell BKv.out 1).trans rfl; have kv2 : w32.cell? ⟨gv, 2, none⟩ = some (.string v2) := (blk_cell BKv.out 2).trans rfl))
            obtain ⟨ji, hji⟩ : ∃ j_ : Int, (wrap64 (Int.tdiv b 8)) = j_ := ⟨_, rfl⟩
            obtain ⟨jm, hjm⟩ : ∃ j_ : Int, (Int.tmod b 8) = j_ := ⟨_, rfl⟩
            obtain ⟨js, hjs⟩ : ∃ j_ : Int, (shl .u8 1 jm) = j_ := ⟨_, rfl⟩
            have hq := HFL.out
            unfold rowFlag at hq
            simp only [if_true] at hq
            rw [hji, hjm, hjs] at hq
            have hp1 : 0 ≤ ji := by
              by_cases h_ : 0 ≤ ji
              · exact h_
              · rw [if_neg h_] at hq; cases hq
            rw [if_pos hp1] at hq
            have hp2 : ji < (x6.length : Int) := by
              by_cases h_ : ji < (x6.length : Int)
              · exact h_
              · rw [if_neg h_] at hq; cases hq
            rw [if_pos hp2] at hq
            have hp3 : 0 ≤ jm := by
              by_cases h_ : 0 ≤ jm
              · exact h_
              · rw [if_neg h_] at hq; cases hq
            rw [if_pos hp3] at hq
            have hy6 := Option.some.inj hq
            clear hq
            have HP1 := Aside0.mk hp1
            have HP2 := Aside0.mk hp2
            have HY6 := Aside0.mk hy6
            clear hy6
            have c46b0 : decide (0 ≤ (ji)) = true := decide_eq_true hp1
            have c47b0 : decide ((ji) < (x6.length : Int)) = true := decide_eq_true hp2
            have c49b0 := eq_true hp3
            have c49b1 : decide (0 ≤ jm) = true := decide_eq_true hp3
            have hjiw : (IntKind.i64.wrap (Int.tdiv b 8)) = ji := (i64_w _).trans hji
            have hjs_ : (IntKind.u8.wrap (1 * 2 ^ min jm.toNat 8)) = js := hjs
            have hjsz : jm ≤ 8 → (IntKind.u8.wrap (1 * 2 ^ jm.toNat)) = js := shl_small hjs
            have hjsu : (IntKind.u8.wrap (2 ^ min jm.toNat 8)) = js := by have h_ := hjs_; rw [Int.one_mul] at h_; exact h_
            have hjsv : jm ≤ 8 → (IntKind.u8.wrap (2 ^ jm.toNat)) = js := fun hle_ => by have h_ := hjsz hle_; rw [Int.one_mul] at h_; exact h_
            clear hp1 hp2 hp3
            have n0_ := Aside0.mk (RowInv.below (RowInv.below HI.out HW.out) (below_drew1 (Below.refl _ _)))
            have n1_ := Aside0.mk (blk_drew BKf.out)
            have n2_ := Aside0.mk (blk_drew BKv.out)
            clear HI HW BKf BKv GEf GEv NE
            have HI := n0_
            have BKf := n1_
            have BKv := n2_
            clear n0_ n1_ n2_
            (try clear kf0 kf1 kf2 kf3)
            (try clear kv0 kv1 kv2)
            obtain ⟨ad179, e179, hx179_0⟩ := Kd.at_int (Kd.R_reads' HI.out.2.1).2.2 ji HP1.out HP2.out
            cases e179
            obtain ⟨go51, co51, eo51, gb51, gl51, cl51, HG51⟩ := Kd.R_form HI.out.2.1 (by have := HP1.out; have := HP2.out; omega)
            (first | cases eo51 | (injection eo51 with ea_ en_ ec_; (first | subst ea_ | (injection ea_ with ea_; subst ea_)); subst ec_; clear en_))
            have HNf : Aside0 (gf ≠ go51) := ⟨blk_ne BKf.out HG51 (by decide)⟩
            have HNv : Aside0 (gv ≠ go51) := ⟨blk_ne BKv.out HG51 (by decide)⟩
            clear gb51 gl51 HG51
            (first | simp only [add_plain] at hx179_0 | skip)
            obtain ⟨hx51_0, hf51_0⟩ := Kd.R_celln 0 HI.out.2.1 ji HP1.out HP2.out
            have pp1 := eq_true HP1.out
            have pp2 := eq_true HP2.out
            have HQ := Aside0.mk (RowInv.flag HI.out ji (Go.bits .or .u8 (rd x6 ji) js) HP1.out HP2.out).1
            rw [HY6.out] at HQ
            refine start_ (n := 11) (S := fun w' => w'.cell? ⟨go51, ji.toNat, none⟩ = some (.int .u8 (rd x6 ji))) (ds := [10]) #[false, false, false, false, false, false, false, false, false, false, false] (by kernel_rfl) rfl rfl (hx179_0) (fun hHeld => ?_); refine with_tabW row_tab13 row_bits13 (fun HT_ HW_ => ?_)
            generalize w32.drew = w33 at HI BKf BKv HQ hf51_0 hx179_0 hx51_0 hHeld ⊢
            refine pure_ (i := 0) (N := some 37) (v := ?_) (a' := ?_) #[true, false, false, false, false, false, false, false, false, false, false] rfl rfl (any_of HT_.out (by kernel_rfl)) (fun _ _ _ h => h) (Or.inl ⟨by rfl, ?_⟩) ?_ ?_
            rotate_left
            · intro w'
              go_simp
              with_reducible rfl
            rotate_left
            · simp only [Act.put, List.setIfInBounds_toArray, List.set_cons_zero, List.set_cons_succ, i64_w, i32_w]
              rfl
            refine pure_ (i := 1) (N := some 38) (v := ?_) (a' := ?_) #[true, true, false, false, false, false, false, false, false, false, false] rfl rfl (any_of HT_.out (by kernel_rfl)) (fun _ _ _ h => h) (Or.inl ⟨by rfl, ?_⟩) ?_ ?_
            rotate_left
            · intro w'
              go_simp
              with_reducible rfl
            rotate_left
            · simp only [Act.put, List.setIfInBounds_toArray, List.set_cons_zero, List.set_cons_succ, i64_w, i32_w]
              rfl
            refine pure_ (i := 2) (N := some 39) (v := ?_) (a' := ?_) #[true, true, true, false, false, false, false, false, false, false, false] rfl rfl (any_of HT_.out (by kernel_rfl)) (fun _ _ _ h => h) (Or.inl ⟨by rfl, ?_⟩) ?_ ?_
            rotate_left
            · intro w'
              go_simp
              with_reducible rfl
            rotate_left
            · simp only [Act.put, List.setIfInBounds_toArray, List.set_cons_zero, List.set_cons_succ, i64_w, i32_w]
              rfl
            refine pure_ (i := 3) (N := some 40) (v := ?_) (a' := ?_) #[true, true, true, true, false, false, false, false, false, false, false] rfl rfl (any_of HT_.out (by kernel_rfl)) (fun _ _ _ h => h) (Or.inl ⟨by rfl, ?_⟩) ?_ ?_
            rotate_left
            · intro w'
              go_simp
              with_reducible rfl
            rotate_left
            · simp only [Act.put, List.setIfInBounds_toArray, List.set_cons_zero, List.set_cons_succ, i64_w, i32_w]
              rfl
            refine pure_ (i := 5) (N := some 42) (v := ?_) (a' := ?_) #[true, true, true, true, false, true, false, false, false, false, false] rfl rfl (any_of HT_.out (by kernel_rfl)) (fun _ _ _ h => h) (Or.inl ⟨by rfl, ?_⟩) ?_ ?_
            rotate_left
            · intro w'
              go_simp
              with_reducible rfl
            rotate_left
            · simp only [Act.put, List.setIfInBounds_toArray, List.set_cons_zero, List.set_cons_succ, i64_w, i32_w]
              rfl
            refine pure_ (i := 6) (N := some 43) (v := ?_) (a' := ?_) #[true, true, true, true, false, true, true, false, false, false, false] rfl rfl (any_of HT_.out (by kernel_rfl)) (fun _ _ _ h => h) (Or.inl ⟨by rfl, ?_⟩) ?_ ?_
            rotate_left
            · intro w'
              go_simp
              with_reducible rfl
            rotate_left
            · simp only [Act.put, List.setIfInBounds_toArray, List.set_cons_zero, List.set_cons_succ, i64_w, i32_w]
              rfl
            refine pure_ (i := 7) (N := some 44) (v := ?_) (a' := ?_) #[true, true, true, true, false, true, true, true, false, false, false] rfl rfl (any_of HT_.out (by kernel_rfl)) (fun _ _ _ h => h) (Or.inl ⟨by rfl, ?_⟩) ?_ ?_
            rotate_left
            · intro w'
              go_simp
              with_reducible rfl
            rotate_left
            · simp only [Act.put, List.setIfInBounds_toArray, List.set_cons_zero, List.set_cons_succ, i64_w, i32_w]
              rfl
            refine take_ (i := 4) (N := some 41) (v := ?_) (a' := ?_) #[true, true, true, true, true, true, true, true, false, false, false] rfl rfl (take_ofW HT_.out HW_.out (by kernel_rfl)) (fun _ _ _ h => h) (Or.inl ⟨by rfl, ?_⟩) hHeld ?_ ?_
            rotate_left
            · rintro w' s0
              skip
              go_simp
              with_reducible rfl
            rotate_left
            · simp only [Act.put, List.setIfInBounds_toArray, List.set_cons_zero, List.set_cons_succ, i64_w, i32_w]
              rfl
            refine pure_ (i := 8) (N := some 45) (v := ?_) (a' := ?_) #[true, true, true, true, true, true, true, true, true, false, false] rfl rfl (any_of HT_.out (by kernel_rfl)) (fun _ _ _ h => h) (Or.inl ⟨by rfl, ?_⟩) ?_ ?_
            rotate_left
            · intro w'
              go_simp
              with_reducible rfl
            rotate_left
            · simp only [Act.put, List.setIfInBounds_toArray, List.set_cons_zero, List.set_cons_succ, i64_w, i32_w]
              rfl
            refine pure_ (i := 9) (N := some 46) (v := ?_) (a' := ?_) #[true, true, true, true, true, true, true, true, true, true, false] rfl rfl (any_of HT_.out (by kernel_rfl)) (fun _ _ _ h => h) (Or.inl ⟨by rfl, ?_⟩) ?_ ?_
            rotate_left
            · intro w'
              go_simp
              with_reducible rfl
            rotate_left
            · simp only [Act.put, List.setIfInBounds_toArray, List.set_cons_zero, List.set_cons_succ, i64_w, i32_w]
              rfl
            refine last_ (i := 10) (N := none) #[true, true, true, true, true, true, true, true, true, true, true] rfl rfl (one_of HT_.out (by kernel_rfl)) (by decide) (fun K hK => ?_)
            refine skip_ (w1 := ?_) (by rfl) rfl ?_ ?_
            rotate_left
            · go_simp
              rfl
            refine hK.out _ _ ?_
            clear hK K
            refine done_ (done_of HT_.out (by kernel_rfl)) ?_
            have n1_ : Aside0 ((w33.setCell ⟨go51, ji.toNat, none⟩ (.int .u8 (Go.bits .or .u8 (rd x6 ji) js))).heap[gf]? = some (.cells #[.string s0, .int .i64 s1, .int .i64 s2, .bool true] 23 (0, 0))) := ⟨blk_far BKf.out HNf.out _⟩
            have n2_ : Aside0 ((w33.setCell ⟨go51, ji.toNat, none⟩ (.int .u8 (Go.bits .or .u8 (rd x6 ji) js))).heap[gv]? = some (.cells #[.int .i64 0, .int .i64 v1, .string v2] 25 (0, 0))) := ⟨blk_far BKv.out HNv.out _⟩
            clear HI BKf BKv HNf HNv hHeld HT_ HW_ hx179_0 hx51_0 hf51_0 pp1 pp2 c46b0 c47b0 c49b0 c49b1 hjiw hjs_ hjsz hjsu hjsv
            have BKf := n1_
            have BKv := n2_
            have HI := HQ
            clear n1_ n2_ HQ
            generalize w33.setCell ⟨go51, ji.toNat, none⟩ (.int .u8 (Go.bits .or .u8 (rd x6 ji) js)) = w36 at HI BKf BKv ⊢
            obtain ⟨W1, HI, HW⟩ := inv_open HI.out
            have kf0 : w36.cell? ⟨gf, 0, none⟩ = some (.string s0) := (blk_cell BKf.out 0).trans rfl
            have kf1 : w36.cell? ⟨gf, 1, none⟩ = some (.int .i64 s1) := (blk_cell BKf.out 1).trans rfl
            have kf2 : w36.cell? ⟨gf, 2, none⟩ = some (.int .i64 s2) := (blk_cell BKf.out 2).trans rfl
            have kf3 : w36.cell? ⟨gf, 3, none⟩ = some (.bool true) := (blk_cell BKf.out 3).trans rfl
            have kv0 : w36.cell? ⟨gv, 0, none⟩ = some (.int .i64 0) := (blk_cell BKv.out 0).trans rfl
            have kv1 : w36.cell? ⟨gv, 1, none⟩ = some (.int .i64 v1) := (blk_cell BKv.out 1).trans rfl
            have kv2 : w36.cell? ⟨gv, 2, none⟩ = some (.string v2) := (blk_cell BKv.out 2).trans rfl
            go_wp2_with (first | ((with_reducible refine gate_callee (f := 99) rfl ?_); refine goesL_ (some 54) rfl rfl Tryz.func99 (by kernel_rfl) rfl #[.string (⟨#[32]⟩ : ByteArray), .int .i64 s2] rfl (by (try simp only [List.map_toArray, List.map_cons, List.map_nil]); first | done | rfl) ?_; (with_reducible refine (strings_Repeat.calls (⟨#[32]⟩ : ByteArray) s2 p _ HREP.out).mono ?_); rintro e w35 ⟨rfl, hb⟩; refine ⟨_, rfl, ?_⟩; have n0_ := Aside0.mk (below_step HW.out hb); clear HW; have HW := n0_; clear n0_ hb) | ((with_reducible refine gate_callee (f := 111) rfl ?_); refine goesL_ (some 55) rfl rfl Tryz.func111 (by kernel_rfl) rfl #[.pointer (some ⟨gB, 0, none⟩), .string p] rfl (by (try simp only [List.map_toArray, List.map_cons, List.map_nil]); first | done | rfl) ?_; have hbl := HI.out.2.2.2.2.2.2.1; (with_reducible refine (Builder_WriteString gB gB (Lib.byteCells X.data.toList) p _ ?hbl ?hlen ?hBw).mono ?_); (case hbl => exact isBuilder_below hbl HW.out); (case hlen => have := HSZ.out; rw [Lib.byteCells_length]; exact this); (case hBw => have h_ := isBuilder_lt (isBuilder_below hbl HW.out); omega); clear hbl; rintro e w40 ⟨rfl, hbld, hb⟩; refine ⟨_, rfl, ?_⟩; have n0_ := Aside0.mk (RowInv.write (RowInv.below HI.out HW.out) hbld hb); clear HI; have HI := n0_; clear n0_ hbld hb HW BKf BKv; (try clear GEf GEv NE)))
            go_roundg (gk - 1)
            case measure => have := HK.out; have := HN1.out; omega
            case rel => exact ⟨n + 1, y6, (wrap64 (b + 1)), X ++ p, rfl, by rw [HWR.out], ⟨by have h_ := HL.out; rw [HBIT.out true rfl] at h_; exact h_⟩, ⟨by have := HK.out; have := HN1.out; omega⟩, ⟨by have := HN1.out; omega⟩, HI⟩
          · skip
            have HPT' : writeO ⟨s0, s1, s2, true⟩ ⟨v0, v1, v2⟩ = some p := by have h_ := HPT.out; unfold rowPart at h_; rw [if_neg hz] at h_; exact h_
            obtain ⟨kc, klo, khi, krf, KF, hkv, hke, hkc⟩ := write_any _ _ _ HPT'
            have HKV := Aside0.mk hkv
            have HKE := Aside0.mk hke
            have HKC := Aside0.mk hkc
            clear HPT' hkv hke hkc
            have hfl : ∀ (a b c d e : Value) (W : World), (Instr.field 102 (.agg #[a, b, c, d, e]) 3).run Tryz.prog W = .ok d W := fun _ _ _ _ _ _ => by kernel_rfl
            have hz0 : (v0 == 0) = false := beq_eq_false_iff_ne.mpr hz
            have hz1 : (v0 != 0) = true := bne_iff_ne.mpr hz
            have HZ := Aside0.mk hz
            clear hz
            have hy6 : x6 = y6 := by have h_ := HFL.out; unfold rowFlag at h_; simp only [if_true, if_neg HZ.out] at h_; exact Option.some.inj h_
            subst hy6
            clear HFL
            go_wp2_with (first | ((with_reducible refine gate_dst (N := 10) rfl ?_); refine box_event ?hg (N := 10) ?hd (cs := #[.string (⟨#[]⟩ : ByteArray), .int .i64 0, .int .i64 0, .bool false]) (t := 23) ?hr ?_; (case hd => rfl); (case hg => rfl); (case hr => go_simp; try rfl); intro gf hg w25 hbox hb; have GEf : Aside0 (W0.heap.size ≤ gf) := ⟨by rw [hg]; exact HW.out.size⟩; have n0_ := Aside0.mk (below_step HW.out hb); have BKf := Aside0.mk hbox; clear HW; have HW := n0_; clear n0_ hb hbox hg; clear hx0 hx1 hx2 hx3; (try clear c3b)) | ((with_reducible refine gate_store (t := 23) (p := 10) rfl ?_); refine store_box ?hg (ty := 23) (p := 10) (y := .tmp 26) ?ho ?hd gf (cells := #[.string s0, .int .i64 s1, .int .i64 s2, .bool true]) (old := #[.string (⟨#[]⟩ : ByteArray), .int .i64 0, .int .i64 0, .bool false]) (t := 23) ?hx ?hy ?hgg ?hi ?hold ?h1 ?_; (case ho => rfl); (case hg => rfl); (case hd => rfl); (case hx => rfl); (case hy => rfl); (case hgg => exact BKf.out); (case hi => exact size23); (case hold => rfl); (case h1 => simp [Value.oneCell']); intro w26 hbk hbel hoth; have n0_ := Aside0.mk (hbel _ _ HW.out GEf.out); have n1_ := Aside0.mk hbk; clear HW; clear BKf; have HW := n0_; have BKf := n1_; clear n0_ n1_ hbk hbel hoth; have hr0 : w26.cell? ⟨gr, 0, none⟩ = some (.bool a1_0) := (blk_cell (blk_below HI.out.rec HW.out) 0).trans rfl; have hr1 : w26.cell? ⟨gr, 1, none⟩ = some (.slice (some ad1) l1.length c1) := (blk_cell (blk_below HI.out.rec HW.out) 1).trans rfl; have HBW := Aside0.mk (below_step HI.out.args HW.out); have hy0 := (HBW.out.cell (World.block_lt_of_cell? w _ HY0.out)).trans HY0.out; have hy1 := (HBW.out.cell (World.block_lt_of_cell? w _ HY1.out)).trans HY1.out; have hy2 := (HBW.out.cell (World.block_lt_of_cell? w _ HY2.out)).trans HY2.out; clear HBW) | ((with_reducible refine gate_dst (N := 11) rfl ?_); refine box_event ?hg (N := 11) ?hd (cs := #[.int .i64 0, .int .i64 0, .string (⟨#[]⟩ : ByteArray)]) (t := 25) ?hr ?_; (case hd => rfl); (case hg => rfl); (case hr => go_simp; try rfl); intro gv hg w31 hbox hb; have GEv : Aside0 (W0.heap.size ≤ gv) := ⟨by rw [hg]; exact HW.out.size⟩; have NE : Aside0 (gf ≠ gv) := ⟨by rw [hg]; exact Nat.ne_of_lt (blk_lt BKf.out)⟩; have n0_ := Aside0.mk (below_step HW.out hb); have n1_ := Aside0.mk (blk_below BKf.out hb); have BKv := Aside0.mk hbox; clear HW; clear BKf; have HW := n0_; have BKf := n1_; clear n0_ n1_ hb hbox hg; clear hr0 hr1 hy0 hy1 hy2) | ((with_reducible refine gate_store (t := 25) (p := 11) rfl ?_); refine store_box ?hg (ty := 25) (p := 11) (y := .tmp 31) ?ho ?hd gv (cells := #[.int .i64 v0, .int .i64 v1, .string v2]) (old := #[.int .i64 0, .int .i64 0, .string (⟨#[]⟩ : ByteArray)]) (t := 25) ?hx ?hy ?hgg ?hi ?hold ?h1 ?_; (case ho => rfl); (case hg => rfl); (case hd => rfl); (case hx => rfl); (case hy => rfl); (case hgg => exact BKv.out); (case hi => exact size25); (case hold => rfl); (case h1 => simp [Value.oneCell']); intro w32 hbk hbel hoth; have n0_ := Aside0.mk (hbel _ _ HW.out GEv.out); have n1_ := Aside0.mk hbk; have n2_ := Aside0.mk ((hoth gf NE.out).trans BKf.out); clear HW; clear BKv; clear BKf; have HW := n0_; have BKv := n1_; have BKf := n2_; clear n0_ n1_ n2_ hbk hbel hoth; have kf0 : w32.cell? ⟨gf, 0, none⟩ = some (.string s0) := (blk_cell BKf.out 0).trans rfl; have kf1 : w32.cell? ⟨gf, 1, none⟩ = some (.int .i64 s1) := (blk_cell BKf.out 1).trans rfl; have kf2 : w32.cell? ⟨gf, 2, none⟩ = some (.int .i64 s2) := (blk_cell BKf.out 2).trans rfl; have kf3 : w32.cell? ⟨gf, 3, none⟩ = some (.bool true) := (blk_cell BKf.out 3).trans rfl; have kv0 : w32.cell? ⟨gv, 0, none⟩ = some (.int .i64 v0) := (blk_cell BKv.out 0).trans rfl; have kv1 : w32.cell? ⟨gv, 1, none⟩ = some (.int .i64 v1) := (blk_cell BKv.out 1).trans rfl; have kv2 : w32.cell? ⟨gv, 2, none⟩ = some (.string v2) := (blk_cell BKv.out 2).trans rfl))
            have n0_ := Aside0.mk (below_drew1 HW.out)
            have n1_ := Aside0.mk (blk_drew BKf.out)
            have n2_ := Aside0.mk (blk_drew BKv.out)
            clear HW BKf BKv
            have HW := n0_
            have BKf := n1_
            have BKv := n2_
            clear n0_ n1_ n2_
            (try clear kf0 kf1 kf2 kf3)
            (try clear kv0 kv1 kv2)
            refine start_ (n := 9) (S := fun w' => w'.heap[gf]? = some (.cells #[.string s0, .int .i64 s1, .int .i64 s2, .bool true] 23 (0, 0)) ∧ w'.heap[gv]? = some (.cells #[.int .i64 v0, .int .i64 v1, .string v2] 25 (0, 0))) (ds := [8]) #[false, false, false, false, false, false, false, false, false] (by kernel_rfl) rfl rfl ⟨BKf.out, BKv.out⟩ (fun hHeld => ?_); refine with_tabW row_tab17 row_bits17 (fun HT_ HW_ => ?_)
            generalize w32.drew = w33 at HW BKf BKv hHeld ⊢
            refine pure_ (i := 1) (N := some 57) (v := ?_) (a' := ?_) #[false, true, false, false, false, false, false, false, false] rfl rfl (any_of HT_.out (by kernel_rfl)) (fun _ _ _ h => h) (Or.inl ⟨by rfl, ?_⟩) ?_ ?_
            rotate_left
            · intro w'
              go_simp
              with_reducible rfl
            rotate_left
            · simp only [Act.put, List.setIfInBounds_toArray, List.set_cons_zero, List.set_cons_succ, i64_w, i32_w]
              rfl
            refine take_ (i := 2) (N := some 58) (v := ?_) (a' := ?_) #[false, true, true, false, false, false, false, false, false] rfl rfl (take_ofW HT_.out HW_.out (by kernel_rfl)) (fun _ _ _ h => h) (Or.inl ⟨by rfl, ?_⟩) hHeld ?_ ?_
            rotate_left
            · rintro w' ⟨s0_, s1_⟩
              have sc := (blk_cell s0_ 1).trans rfl
              go_simp
              with_reducible rfl
            rotate_left
            · simp only [Act.put, List.setIfInBounds_toArray, List.set_cons_zero, List.set_cons_succ, i64_w, i32_w]
              rfl
            refine take_ (i := 5) (N := some 61) (v := ?_) (a' := ?_) #[false, true, true, false, false, true, false, false, false] rfl rfl (take_ofW HT_.out HW_.out (by kernel_rfl)) (fun _ _ _ h => h) (Or.inl ⟨by rfl, ?_⟩) hHeld ?_ ?_
            rotate_left
            · rintro w' ⟨s0_, s1_⟩
              have sc0 : w'.cell? ⟨gf, 0, none⟩ = some (.string s0) := (blk_cell s0_ 0).trans rfl
              have sc1 : w'.cell? ⟨gf, 1, none⟩ = some (.int .i64 s1) := (blk_cell s0_ 1).trans rfl
              have sc2 : w'.cell? ⟨gf, 2, none⟩ = some (.int .i64 s2) := (blk_cell s0_ 2).trans rfl
              have sc3 : w'.cell? ⟨gf, 3, none⟩ = some (.bool true) := (blk_cell s0_ 3).trans rfl
              go_simp
              with_reducible rfl
            rotate_left
            · simp only [Act.put, List.setIfInBounds_toArray, List.set_cons_zero, List.set_cons_succ, i64_w, i32_w]
              rfl
            refine take_ (i := 6) (N := some 62) (v := ?_) (a' := ?_) #[false, true, true, false, false, true, true, false, false] rfl rfl (take_ofW HT_.out HW_.out (by kernel_rfl)) (fun _ _ _ h => h) (Or.inl ⟨by rfl, ?_⟩) hHeld ?_ ?_
            rotate_left
            · rintro w' ⟨s0_, s1_⟩
              have sc0 : w'.cell? ⟨gv, 0, none⟩ = some (.int .i64 v0) := (blk_cell s1_ 0).trans rfl
              have sc1 : w'.cell? ⟨gv, 1, none⟩ = some (.int .i64 v1) := (blk_cell s1_ 1).trans rfl
              have sc2 : w'.cell? ⟨gv, 2, none⟩ = some (.string v2) := (blk_cell s1_ 2).trans rfl
              go_simp
              with_reducible rfl
            rotate_left
            · simp only [Act.put, List.setIfInBounds_toArray, List.set_cons_zero, List.set_cons_succ, i64_w, i32_w]
              rfl
            refine one_ (i := 0) (N := some 56) #[true, true, true, false, false, true, true, false, false] rfl rfl (one_of HT_.out (by kernel_rfl)) (by decide) (fun K hK => ?_)
            refine goes_ Tryz.func89 (by kernel_rfl) rfl #[] (by rfl) rfl rfl (by (try simp only [List.map_toArray, List.map_cons, List.map_nil]); first | done | rfl) ?_
            refine (table_kinds w33).mono ?_
            rintro e w34 ⟨rk, rfl, hkb, hb⟩
            refine ⟨_, rfl, ?_⟩
            have HKB := Aside0.mk hkb
            clear hkb
            have n0_ := Aside0.mk (below_step HW.out hb)
            have n1_ := Aside0.mk (blk_below BKf.out hb)
            have n2_ := Aside0.mk (blk_below BKv.out hb)
            clear HW BKf BKv
            have HW := n0_
            have BKf := n1_
            have BKv := n2_
            clear n0_ n1_ n2_ hb
            refine hK.out _ _ ⟨BKf.out, BKv.out⟩ (fun hHeld => ?_)
            clear hK K
            refine norm_ (a' := ?_) ?_ ?_
            rotate_left
            · show Act.put _ (some 56) _ = _
              simp only [Act.put, List.setIfInBounds_toArray, List.set_cons_zero, List.set_cons_succ, i64_w, i32_w]
              rfl
            refine one_ (i := 3) (N := some 59) #[true, true, true, true, false, true, true, false, false] rfl rfl (one_of HT_.out (by kernel_rfl)) (by decide) (fun K hK => ?_)
            have hlk := run_look' w34 rk HKB.out _ _ HKV.out
            refine event_step (v := .agg #[kc, klo, khi, .func (.func KF) #[] #[], krf]) (w1 := w34) rfl (by first | (go_simp; done) | (go_simp; rfl) | (go_simp; exact ⟨rfl, rfl⟩)) ?_
            refine hK.out _ _ ⟨BKf.out, BKv.out⟩ (fun hHeld => ?_)
            clear hK K
            refine norm_ (a' := ?_) ?_ ?_
            rotate_left
            · show Act.put _ (some 59) _ = _
              simp only [Act.put, List.setIfInBounds_toArray, List.set_cons_zero, List.set_cons_succ, i64_w, i32_w]
              rfl
            clear hlk
            refine one_ (i := 4) (N := some 60) #[true, true, true, true, true, true, true, false, false] rfl rfl (one_of HT_.out (by kernel_rfl)) (by decide) (fun K hK => ?_)
            refine event_step (v := .func (.func KF) #[] #[]) (w1 := w34) rfl (by first | (go_simp; done) | (go_simp; rfl) | (go_simp; exact ⟨rfl, rfl⟩)) ?_
            refine hK.out _ _ ⟨BKf.out, BKv.out⟩ (fun hHeld => ?_)
            clear hK K
            refine norm_ (a' := ?_) ?_ ?_
            rotate_left
            · show Act.put _ (some 60) _ = _
              simp only [Act.put, List.setIfInBounds_toArray, List.set_cons_zero, List.set_cons_succ, i64_w, i32_w]
              rfl
            refine one_ (i := 7) (N := some 63) #[true, true, true, true, true, true, true, true, false] rfl rfl (one_of HT_.out (by kernel_rfl)) (by decide) (fun K hK => ?_)
            refine goesV_ (f := KF) (x := 60) HKE.out #[.agg #[.string s0, .int .i64 s1, .int .i64 s2, .bool true], .agg #[.int .i64 v0, .int .i64 v1, .string v2]] (by rfl) rfl rfl (by rfl) (by (try simp only [List.map_toArray, List.map_cons, List.map_nil]); first | done | rfl) ?_
            refine (HKC.out w34).mono ?_
            rintro e w35 ⟨rfl, hb⟩
            refine ⟨_, rfl, ?_⟩
            have n0_ := Aside0.mk (below_step HW.out hb)
            have n1_ := Aside0.mk (blk_below BKf.out hb)
            have n2_ := Aside0.mk (blk_below BKv.out hb)
            clear HW BKf BKv
            have HW := n0_
            have BKf := n1_
            have BKv := n2_
            clear n0_ n1_ n2_ hb
            refine hK.out _ _ ⟨BKf.out, BKv.out⟩ (fun hHeld => ?_)
            clear hK K
            refine norm_ (a' := ?_) ?_ ?_
            rotate_left
            · show Act.put _ (some 63) _ = _
              simp only [Act.put, List.setIfInBounds_toArray, List.set_cons_zero, List.set_cons_succ, i64_w, i32_w]
              rfl
            refine last_ (i := 8) (N := some 64) #[true, true, true, true, true, true, true, true, true] rfl rfl (one_of HT_.out (by kernel_rfl)) (by decide) (fun K hK => ?_)
            refine goes_ Tryz.func111 (by kernel_rfl) rfl #[.pointer (some ⟨gB, 0, none⟩), .string p] (by rfl) rfl rfl (by (try simp only [List.map_toArray, List.map_cons, List.map_nil]); first | done | rfl) ?_
            have hbl := HI.out.2.2.2.2.2.2.1; (with_reducible refine (Builder_WriteString gB gB (Lib.byteCells X.data.toList) p _ ?hbl ?hlen ?hBw).mono ?_); (case hbl => exact isBuilder_below hbl HW.out); (case hlen => have := HSZ.out; rw [Lib.byteCells_length]; exact this); (case hBw => have h_ := isBuilder_lt (isBuilder_below hbl HW.out); omega); clear hbl; rintro e w40 ⟨rfl, hbld, hb⟩; refine ⟨_, rfl, ?_⟩; have n0_ := Aside0.mk (RowInv.write (RowInv.below HI.out HW.out) hbld hb); clear HI; have HI := n0_; clear n0_ hbld hb HW BKf BKv; (try clear GEf GEv NE)
            refine hK.out _ _ ?_
            clear hK K
            refine norm_ (a' := ?_) ?_ ?_
            rotate_left
            · show Act.put _ (some 64) _ = _
              simp only [Act.put, List.setIfInBounds_toArray, List.set_cons_zero, List.set_cons_succ, i64_w, i32_w]
              rfl
            refine done_ (done_of HT_.out (by kernel_rfl)) ?_
            clear hHeld HT_ HW_ hfl HKV HKB HKE HKC
            go_wp2
            go_roundg (gk - 1)
            case measure => have := HK.out; have := HN1.out; omega
            case rel => exact ⟨n + 1, x6, (wrap64 (b + 1)), X ++ p, rfl, by rw [HWR.out], ⟨by have h_ := HL.out; rw [HBIT.out true rfl] at h_; exact h_⟩, ⟨by have := HK.out; have := HN1.out; omega⟩, ⟨by have := HN1.out; omega⟩, HI⟩
      · have hnl : n = l0.length := by have := HNl.out; omega
        have c3b := decide_eq_false c3
        have hFY : x6 = F ∧ X = Y := by
          have h_ := HA.out
          rw [hnl, List.drop_length] at h_
          simp only [rowL] at h_
          injection h_ with h_
          injection h_ with h1 h2
          exact ⟨h1, h2⟩
        obtain ⟨rfl, rfl⟩ := hFY
        clear HA hnl
        obtain ⟨Ao, co, eo⟩ := Kd.R_slice HI.out.2.1
        subst eo
        have LY : Aside0 (X.data.toList ≠ []) := ⟨fun h_ => HYN.out (by show X.data.toList.length = 0; rw [h_]; rfl)⟩
        have LX : Aside0 (x5.length = 1) := ⟨by rw [HX5.out]; rfl⟩
        obtain ⟨W0, HI, HW⟩ := inv_open HI.out
        go_wp2_with (first | ((with_reducible refine gate_builtin (b := .append) (xs := #[.tmp 66, .tmp 67]) rfl ?_); at_builtin; refine Kd.R_append_rows (Kd.int .u8) (w0 := w) w.heap.size rfl (.tmp 66) (.tmp 67) 37 5 (.int .u8 0) 1 rfl Tryz.underlying37 info5 rfl (by decide) (by omega) vo x5 x6 _ _ _ (fun k_ => k_ ≠ gB) (fun _ => False) rfl rfl ?aO ?aR (fun _ _ h => h) (fun _ h => h.elim) ?aF ?aB ?aS ?aL ?_; (case aR => exact (Kd.R_reads' (Kd.R_below HI.out.2.1 HW.out)).2.2); (case aB => exact (RowInv.below HI.out HW.out).args); (case aF => exact (fun k_ hk => by have h_ := isBuilder_lt (RowInv.below HI.out HW.out).2.2.2.2.2.2.1; omega)); (case aO => exact Kd.R_mono (RowInv.below HI.out HW.out).1 (fun k_ hk => by omega)); (case aS => exact (below_size (RowInv.below HI.out HW.out).args)); (case aL => have := LX.out; have := HS.out; omega); intro v87 w87 ho hb hg hat; have HO := Aside0.mk ho; have HBL := Aside0.mk (isBuilder_grown (RowInv.below HI.out HW.out) hg); have HAW := Aside0.mk (builder_away (RowInv.below HI.out HW.out) hg hat); have HB := Aside0.mk hb; have HGE : Aside0 (w.heap.size ≤ gB ∧ gB < w87.heap.size) := ⟨HI.out.2.2.2.2.2.1, isBuilder_lt HBL.out⟩; clear HI HW ho hb hg hat) | ((with_reducible refine gate_callee (f := 112) rfl ?_); refine goesL_ (some 69) rfl rfl Tryz.func112 (by kernel_rfl) rfl #[.pointer (some ⟨gB, 0, none⟩)] rfl (by (try simp only [List.map_toArray, List.map_cons, List.map_nil]); first | done | rfl) ?_; (with_reducible refine (builder_string gB X.data.toList _ HBL.out LY.out).mono ?_); rintro e w88 ⟨rfl, hb, hoth⟩; refine ⟨_, rfl, ?_⟩; have n0_ := Aside0.mk (row_kept HO.out HAW.out hoth); have n1_ := Aside0.mk (below_weaken HB.out HGE.out.1 hb); clear HO HB HBL HAW; have HO := n0_; have HB := n1_; clear n0_ n1_ hb hoth) | ((with_reducible refine gate_dst (N := 70) rfl ?_); refine R_append_str (w0 := w) w.heap.size rfl (.tmp 68) (.tmp 69) rfl v87 (x5 ++ x6) X _ rfl rfl HO.out HB.out (below_size HB.out) (by have := LX.out; have := HS.out; rw [List.length_append]; omega) ?_; intro v1 w1 ho hb; clear HO HB; have HO := Aside0.mk ho; have HB := Aside0.mk hb; clear ho hb))
        go_ret
        exact ⟨v1, rfl, by have h_ := HO.out; rw [HX5.out] at h_; exact h_, HB.out⟩
theorem table_row.calls (A0 : Option Addr) (c0 : Nat) (l0 : List (S23)) (a1_0 : Bool) (A1_1 : Option Addr) (c1_1 : Nat) (l1_1 : List (S25)) (r : List Int) (w : World) (hr0 : Kd.C k23 w A0 l0.length l0) (hc0 : l0.length ≤ c0) (hr1_1 : Kd.C k25 w A1_1 l1_1.length l1_1) (hc1_1 : l1_1.length ≤ c1_1) (h : table_row.f l0 a1_0 l1_1 = some r) :
    Calls Tryz.prog 63 #[.slice A0 l0.length c0, .agg #[.bool a1_0, .slice A1_1 l1_1.length c1_1]] w fun e w' => ∃ v0_ : Value, e = .returned (v0_) ∧ Kd.R (Kd.int .u8) 5 w' w.heap.size (fun _ => True) v0_ r ∧ Below w.heap.size w w' := by
  unfold table_row.f at h
  obtain ⟨t, hA, h⟩ := Option.bind_eq_some_iff.mp h
  split at h
  · rename_i ht0
    split at h
    · rename_i ht1
      obtain ⟨⟨F, Y⟩, hL, h⟩ := Option.bind_eq_some_iff.mp h
      split at h
      · rename_i hs
        obtain rfl := Option.some.inj h
        exact row_walk A0 c0 l0 a1_0 A1_1 c1_1 l1_1 t F Y w hr0 hc0 hr1_1 hc1_1 hA ht0 ht1 hL hs.1 hs.2.2 hs.2.1
      · cases h
    · cases h
  · cases h
end Go.Proofs.YtldpdidlfbphcaaGreatDoor.P
end
