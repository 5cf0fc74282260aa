/- TableFits: for every field, every number of a page and every value, the law returns true and leaves its arguments as they were. Condition: the two listed tables of unicode/utf8 hold what the text of the program lays (the card ties them). -/
import Derived.Test.YtldpdidlfbphcaaGreatDoorBFits5
import Derived.Test.YtldpdidlfbphcaaGreatDoorCards
import Derived.Test.YtldpdidlfbphcaaGreatDoorTie
set_option linter.unusedVariables false
set_option linter.unusedSimpArgs false
section
namespace Go.Proofs.YtldpdidlfbphcaaGreatDoor.P
open Go.RowKit Go.Proofs.YtldpdidlfbphcaaGreatDoorW.PrintWords Go.Proofs.YtldpdidlfbphcaaGreatDoorW.PrintLast Go.Proofs.YtldpdidlfbphcaaGreatDoorW.PrintMore
attribute [local go_sem] max2_int min2_int max_two min_two max_three min_three max_four min_four
def table_Row.f (k : Nat) (a0_0 : Int) (l0_1 : List (S23)) (l0_2 : List (S46)) (a1 : Int) : Option (List Int × Int) := (table_Validate.f k a0_0 l0_1 l0_2).bind fun t254 => (if t254 = 0 then (if a1 < 1 then (some (([] : List Int), 4)) else (if a1 > (l0_2.length : Int) then (some (([] : List Int), 4)) else (if 0 ≤ (wrap64 (a1 - 1)) then (if (wrap64 (a1 - 1)) < (l0_2.length : Int) then ((table_row.f l0_1 ((rd_T46 l0_2 (wrap64 (a1 - 1))).f0) ((rd_T46 l0_2 (wrap64 (a1 - 1))).f1)).bind fun t256 => (some (t256, 0))) else (none)) else (none)))) else (some (([] : List Int), t254)))
theorem table_Row.mono : ∀ a0 a1 a2 a3 k, LeO (table_Row.f k a0 a1 a2 a3) (table_Row.f (k + 1) a0 a1 a2 a3) := by
  intro a0 a1 a2 a3 k
  unfold table_Row.f
  repeat' first
      | (with_reducible exact table_Validate.mono _ _ _ _)
      | (with_reducible exact LeO.refl _)
      | (with_reducible exact LeO.none _)
      | (with_reducible refine LeO.ite ?_ ?_)
      | (with_reducible refine LeO.bind ?_ (fun _ => ?_))
      | exact table_Validate.mono _ _ _ _
      | exact LeO.none _
      | refine LeO.ite ?_ ?_
      | refine LeO.bind ?_ (fun _ => ?_)
def table_Row.T6 : Bool × List (List Nat × List Nat) := (true, [([], []), ([0], [0]), ([], []), ([2], [2]), ([], []), ([4], [4]), ([3, 5], [3, 5]), ([6], [6]), ([1, 7], [1, 7]), ([8, 8, 0, 1, 2, 3, 4, 5, 6, 7, 8], [8]), ([9, 0, 1, 2, 3, 4, 5, 6, 7, 8, 9], [])])
def table_Row.B6 : List Nat := [0, 1, 0, 4, 0, 16, 60, 124, 255, 511, 1023]
theorem table_Row.tab6 : rtab .any (opsOf Tryz.f21 6) = table_Row.T6 := by kernel_rfl
theorem table_Row.bits6 : waitsOk table_Row.T6.2 table_Row.B6 = true := by kernel_rfl
set_option maxHeartbeats 8000000 in
set_option maxRecDepth 100000 in
theorem table_Row.calls (k : Nat) (a0_0 : Int) (A0_1 : Option Addr) (c0_1 : Nat) (l0_1 : List (S23)) (A0_2 : Option Addr) (c0_2 : Nat) (l0_2 : List (S46)) (a1 : Int) (r1 : List Int) (r2 : Int) (w : World) (hr0_1 : Kd.C k23 w A0_1 l0_1.length l0_1) (hc0_1 : l0_1.length ≤ c0_1) (hr0_2 : Kd.C k46 w A0_2 l0_2.length l0_2) (hc0_2 : l0_2.length ≤ c0_2) (h : table_Row.f k a0_0 l0_1 l0_2 a1 = some (r1, r2)) :
    Calls Tryz.prog 21 #[.agg #[.int .i64 a0_0, .slice A0_1 l0_1.length c0_1, .slice A0_2 l0_2.length c0_2], .int .i64 a1] w fun e w' => ∃ v0_ : Value, e = .returned (.tuple #[v0_, .int .i64 r2]) ∧ Kd.R (Kd.int .u8) 5 w' w.heap.size (fun _ => True) v0_ r1 ∧ Below w.heap.size w w' := by
  have hu35 := Tryz.underlying35
  have hu46 := Tryz.underlying46
  have HR0_1 := Aside0.mk hr0_1
  have HC0_1 := Aside0.mk hc0_1
  clear hr0_1 hc0_1
  have HR0_2 := Aside0.mk hr0_2
  have HC0_2 := Aside0.mk hc0_2
  clear hr0_2 hc0_2
  have HB := Aside0.mk (Below.refl w.heap.size w)
  have H : ((table_Validate.f k a0_0 l0_1 l0_2).bind fun t254 => (if t254 = 0 then (if a1 < 1 then (some (([] : List Int), 4)) else (if a1 > (l0_2.length : Int) then (some (([] : List Int), 4)) else (if 0 ≤ (wrap64 (a1 - 1)) then (if (wrap64 (a1 - 1)) < (l0_2.length : Int) then ((table_row.f l0_1 ((rd_T46 l0_2 (wrap64 (a1 - 1))).f0) ((rd_T46 l0_2 (wrap64 (a1 - 1))).f1)).bind fun t256 => (some (t256, 0))) else (none)) else (none)))) else (some (([] : List Int), t254)))) = some (r1, r2) := h
  clear h
  replace H := Option.bind_eq_some_iff.mp H
  obtain ⟨t254, A30, H⟩ := H
  replace H : (if t254 = 0 then (if a1 < 1 then (some (([] : List Int), 4)) else (if a1 > (l0_2.length : Int) then (some (([] : List Int), 4)) else (if 0 ≤ (wrap64 (a1 - 1)) then (if (wrap64 (a1 - 1)) < (l0_2.length : Int) then ((table_row.f l0_1 ((rd_T46 l0_2 (wrap64 (a1 - 1))).f0) ((rd_T46 l0_2 (wrap64 (a1 - 1))).f1)).bind fun t256 => (some (t256, 0))) else (none)) else (none)))) else (some (([] : List Int), t254))) = some (r1, r2) := H
  have A3 := Aside0.mk A30
  clear A30
  by_cases c4 : t254 = 0
  · rw [if_pos c4] at H
    have c4b0 : (t254 == 0) = true := beq_iff_eq.mpr c4
    have c4b1 : (t254 != 0) = false := bne_eq_false_iff_eq.mpr c4
    clear c4
    by_cases c5 : a1 < 1
    · rw [if_pos c5] at H
      have c5b0 : decide (a1 < 1) = true := decide_eq_true c5
      clear c5
      simp only [Option.some.injEq, Prod.mk.injEq] at H
      obtain ⟨rfl, rfl⟩ := H
      go_enter Tryz.func21, Tryz.ntmps21
      go_wp2_with (first | ((with_reducible refine gate_dst (N := 2) rfl ?_); (try (refine gate_guard (by rfl) ?_; dsimp only)); refine box_event ?hg (N := 2) ?hd (cs := #[.int .i64 a0_0, .slice A0_1 l0_1.length c0_1, .slice A0_2 l0_2.length c0_2]) (t := 35) ?hr ?_; (case hd => rfl); (case hg => rfl); (case hr => go_simp; try rfl); intro gb253 hg w6 hbox hb; have n0_ := Aside0.mk (below_step HB.out hb); have n1_ := Aside0.mk (hbox); have n3_ := Aside0.mk ((by rw [hg]; exact (below_size HB.out) : w.heap.size ≤ gb253)); clear HB; have HB := n0_; have BK253 := n1_; have GE253 := n3_; clear n0_ n1_ n3_; clear hb hbox hg; have hcz7_0 : w6.cell? ⟨gb253, 0, none⟩ = some (.int .i64 a0_0) := (blk_cell BK253.out 0).trans rfl; have hcz7_1 : w6.cell? ⟨gb253, 1, none⟩ = some (.slice A0_1 l0_1.length c0_1) := (blk_cell BK253.out 1).trans rfl; have hcz7_2 : w6.cell? ⟨gb253, 2, none⟩ = some (.slice A0_2 l0_2.length c0_2) := (blk_cell BK253.out 2).trans rfl; have hfz7_0 := blk_frozen BK253.out 0; have hfz7_1 := blk_frozen BK253.out 1; have hfz7_2 := blk_frozen BK253.out 2) | ((with_reducible refine gate_callee (f := 34) rfl ?_); refine goesL_ (some 8) rfl rfl Tryz.func34 (by kernel_rfl) rfl #[.agg #[.int .i64 a0_0, .slice A0_1 l0_1.length c0_1, .slice A0_2 l0_2.length c0_2]] rfl (by (try simp only [List.map_toArray, List.map_cons, List.map_nil]); first | done | rfl) ?_; (with_reducible refine (table_Validate.calls k a0_0 _ _ l0_1 _ _ l0_2 t254 _ ?side1 ?side2 ?side3 ?side4 A3.out).mono ?_); (case side1 => repeat (first | exact (Kd.C_below HR0_1.out HB.out) | (with_reducible refine Kd.C_alloc ?_ _) | (with_reducible refine Kd.C_drewN ?_ _) | (with_reducible refine Kd.C_drew ?_))); (case side2 => exact HC0_1.out); (case side3 => repeat (first | exact (Kd.C_below HR0_2.out HB.out) | (with_reducible refine Kd.C_alloc ?_ _) | (with_reducible refine Kd.C_drewN ?_ _) | (with_reducible refine Kd.C_drew ?_))); (case side4 => exact HC0_2.out); rintro e w8 ⟨rfl, hb⟩; refine ⟨_, rfl, ?_⟩; have n0_ := Aside0.mk (blk_below (g := gb253) (o := .cells #[.int .i64 a0_0, .slice A0_1 l0_1.length c0_1, .slice A0_2 l0_2.length c0_2] 35 (0, 0)) BK253.out hb); have n1_ := Aside0.mk (below_step HB.out hb); clear BK253; clear HB; have BK253 := n0_; have HB := n1_; clear n0_ n1_; (try clear hb); (try clear hb2); (try clear hk); (try clear hi)))
      go_ret2
      exact ⟨_, rfl, by first | exact Kd.R_nil _ _ _ _ _ | exact Kd.N_nil _ _ _ _ _ | exact Kd.V_nil _ _ _ _ _ | exact Kd.Q_nil _ _ _ _ _ | exact Kd.S_nil _ _ _ _ _, by repeat (first | (with_reducible first | exact HB.out | apply below_alloc | apply pw_below_drewN | apply below_drew1 | refine below_set ?_ GE253.out) | exact HB.out)⟩
    · rw [if_neg c5] at H
      have c5b0 : decide (a1 < 1) = false := decide_eq_false c5
      clear c5
      by_cases c9 : a1 > (l0_2.length : Int)
      · rw [if_pos c9] at H
        have c9b0 : decide ((l0_2.length : Int) < a1) = true := decide_eq_true c9
        clear c9
        simp only [Option.some.injEq, Prod.mk.injEq] at H
        obtain ⟨rfl, rfl⟩ := H
        go_enter Tryz.func21, Tryz.ntmps21
        go_wp2_with (first | ((with_reducible refine gate_dst (N := 2) rfl ?_); (try (refine gate_guard (by rfl) ?_; dsimp only)); refine box_event ?hg (N := 2) ?hd (cs := #[.int .i64 a0_0, .slice A0_1 l0_1.length c0_1, .slice A0_2 l0_2.length c0_2]) (t := 35) ?hr ?_; (case hd => rfl); (case hg => rfl); (case hr => go_simp; try rfl); intro gb253 hg w10 hbox hb; have n0_ := Aside0.mk (below_step HB.out hb); have n1_ := Aside0.mk (hbox); have n3_ := Aside0.mk ((by rw [hg]; exact (below_size HB.out) : w.heap.size ≤ gb253)); clear HB; have HB := n0_; have BK253 := n1_; have GE253 := n3_; clear n0_ n1_ n3_; clear hb hbox hg; have hcz11_0 : w10.cell? ⟨gb253, 0, none⟩ = some (.int .i64 a0_0) := (blk_cell BK253.out 0).trans rfl; have hcz11_1 : w10.cell? ⟨gb253, 1, none⟩ = some (.slice A0_1 l0_1.length c0_1) := (blk_cell BK253.out 1).trans rfl; have hcz11_2 : w10.cell? ⟨gb253, 2, none⟩ = some (.slice A0_2 l0_2.length c0_2) := (blk_cell BK253.out 2).trans rfl; have hfz11_0 := blk_frozen BK253.out 0; have hfz11_1 := blk_frozen BK253.out 1; have hfz11_2 := blk_frozen BK253.out 2) | ((with_reducible refine gate_callee (f := 34) rfl ?_); refine goesL_ (some 8) rfl rfl Tryz.func34 (by kernel_rfl) rfl #[.agg #[.int .i64 a0_0, .slice A0_1 l0_1.length c0_1, .slice A0_2 l0_2.length c0_2]] rfl (by (try simp only [List.map_toArray, List.map_cons, List.map_nil]); first | done | rfl) ?_; (with_reducible refine (table_Validate.calls k a0_0 _ _ l0_1 _ _ l0_2 t254 _ ?side1 ?side2 ?side3 ?side4 A3.out).mono ?_); (case side1 => repeat (first | exact (Kd.C_below HR0_1.out HB.out) | (with_reducible refine Kd.C_alloc ?_ _) | (with_reducible refine Kd.C_drewN ?_ _) | (with_reducible refine Kd.C_drew ?_))); (case side2 => exact HC0_1.out); (case side3 => repeat (first | exact (Kd.C_below HR0_2.out HB.out) | (with_reducible refine Kd.C_alloc ?_ _) | (with_reducible refine Kd.C_drewN ?_ _) | (with_reducible refine Kd.C_drew ?_))); (case side4 => exact HC0_2.out); rintro e w12 ⟨rfl, hb⟩; refine ⟨_, rfl, ?_⟩; have n0_ := Aside0.mk (blk_below (g := gb253) (o := .cells #[.int .i64 a0_0, .slice A0_1 l0_1.length c0_1, .slice A0_2 l0_2.length c0_2] 35 (0, 0)) BK253.out hb); have n1_ := Aside0.mk (below_step HB.out hb); clear BK253; clear HB; have BK253 := n0_; have HB := n1_; clear n0_ n1_; (try clear hb); (try clear hb2); (try clear hk); (try clear hi); have hcz13_0 : w12.cell? ⟨gb253, 0, none⟩ = some (.int .i64 a0_0) := (blk_cell BK253.out 0).trans rfl; have hcz13_1 : w12.cell? ⟨gb253, 1, none⟩ = some (.slice A0_1 l0_1.length c0_1) := (blk_cell BK253.out 1).trans rfl; have hcz13_2 : w12.cell? ⟨gb253, 2, none⟩ = some (.slice A0_2 l0_2.length c0_2) := (blk_cell BK253.out 2).trans rfl; have hfz13_0 := blk_frozen BK253.out 0; have hfz13_1 := blk_frozen BK253.out 1; have hfz13_2 := blk_frozen BK253.out 2))
        go_ret2
        exact ⟨_, rfl, by first | exact Kd.R_nil _ _ _ _ _ | exact Kd.N_nil _ _ _ _ _ | exact Kd.V_nil _ _ _ _ _ | exact Kd.Q_nil _ _ _ _ _ | exact Kd.S_nil _ _ _ _ _, by repeat (first | (with_reducible first | exact HB.out | apply below_alloc | apply pw_below_drewN | apply below_drew1 | refine below_set ?_ GE253.out) | exact HB.out)⟩
      · rw [if_neg c9] at H
        have c9b0 : decide ((l0_2.length : Int) < a1) = false := decide_eq_false c9
        clear c9
        obtain ⟨ji14, hji14⟩ : ∃ j_ : Int, (wrap64 (a1 - 1)) = j_ := ⟨_, rfl⟩
        replace H : (if 0 ≤ (ji14) then (if (ji14) < (l0_2.length : Int) then ((table_row.f l0_1 ((rd_T46 l0_2 (ji14)).f0) ((rd_T46 l0_2 (ji14)).f1)).bind fun t256 => (some (t256, 0))) else (none)) else (none)) = some (r1, r2) := by first | (rw [hji14] at H; exact H) | (simp only [hji14] at H ⊢; exact H)
        (try rw [hji14] at A3)
        have hji14w : (IntKind.i64.wrap (a1 - 1)) = ji14 := (i64_w _).trans hji14
        by_cases c15 : 0 ≤ (ji14)
        · rw [if_pos c15] at H
          have c15b0 : decide (0 ≤ (ji14)) = true := decide_eq_true c15
          clear c15
          by_cases c16 : (ji14) < (l0_2.length : Int)
          · rw [if_pos c16] at H
            have c16b0 : decide ((ji14) < (l0_2.length : Int)) = true := decide_eq_true c16
            clear c16
            replace H := Option.bind_eq_some_iff.mp H
            obtain ⟨t256, A170, H⟩ := H
            replace H : (some (t256, 0)) = some (r1, r2) := H
            have A17 := Aside0.mk A170
            clear A170
            simp only [Option.some.injEq, Prod.mk.injEq] at H
            obtain ⟨rfl, rfl⟩ := H
            go_enter Tryz.func21, Tryz.ntmps21
            try go_wp2_with (first | ((with_reducible refine gate_dst (N := 2) rfl ?_); (try (refine gate_guard (by rfl) ?_; dsimp only)); refine box_event ?hg (N := 2) ?hd (cs := #[.int .i64 a0_0, .slice A0_1 l0_1.length c0_1, .slice A0_2 l0_2.length c0_2]) (t := 35) ?hr ?_; (case hd => rfl); (case hg => rfl); (case hr => go_simp; try rfl); intro gb253 hg w18 hbox hb; have n0_ := Aside0.mk (below_step HB.out hb); have n1_ := Aside0.mk (hbox); have n3_ := Aside0.mk ((by rw [hg]; exact (below_size HB.out) : w.heap.size ≤ gb253)); clear HB; have HB := n0_; have BK253 := n1_; have GE253 := n3_; clear n0_ n1_ n3_; clear hb hbox hg; have hcz19_0 : w18.cell? ⟨gb253, 0, none⟩ = some (.int .i64 a0_0) := (blk_cell BK253.out 0).trans rfl; have hcz19_1 : w18.cell? ⟨gb253, 1, none⟩ = some (.slice A0_1 l0_1.length c0_1) := (blk_cell BK253.out 1).trans rfl; have hcz19_2 : w18.cell? ⟨gb253, 2, none⟩ = some (.slice A0_2 l0_2.length c0_2) := (blk_cell BK253.out 2).trans rfl; have hfz19_0 := blk_frozen BK253.out 0; have hfz19_1 := blk_frozen BK253.out 1; have hfz19_2 := blk_frozen BK253.out 2) | ((with_reducible refine gate_callee (f := 34) rfl ?_); refine goesL_ (some 8) rfl rfl Tryz.func34 (by kernel_rfl) rfl #[.agg #[.int .i64 a0_0, .slice A0_1 l0_1.length c0_1, .slice A0_2 l0_2.length c0_2]] rfl (by (try simp only [List.map_toArray, List.map_cons, List.map_nil]); first | done | rfl) ?_; (with_reducible refine (table_Validate.calls k a0_0 _ _ l0_1 _ _ l0_2 t254 _ ?side1 ?side2 ?side3 ?side4 A3.out).mono ?_); (case side1 => repeat (first | exact (Kd.C_below HR0_1.out HB.out) | (with_reducible refine Kd.C_alloc ?_ _) | (with_reducible refine Kd.C_drewN ?_ _) | (with_reducible refine Kd.C_drew ?_))); (case side2 => exact HC0_1.out); (case side3 => repeat (first | exact (Kd.C_below HR0_2.out HB.out) | (with_reducible refine Kd.C_alloc ?_ _) | (with_reducible refine Kd.C_drewN ?_ _) | (with_reducible refine Kd.C_drew ?_))); (case side4 => exact HC0_2.out); rintro e w20 ⟨rfl, hb⟩; refine ⟨_, rfl, ?_⟩; have n0_ := Aside0.mk (blk_below (g := gb253) (o := .cells #[.int .i64 a0_0, .slice A0_1 l0_1.length c0_1, .slice A0_2 l0_2.length c0_2] 35 (0, 0)) BK253.out hb); have n1_ := Aside0.mk (below_step HB.out hb); clear BK253; clear HB; have BK253 := n0_; have HB := n1_; clear n0_ n1_; (try clear hb); (try clear hb2); (try clear hk); (try clear hi); have hcz21_0 : w20.cell? ⟨gb253, 0, none⟩ = some (.int .i64 a0_0) := (blk_cell BK253.out 0).trans rfl; have hcz21_1 : w20.cell? ⟨gb253, 1, none⟩ = some (.slice A0_1 l0_1.length c0_1) := (blk_cell BK253.out 1).trans rfl; have hcz21_2 : w20.cell? ⟨gb253, 2, none⟩ = some (.slice A0_2 l0_2.length c0_2) := (blk_cell BK253.out 2).trans rfl; have hfz21_0 := blk_frozen BK253.out 0; have hfz21_1 := blk_frozen BK253.out 1; have hfz21_2 := blk_frozen BK253.out 2))
            have n0_ := Aside0.mk (blk_drew BK253.out)
            have n1_ := Aside0.mk (below_drew1 HB.out)
            clear BK253
            clear HB
            have BK253 := n0_
            have HB := n1_
            clear n0_ n1_
            have p255 : 0 ≤ ((ji14) : Int) := of_decide_eq_true (by first | (with_reducible assumption) | assumption)
            have q255 : (ji14) < (l0_2.length : Int) := of_decide_eq_true (by first | (with_reducible assumption) | assumption)
            obtain ⟨ad255, A255_1, c255_1, e255, hx255_0, hx255_1, hl255_1, hi255_1⟩ := at_T46 HR0_2.out (ji14) p255 q255
            have hw255_1 := hx255_1
            have hw255_0 := hx255_0
            cases e255
            replace hx255_0 := (HB.out.cell (World.block_lt_of_cell? w _ hx255_0)).trans hx255_0
            replace hx255_1 := (HB.out.cell (World.block_lt_of_cell? w _ hx255_1)).trans hx255_1
            have HR255_1 := Aside0.mk hi255_1
            have HC255_1 := Aside0.mk hl255_1
            clear hi255_1 hl255_1
            replace p255 := eq_true p255
            replace q255 := eq_true q255
            refine start_ (n := 11) (S := fun w' => w'.cell? ⟨gb253, 0, none⟩ = some (.int .i64 a0_0) ∧ w'.cell? ⟨gb253, 1, none⟩ = some (.slice A0_1 l0_1.length c0_1) ∧ w'.cell? ⟨gb253, 2, none⟩ = some (.slice (some ad255) l0_2.length c0_2) ∧ w'.cell? (ad255.add (((ji14)).toNat * 2)) = some (.bool ((rd_T46 l0_2 (ji14)).f0)) ∧ w'.cell? ⟨(ad255.add (((ji14)).toNat * 2)).block, (ad255.add (((ji14)).toNat * 2)).off + 1, none⟩ = some (.slice A255_1 ((rd_T46 l0_2 (ji14)).f1).length c255_1)) (ds := []) #[false, false, false, false, false, false, false, false, false, false, false] (by kernel_rfl) rfl rfl ⟨(blk_cell BK253.out 0).trans rfl, (blk_cell BK253.out 1).trans rfl, (blk_cell BK253.out 2).trans rfl, ((HB.out.cell (World.block_lt_of_cell? w _ hw255_0)).trans hw255_0), ((HB.out.cell (World.block_lt_of_cell? w _ hw255_1)).trans hw255_1)⟩ (fun hHeld => ?_); refine with_tabW table_Row.tab6 table_Row.bits6 (fun HT_ HW_ => ?_)
            generalize w20.drew = w22 at BK253 HB HR255_1 hx255_0 hx255_1 hHeld ⊢
            refine pure_ (i := 0) (N := some 21) (v := ?_) (a' := ?_) #[true, false, false, false, false, false, false, false, false, false, false] rfl rfl (any_of HT_.out (by kernel_rfl)) (fun _ _ _ h => h) (Or.inl ⟨by rfl, ?_⟩) ?_ ?_
            rotate_left
            · intro w'
              go_simp
              with_reducible rfl
            rotate_left
            · simp only [Act.put, List.setIfInBounds_toArray, List.set_cons_zero, List.set_cons_succ, i64_w, i32_w]
              rfl
            refine pure_ (i := 2) (N := some 23) (v := ?_) (a' := ?_) #[true, false, true, false, false, false, false, false, false, false, false] rfl rfl (any_of HT_.out (by kernel_rfl)) (fun _ _ _ h => h) (Or.inl ⟨by rfl, ?_⟩) ?_ ?_
            rotate_left
            · intro w'
              go_simp
              with_reducible rfl
            rotate_left
            · simp only [Act.put, List.setIfInBounds_toArray, List.set_cons_zero, List.set_cons_succ, i64_w, i32_w]
              rfl
            refine pure_ (i := 4) (N := some 25) (v := ?_) (a' := ?_) #[true, false, true, false, true, false, false, false, false, false, false] rfl rfl (any_of HT_.out (by kernel_rfl)) (fun _ _ _ h => h) (Or.inl ⟨by rfl, ?_⟩) ?_ ?_
            rotate_left
            · intro w'
              go_simp
              with_reducible rfl
            rotate_left
            · simp only [Act.put, List.setIfInBounds_toArray, List.set_cons_zero, List.set_cons_succ, i64_w, i32_w]
              rfl
            refine pure_ (i := 5) (N := some 26) (v := ?_) (a' := ?_) #[true, false, true, false, true, true, false, false, false, false, false] rfl rfl (any_of HT_.out (by kernel_rfl)) (fun _ _ _ h => h) (Or.inl ⟨by rfl, ?_⟩) ?_ ?_
            rotate_left
            · intro w'
              go_simp
              with_reducible rfl
            rotate_left
            · simp only [Act.put, List.setIfInBounds_toArray, List.set_cons_zero, List.set_cons_succ, i64_w, i32_w]
              rfl
            refine take_ (i := 1) (N := some 22) (v := ?_) (a' := ?_) #[true, true, true, false, true, true, false, false, false, false, false] rfl rfl (take_ofW HT_.out HW_.out (by kernel_rfl)) (fun _ _ _ h => h) (Or.inl ⟨by rfl, ?_⟩) hHeld ?_ ?_
            rotate_left
            · rintro w' ⟨s0, s1, s2, s3, s4⟩
              go_simp
              with_reducible rfl
            rotate_left
            · simp only [Act.put, List.setIfInBounds_toArray, List.set_cons_zero, List.set_cons_succ, i64_w, i32_w]
              rfl
            refine take_ (i := 3) (N := some 24) (v := ?_) (a' := ?_) #[true, true, true, true, true, true, false, false, false, false, false] rfl rfl (take_ofW HT_.out HW_.out (by kernel_rfl)) (fun _ _ _ h => h) (Or.inl ⟨by rfl, ?_⟩) hHeld ?_ ?_
            rotate_left
            · rintro w' ⟨s0, s1, s2, s3, s4⟩
              go_simp
              with_reducible rfl
            rotate_left
            · simp only [Act.put, List.setIfInBounds_toArray, List.set_cons_zero, List.set_cons_succ, i64_w, i32_w]
              rfl
            refine pure_ (i := 6) (N := some 27) (v := ?_) (a' := ?_) #[true, true, true, true, true, true, true, false, false, false, false] rfl rfl (any_of HT_.out (by kernel_rfl)) (fun _ _ _ h => h) (Or.inl ⟨by rfl, ?_⟩) ?_ ?_
            rotate_left
            · intro w'
              go_simp
              with_reducible rfl
            rotate_left
            · simp only [Act.put, List.setIfInBounds_toArray, List.set_cons_zero, List.set_cons_succ, i64_w, i32_w]
              rfl
            refine take_ (i := 7) (N := some 28) (v := ?_) (a' := ?_) #[true, true, true, true, true, true, true, true, false, false, false] rfl rfl (take_ofW HT_.out HW_.out (by kernel_rfl)) (fun _ _ _ h => h) (Or.inl ⟨by rfl, ?_⟩) hHeld ?_ ?_
            rotate_left
            · rintro w' ⟨s0, s1, s2, s3, s4⟩
              go_simp
              with_reducible rfl
            rotate_left
            · simp only [Act.put, List.setIfInBounds_toArray, List.set_cons_zero, List.set_cons_succ, i64_w, i32_w]
              rfl
            refine one_ (i := 8) (N := some 29) #[true, true, true, true, true, true, true, true, true, false, false] rfl rfl (one_of HT_.out (by kernel_rfl)) (by decide) (fun K hK => ?_)
            refine goes_ Tryz.func63 (by kernel_rfl) rfl #[.slice A0_1 l0_1.length c0_1, .agg #[.bool ((rd_T46 l0_2 (ji14)).f0), .slice A255_1 ((rd_T46 l0_2 (ji14)).f1).length c255_1]] (by rfl) rfl rfl (by (try simp only [List.map_toArray, List.map_cons, List.map_nil]); first | done | (simp only [hji14]; rfl) | rfl | (simp only [List.length_drop, List.length_take]; rfl)) ?_
            with_reducible refine (table_row.calls _ _ l0_1 ((rd_T46 l0_2 (ji14)).f0) _ _ ((rd_T46 l0_2 (ji14)).f1) t256 _ ?side1 ?side2 ?side3 ?side4 A17.out).mono ?_
            (case side1 => repeat (first | exact (Kd.C_below HR0_1.out HB.out) | (with_reducible refine Kd.C_alloc ?_ _) | (with_reducible refine Kd.C_drewN ?_ _) | (with_reducible refine Kd.C_drew ?_)))
            (case side2 => exact HC0_1.out)
            (case side3 => repeat (first | exact (Kd.C_below HR255_1.out HB.out) | (with_reducible refine Kd.C_alloc ?_ _) | (with_reducible refine Kd.C_drewN ?_ _) | (with_reducible refine Kd.C_drew ?_)))
            (case side4 => exact HC255_1.out)
            rintro e w23 ⟨v257, rfl, ho0, hb⟩
            refine ⟨_, rfl, ?_⟩
            have n0_ := Aside0.mk (Kd.R_lower ho0 (below_size HB.out))
            have n1_ := Aside0.mk (blk_below (g := gb253) (o := .cells #[.int .i64 a0_0, .slice A0_1 l0_1.length c0_1, .slice (some ad255) l0_2.length c0_2] 35 (0, 0)) BK253.out hb)
            have n2_ := Aside0.mk (below_step HB.out hb)
            clear BK253
            clear HB
            have HO258 := n0_
            have BK253 := n1_
            have HB := n2_
            clear n0_ n1_ n2_
            (try clear hb)
            (try clear hb2)
            (try clear hk)
            (try clear hi)
            (try clear ho0)
            refine hK.out _ _ ⟨(blk_cell BK253.out 0).trans rfl, (blk_cell BK253.out 1).trans rfl, (blk_cell BK253.out 2).trans rfl, ((HB.out.cell (World.block_lt_of_cell? w _ hw255_0)).trans hw255_0), ((HB.out.cell (World.block_lt_of_cell? w _ hw255_1)).trans hw255_1)⟩ (fun hHeld => ?_)
            clear hK K
            refine norm_ (a' := ?_) ?_ ?_
            rotate_left
            · show Act.put _ (some 29) _ = _
              simp only [Act.put, List.setIfInBounds_toArray, List.set_cons_zero, List.set_cons_succ, i64_w, i32_w]
              rfl
            refine pure_ (i := 9) (N := some 4) (v := ?_) (a' := ?_) #[true, true, true, true, true, true, true, true, true, true, false] rfl rfl (any_of HT_.out (by kernel_rfl)) (fun _ _ _ h => h) (Or.inl ⟨by rfl, ?_⟩) ?_ ?_
            rotate_left
            · intro w'
              go_simp
              with_reducible rfl
            rotate_left
            · simp only [Act.put, List.setIfInBounds_toArray, List.set_cons_zero, List.set_cons_succ, i64_w, i32_w]
              rfl
            refine pure_ (i := 10) (N := some 5) (v := ?_) (a' := ?_) #[true, true, true, true, true, true, true, true, true, true, true] rfl rfl (any_of HT_.out (by kernel_rfl)) (fun _ _ _ h => h) (Or.inl ⟨by rfl, ?_⟩) ?_ ?_
            rotate_left
            · intro w'
              go_simp
              with_reducible rfl
            rotate_left
            · simp only [Act.put, List.setIfInBounds_toArray, List.set_cons_zero, List.set_cons_succ, i64_w, i32_w]
              rfl
            refine done_ (done_of HT_.out (by kernel_rfl)) ?_
            try go_wp2
            go_ret2
            exact ⟨_, by first | rfl | (simp [errW_none, errW_some] <;> rfl) | (simp only [← hji14]; first | rfl | (simp [errW_none, errW_some] <;> rfl)) | (simp [*, errW_none, errW_some] <;> rfl), by (with_reducible repeat (first | apply Kd.R_alloc | apply Kd.R_drewN | apply Kd.R_drew)); exact HO258.out, by repeat (first | (with_reducible first | exact HB.out | apply below_alloc | apply pw_below_drewN | apply below_drew1 | refine below_set ?_ GE253.out) | exact HB.out)⟩
          · rw [if_neg c16] at H
            exact absurd H (by simp)
        · rw [if_neg c15] at H
          exact absurd H (by simp)
  · rw [if_neg c4] at H
    have c4b0 : (t254 == 0) = false := beq_eq_false_iff_ne.mpr c4
    have c4b1 : (t254 != 0) = true := bne_iff_ne.mpr c4
    simp only [Option.some.injEq, Prod.mk.injEq] at H
    obtain ⟨rfl, rfl⟩ := H
    go_enter Tryz.func21, Tryz.ntmps21
    go_wp2_with (first | ((with_reducible refine gate_dst (N := 2) rfl ?_); (try (refine gate_guard (by rfl) ?_; dsimp only)); refine box_event ?hg (N := 2) ?hd (cs := #[.int .i64 a0_0, .slice A0_1 l0_1.length c0_1, .slice A0_2 l0_2.length c0_2]) (t := 35) ?hr ?_; (case hd => rfl); (case hg => rfl); (case hr => go_simp; try rfl); intro gb253 hg w24 hbox hb; have n0_ := Aside0.mk (below_step HB.out hb); have n1_ := Aside0.mk (hbox); have n3_ := Aside0.mk ((by rw [hg]; exact (below_size HB.out) : w.heap.size ≤ gb253)); clear HB; have HB := n0_; have BK253 := n1_; have GE253 := n3_; clear n0_ n1_ n3_; clear hb hbox hg; have hcz25_0 : w24.cell? ⟨gb253, 0, none⟩ = some (.int .i64 a0_0) := (blk_cell BK253.out 0).trans rfl; have hcz25_1 : w24.cell? ⟨gb253, 1, none⟩ = some (.slice A0_1 l0_1.length c0_1) := (blk_cell BK253.out 1).trans rfl; have hcz25_2 : w24.cell? ⟨gb253, 2, none⟩ = some (.slice A0_2 l0_2.length c0_2) := (blk_cell BK253.out 2).trans rfl; have hfz25_0 := blk_frozen BK253.out 0; have hfz25_1 := blk_frozen BK253.out 1; have hfz25_2 := blk_frozen BK253.out 2) | ((with_reducible refine gate_callee (f := 34) rfl ?_); refine goesL_ (some 8) rfl rfl Tryz.func34 (by kernel_rfl) rfl #[.agg #[.int .i64 a0_0, .slice A0_1 l0_1.length c0_1, .slice A0_2 l0_2.length c0_2]] rfl (by (try simp only [List.map_toArray, List.map_cons, List.map_nil]); first | done | rfl) ?_; (with_reducible refine (table_Validate.calls k a0_0 _ _ l0_1 _ _ l0_2 t254 _ ?side1 ?side2 ?side3 ?side4 A3.out).mono ?_); (case side1 => repeat (first | exact (Kd.C_below HR0_1.out HB.out) | (with_reducible refine Kd.C_alloc ?_ _) | (with_reducible refine Kd.C_drewN ?_ _) | (with_reducible refine Kd.C_drew ?_))); (case side2 => exact HC0_1.out); (case side3 => repeat (first | exact (Kd.C_below HR0_2.out HB.out) | (with_reducible refine Kd.C_alloc ?_ _) | (with_reducible refine Kd.C_drewN ?_ _) | (with_reducible refine Kd.C_drew ?_))); (case side4 => exact HC0_2.out); rintro e w26 ⟨rfl, hb⟩; refine ⟨_, rfl, ?_⟩; have n0_ := Aside0.mk (blk_below (g := gb253) (o := .cells #[.int .i64 a0_0, .slice A0_1 l0_1.length c0_1, .slice A0_2 l0_2.length c0_2] 35 (0, 0)) BK253.out hb); have n1_ := Aside0.mk (below_step HB.out hb); clear BK253; clear HB; have BK253 := n0_; have HB := n1_; clear n0_ n1_; (try clear hb); (try clear hb2); (try clear hk); (try clear hi)))
    go_ret2
    exact ⟨_, rfl, by first | exact Kd.R_nil _ _ _ _ _ | exact Kd.N_nil _ _ _ _ _ | exact Kd.V_nil _ _ _ _ _ | exact Kd.Q_nil _ _ _ _ _ | exact Kd.S_nil _ _ _ _ _, by repeat (first | (with_reducible first | exact HB.out | apply below_alloc | apply pw_below_drewN | apply below_drew1 | refine below_set ?_ GE253.out) | exact HB.out)⟩
end Go.Proofs.YtldpdidlfbphcaaGreatDoor.P
end
section
namespace Go.Proofs.YtldpdidlfbphcaaGreatDoor.P
open Go.RowKit Go.Proofs.YtldpdidlfbphcaaGreatDoorW.PrintWords Go.Proofs.YtldpdidlfbphcaaGreatDoorW.PrintLast Go.Proofs.YtldpdidlfbphcaaGreatDoorW.PrintMore
theorem k46_mkF (W : World) (ok : Nat → Prop) (x : S46) {A1 : Option Addr} {c1 : Nat} (l1 : x.f1.length ≤ c1) (g1 : Kd.F k25 W ok A1 x.f1.length x.f1) : Kd.FK k46 W ok x [.bool x.f0, .slice A1 x.f1.length c1] := fun W2 hW => k46_mk W2 x l1 (g1 W2 hW)
attribute [local go_sem] max2_int min2_int max_two min_two max_three min_three max_four min_four
def known.f0 (k : Nat)  : Option (Bool) := (some (([(⟨(⟨#[65]⟩ : ByteArray), 4, 3, false⟩ : S23)] : List (S23)) : List (S23))).bind fun y182 => ((cabinetryref01_Text.f (⟨#[97, 98]⟩ : ByteArray)).bind fun bt185 => ((some (([(⟨false, (([(⟨bt185.1, bt185.2.1, bt185.2.2⟩ : S25)] : List (S25)))⟩ : S46)] : List (S46)) : List (S46))).bind fun y191 => ((table_Header.f k 0 y182 y191).bind fun bt195 => ((table_Row.f k 0 y182 y191 1).bind fun bt199 => ((cabinetryref01_Text.f (⟨#[97, 98, 32]⟩ : ByteArray)).bind fun bt203 => ((table_Fit.f (⟨#[65]⟩ : ByteArray) 4 2 false 0 bt203.1 bt203.2.1 bt203.2.2).bind fun bt206 => (if bt195.2 = 0 then (if (bt195.1.length : Int) = 29 then (if bt199.2 = 0 then (if (strOfNums bt199.1).toList = ([32, 97, 98, 32] : List UInt8) then (if bt206.2.2.2 = 0 then (some (bt206.2.2.1.toList == ([97, 98] : List UInt8))) else (some false)) else (some false)) else (some false)) else (some false)) else (some false))))))))
theorem known_size : (Tryz.prog.info? 25).map (·.size) = some 3 := by kernel_rfl
set_option maxHeartbeats 8000000 in
set_option maxRecDepth 100000 in
theorem known_calls (k : Nat) (w : World) (h : known.f0 k = some true) :
    Calls Tryz.prog 12 #[] w fun e w' => e = .returned (.bool true) ∧ Below w.heap.size w w' := by
  have hu23 := Tryz.underlying23
  have hu46 := Tryz.underlying46
  have hu35 := Tryz.underlying35
  have hu25 := Tryz.underlying25
  have HB := Aside0.mk (Below.refl w.heap.size w)
  have H : ((some (([(⟨(⟨#[65]⟩ : ByteArray), 4, 3, false⟩ : S23)] : List (S23)) : List (S23))).bind fun y182 => ((cabinetryref01_Text.f (⟨#[97, 98]⟩ : ByteArray)).bind fun bt185 => ((some (([(⟨false, (([(⟨bt185.1, bt185.2.1, bt185.2.2⟩ : S25)] : List (S25)))⟩ : S46)] : List (S46)) : List (S46))).bind fun y191 => ((table_Header.f k 0 y182 y191).bind fun bt195 => ((table_Row.f k 0 y182 y191 1).bind fun bt199 => ((cabinetryref01_Text.f (⟨#[97, 98, 32]⟩ : ByteArray)).bind fun bt203 => ((table_Fit.f (⟨#[65]⟩ : ByteArray) 4 2 false 0 bt203.1 bt203.2.1 bt203.2.2).bind fun bt206 => (if bt195.2 = 0 then (if (bt195.1.length : Int) = 29 then (if bt199.2 = 0 then (if (strOfNums bt199.1).toList = ([32, 97, 98, 32] : List UInt8) then (if bt206.2.2.2 = 0 then (some (bt206.2.2.1.toList == ([97, 98] : List UInt8))) else (some false)) else (some false)) else (some false)) else (some false)) else (some false))))))))) = some true := h
  clear h
  obtain ⟨y182, hy182⟩ : ∃ y_ : List (S23), y_ = (([(⟨(⟨#[65]⟩ : ByteArray), 4, 3, false⟩ : S23)] : List (S23))) := ⟨_, rfl⟩
  replace H : ((cabinetryref01_Text.f (⟨#[97, 98]⟩ : ByteArray)).bind fun bt185 => ((some (([(⟨false, (([(⟨bt185.1, bt185.2.1, bt185.2.2⟩ : S25)] : List (S25)))⟩ : S46)] : List (S46)) : List (S46))).bind fun y191 => ((table_Header.f k 0 y182 y191).bind fun bt195 => ((table_Row.f k 0 y182 y191 1).bind fun bt199 => ((cabinetryref01_Text.f (⟨#[97, 98, 32]⟩ : ByteArray)).bind fun bt203 => ((table_Fit.f (⟨#[65]⟩ : ByteArray) 4 2 false 0 bt203.1 bt203.2.1 bt203.2.2).bind fun bt206 => (if bt195.2 = 0 then (if (bt195.1.length : Int) = 29 then (if bt199.2 = 0 then (if (strOfNums bt199.1).toList = ([32, 97, 98, 32] : List UInt8) then (if bt206.2.2.2 = 0 then (some (bt206.2.2.1.toList == ([97, 98] : List UInt8))) else (some false)) else (some false)) else (some false)) else (some false)) else (some false)))))))) = some true := by rw [hy182]; exact H
  have Ny182 := Aside0.mk hy182
  clear hy182
  replace H := Option.bind_eq_some_iff.mp H
  obtain ⟨⟨t185, t186, t187⟩, A10, H⟩ := H
  replace H : ((some (([(⟨false, (([(⟨t185, t186, t187⟩ : S25)] : List (S25)))⟩ : S46)] : List (S46)) : List (S46))).bind fun y191 => ((table_Header.f k 0 y182 y191).bind fun bt195 => ((table_Row.f k 0 y182 y191 1).bind fun bt199 => ((cabinetryref01_Text.f (⟨#[97, 98, 32]⟩ : ByteArray)).bind fun bt203 => ((table_Fit.f (⟨#[65]⟩ : ByteArray) 4 2 false 0 bt203.1 bt203.2.1 bt203.2.2).bind fun bt206 => (if bt195.2 = 0 then (if (bt195.1.length : Int) = 29 then (if bt199.2 = 0 then (if (strOfNums bt199.1).toList = ([32, 97, 98, 32] : List UInt8) then (if bt206.2.2.2 = 0 then (some (bt206.2.2.1.toList == ([97, 98] : List UInt8))) else (some false)) else (some false)) else (some false)) else (some false)) else (some false))))))) = some true := H
  have A1 := Aside0.mk A10
  clear A10
  obtain ⟨y188, hy188⟩ : ∃ y_ : List (S25), y_ = (([(⟨t185, t186, t187⟩ : S25)] : List (S25))) := ⟨_, rfl⟩
  replace H : ((some (([(⟨false, y188⟩ : S46)] : List (S46)) : List (S46))).bind fun y191 => ((table_Header.f k 0 y182 y191).bind fun bt195 => ((table_Row.f k 0 y182 y191 1).bind fun bt199 => ((cabinetryref01_Text.f (⟨#[97, 98, 32]⟩ : ByteArray)).bind fun bt203 => ((table_Fit.f (⟨#[65]⟩ : ByteArray) 4 2 false 0 bt203.1 bt203.2.1 bt203.2.2).bind fun bt206 => (if bt195.2 = 0 then (if (bt195.1.length : Int) = 29 then (if bt199.2 = 0 then (if (strOfNums bt199.1).toList = ([32, 97, 98, 32] : List UInt8) then (if bt206.2.2.2 = 0 then (some (bt206.2.2.1.toList == ([97, 98] : List UInt8))) else (some false)) else (some false)) else (some false)) else (some false)) else (some false))))))) = some true := by rw [hy188]; exact H
  have Ny188 := Aside0.mk hy188
  clear hy188
  obtain ⟨y191, hy191⟩ : ∃ y_ : List (S46), y_ = (([(⟨false, y188⟩ : S46)] : List (S46))) := ⟨_, rfl⟩
  replace H : ((table_Header.f k 0 y182 y191).bind fun bt195 => ((table_Row.f k 0 y182 y191 1).bind fun bt199 => ((cabinetryref01_Text.f (⟨#[97, 98, 32]⟩ : ByteArray)).bind fun bt203 => ((table_Fit.f (⟨#[65]⟩ : ByteArray) 4 2 false 0 bt203.1 bt203.2.1 bt203.2.2).bind fun bt206 => (if bt195.2 = 0 then (if (bt195.1.length : Int) = 29 then (if bt199.2 = 0 then (if (strOfNums bt199.1).toList = ([32, 97, 98, 32] : List UInt8) then (if bt206.2.2.2 = 0 then (some (bt206.2.2.1.toList == ([97, 98] : List UInt8))) else (some false)) else (some false)) else (some false)) else (some false)) else (some false)))))) = some true := by rw [hy191]; exact H
  have Ny191 := Aside0.mk hy191
  clear hy191
  replace H := Option.bind_eq_some_iff.mp H
  obtain ⟨⟨t195, t198⟩, A20, H⟩ := H
  replace H : ((table_Row.f k 0 y182 y191 1).bind fun bt199 => ((cabinetryref01_Text.f (⟨#[97, 98, 32]⟩ : ByteArray)).bind fun bt203 => ((table_Fit.f (⟨#[65]⟩ : ByteArray) 4 2 false 0 bt203.1 bt203.2.1 bt203.2.2).bind fun bt206 => (if t198 = 0 then (if (t195.length : Int) = 29 then (if bt199.2 = 0 then (if (strOfNums bt199.1).toList = ([32, 97, 98, 32] : List UInt8) then (if bt206.2.2.2 = 0 then (some (bt206.2.2.1.toList == ([97, 98] : List UInt8))) else (some false)) else (some false)) else (some false)) else (some false)) else (some false))))) = some true := H
  have A2 := Aside0.mk A20
  clear A20
  replace H := Option.bind_eq_some_iff.mp H
  obtain ⟨⟨t199, t202⟩, A30, H⟩ := H
  replace H : ((cabinetryref01_Text.f (⟨#[97, 98, 32]⟩ : ByteArray)).bind fun bt203 => ((table_Fit.f (⟨#[65]⟩ : ByteArray) 4 2 false 0 bt203.1 bt203.2.1 bt203.2.2).bind fun bt206 => (if t198 = 0 then (if (t195.length : Int) = 29 then (if t202 = 0 then (if (strOfNums t199).toList = ([32, 97, 98, 32] : List UInt8) then (if bt206.2.2.2 = 0 then (some (bt206.2.2.1.toList == ([97, 98] : List UInt8))) else (some false)) else (some false)) else (some false)) else (some false)) else (some false)))) = some true := H
  have A3 := Aside0.mk A30
  clear A30
  replace H := Option.bind_eq_some_iff.mp H
  obtain ⟨⟨t203, t204, t205⟩, A40, H⟩ := H
  replace H : ((table_Fit.f (⟨#[65]⟩ : ByteArray) 4 2 false 0 t203 t204 t205).bind fun bt206 => (if t198 = 0 then (if (t195.length : Int) = 29 then (if t202 = 0 then (if (strOfNums t199).toList = ([32, 97, 98, 32] : List UInt8) then (if bt206.2.2.2 = 0 then (some (bt206.2.2.1.toList == ([97, 98] : List UInt8))) else (some false)) else (some false)) else (some false)) else (some false)) else (some false))) = some true := H
  have A4 := Aside0.mk A40
  clear A40
  replace H := Option.bind_eq_some_iff.mp H
  obtain ⟨⟨t206, t207, t208, t209⟩, A50, H⟩ := H
  replace H : (if t198 = 0 then (if (t195.length : Int) = 29 then (if t202 = 0 then (if (strOfNums t199).toList = ([32, 97, 98, 32] : List UInt8) then (if t209 = 0 then (some (t208.toList == ([97, 98] : List UInt8))) else (some false)) else (some false)) else (some false)) else (some false)) else (some false)) = some true := H
  have A5 := Aside0.mk A50
  clear A50
  by_cases c6 : t198 = 0
  · rw [if_pos c6] at H
    have c6b0 : (t198 == 0) = true := beq_iff_eq.mpr c6
    have c6b1 : (t198 != 0) = false := bne_eq_false_iff_eq.mpr c6
    clear c6
    by_cases c7 : (t195.length : Int) = 29
    · rw [if_pos c7] at H
      have c7b0 : ((t195.length : Int) == 29) = true := beq_iff_eq.mpr c7
      have c7b1 : ((t195.length : Int) != 29) = false := bne_eq_false_iff_eq.mpr c7
      clear c7
      by_cases c8 : t202 = 0
      · rw [if_pos c8] at H
        have c8b0 : (t202 == 0) = true := beq_iff_eq.mpr c8
        have c8b1 : (t202 != 0) = false := bne_eq_false_iff_eq.mpr c8
        clear c8
        by_cases c9 : (strOfNums t199).toList = ([32, 97, 98, 32] : List UInt8)
        · rw [if_pos c9] at H
          have c9b0 : ((strOfNums t199).toList == ([32, 97, 98, 32] : List UInt8)) = true := beq_iff_eq.mpr c9
          have c9b1 : ((strOfNums t199).toList != ([32, 97, 98, 32] : List UInt8)) = false := bne_eq_false_iff_eq.mpr c9
          clear c9
          by_cases c10 : t209 = 0
          · rw [if_pos c10] at H
            have c10b0 : (t209 == 0) = true := beq_iff_eq.mpr c10
            have c10b1 : (t209 != 0) = false := bne_eq_false_iff_eq.mpr c10
            clear c10
            have HR := Option.some.inj H
            go_enter Tryz.func12, Tryz.ntmps12
            go_wp2_with (first | ((with_reducible refine gate_dst (N := 9) rfl ?_); (try (refine gate_guard (by rfl) ?_; dsimp only)); refine Kd.R_lit k23 _ 23 ?hg (N := 9) ?hd (xs := ([(⟨(⟨#[65]⟩ : ByteArray), 4, 3, false⟩ : S23)] : List (S23))) (inner := [.string (⟨#[65]⟩ : ByteArray), .int .i64 4, .int .i64 3, .bool false]) (ok := fun _ => True) (okp := fun _ => True) ?hr ?hp (fun _ hk => hk) trivial (Below.refl _ _) (Nat.le_refl _) (by simp) ?_; (case hd => rfl); (case hg => rfl); (case hr => go_simp; try rfl); (case hp => exact (Reps.c4 (show Kd.M k23 _ _ _ (⟨(⟨#[65]⟩ : ByteArray), 4, 3, false⟩ : S23) [.string (⟨#[65]⟩ : ByteArray), .int .i64 4, .int .i64 3, .bool false] from (k23_mkM _ _ _ (⟨(⟨#[65]⟩ : ByteArray), 4, 3, false⟩ : S23) )) (Reps.none _ _))); intro v183 w11 ho12 hb hg_ hnew_; clear hg_ hnew_; (first | rw [← Ny182.out] at ho12 | (simp only [Int.reduceToNat] at ho12; rw [← Ny182.out] at ho12)); have n0_ := Aside0.mk (Kd.R_lower ho12 (below_size (by repeat (first | (with_reducible first | exact HB.out | apply below_alloc | apply pw_below_drewN | apply below_drew1) | exact HB.out)))); have n1_ := Aside0.mk (below_step (by repeat (first | (with_reducible first | exact HB.out | apply below_alloc | apply pw_below_drewN | apply below_drew1) | exact HB.out)) hb); clear HB; have HO184 := n0_; have HB := n1_; clear n0_ n1_; clear hb ho12) | ((with_reducible refine gate_callee (f := 46) rfl ?_); refine goesL_ (some 10) rfl rfl Tryz.func46 (by kernel_rfl) rfl #[.string (⟨#[97, 98]⟩ : ByteArray)] rfl (by (try simp only [List.map_toArray, List.map_cons, List.map_nil]); first | done | rfl) ?_; (with_reducible refine (cabinetryref01_Text.calls (⟨#[97, 98]⟩ : ByteArray) t185 t186 t187 _ A1.out).mono ?_); rintro e w13 ⟨rfl, hb⟩; refine ⟨_, rfl, ?_⟩; have n0_ := Aside0.mk (Kd.R_below HO184.out hb); have n1_ := Aside0.mk (below_step (by repeat (first | (with_reducible first | exact HB.out | apply below_alloc | apply pw_below_drewN | apply below_drew1) | exact HB.out)) hb); clear HO184; clear HB; have HO184 := n0_; have HB := n1_; clear n0_ n1_; (try clear hb); (try clear hb2); (try clear hk); (try clear hi)) | ((with_reducible refine gate_dst (N := 11) rfl ?_); (try (refine gate_guard (by rfl) ?_; dsimp only)); refine Kd.R_lit k25 _ 25 ?hg (N := 11) ?hd (xs := ([(⟨t185, t186, t187⟩ : S25)] : List (S25))) (inner := [.int .i64 t185, .int .i64 t186, .string t187]) (ok := fun _ => True) (okp := fun _ => True) ?hr ?hp (fun _ hk => hk) trivial (Below.refl _ _) (Nat.le_refl _) (by simp) ?_; (case hd => rfl); (case hg => rfl); (case hr => go_simp; try rfl); (case hp => exact (Reps.c3 (show Kd.M k25 _ _ _ (⟨t185, t186, t187⟩ : S25) [.int .i64 t185, .int .i64 t186, .string t187] from (k25_mkM _ _ _ (⟨t185, t186, t187⟩ : S25) )) (Reps.none _ _))); intro v189 w14 ho15 hb hg_ hnew_; clear hg_ hnew_; (first | rw [← Ny188.out] at ho15 | (simp only [Int.reduceToNat] at ho15; rw [← Ny188.out] at ho15)); have n0_ := Aside0.mk (Kd.R_below HO184.out hb); have n1_ := Aside0.mk (Kd.R_lower ho15 (below_size (by repeat (first | (with_reducible first | exact HB.out | apply below_alloc | apply pw_below_drewN | apply below_drew1) | exact HB.out)))); have n2_ := Aside0.mk (below_step (by repeat (first | (with_reducible first | exact HB.out | apply below_alloc | apply pw_below_drewN | apply below_drew1) | exact HB.out)) hb); clear HO184; clear HB; have HO184 := n0_; have HO190 := n1_; have HB := n2_; clear n0_ n1_ n2_; clear hb ho15; obtain ⟨Ao16, co16, eo16⟩ := Kd.R_slice HO190.out; subst eo16) | ((with_reducible refine gate_dst (N := 13) rfl ?_); (try (refine gate_guard (by rfl) ?_; dsimp only)); refine Kd.N_lit k46 _ 46 ?hg (N' := 13) ?hd (xs := ([(⟨false, y188⟩ : S46)] : List (S46))) (inner := [.bool false, .slice Ao16 y188.length co16]) (ok := (fun k_ => some k_ ≠ (v183 : Value).ownBlock)) (okp := (fun k_ => some k_ ≠ (v183 : Value).ownBlock)) ?hr ?hp (fun _ hk => hk) ((show ∀ k_, w14.heap.size ≤ k_ → (fun k_ => some k_ ≠ (v183 : Value).ownBlock) k_ from fun k_ hk => Kd.fresh' (Kd.R_lt HO184.out) k_ hk) _ (Nat.le_refl _)) (Below.refl _ _) (Nat.le_refl _) (by simp) ?_; (case hd => rfl); (case hg => rfl); (case hr => go_simp; try rfl); (case hp => exact (Reps.c2 (show Kd.FK k46 _ _ (⟨false, y188⟩ : S46) [.bool false, .slice Ao16 y188.length co16] from (k46_mkF _ _ (⟨false, y188⟩ : S46) (Kd.R_reads' (Kd.R_mono (ok' := (fun k_ => some k_ ≠ (v183 : Value).ownBlock)) (Kd.R_apart' (HO190.out) (Kd.R_typed HO184.out) (by decide)) (fun k_ hk => hk.2))).2.1 (Kd.R_F (Kd.R_mono (ok' := (fun k_ => some k_ ≠ (v183 : Value).ownBlock)) (Kd.R_apart' (HO190.out) (Kd.R_typed HO184.out) (by decide)) (fun k_ hk => hk.2))))) (Reps.none _ _))); intro v192 w17 ho18 hb hg_ hnew_; clear hg_ hnew_; (first | rw [← Ny191.out] at ho18 | (simp only [Int.reduceToNat] at ho18; rw [← Ny191.out] at ho18)); have n0_ := Aside0.mk (Kd.R_below HO184.out hb); have n1_ := Aside0.mk (Kd.N_lower ho18 (below_size (by repeat (first | (with_reducible first | exact HB.out | apply below_alloc | apply pw_below_drewN | apply below_drew1) | exact HB.out)))); have n2_ := Aside0.mk (below_step (by repeat (first | (with_reducible first | exact HB.out | apply below_alloc | apply pw_below_drewN | apply below_drew1) | exact HB.out)) hb); clear HO184; clear HB; clear HO190; have HO184 := n0_; have HO193 := n1_; have HB := n2_; clear n0_ n1_ n2_; clear hb ho18; obtain ⟨Ao19, co19, eo19⟩ := Kd.N_slice HO193.out; subst eo19; obtain ⟨Ao20, co20, eo20⟩ := Kd.R_slice HO184.out; subst eo20) | ((with_reducible refine gate_dst (N := 1) rfl ?_); (try (refine gate_guard (by rfl) ?_; dsimp only)); refine box_event ?hg (N := 1) ?hd (cs := #[.int .i64 0, .slice none 0 0, .slice none 0 0]) (t := 35) ?hr ?_; (case hd => rfl); (case hg => rfl); (case hr => go_simp; try rfl); intro gb194 hg w21 hbox hb; have n0_ := Aside0.mk (Kd.R_below HO184.out hb); have n1_ := Aside0.mk (Kd.N_below (Kd.N_elderB HO193.out gb194 (Nat.le_of_eq hg.symm)) hb); have n2_ := Aside0.mk (below_step (by repeat (first | (with_reducible first | exact HB.out | apply below_alloc | apply pw_below_drewN | apply below_drew1) | exact HB.out)) hb); have n3_ := Aside0.mk (hbox); have n5_ := Aside0.mk ((by rw [hg]; exact (below_size (by repeat (first | (with_reducible first | exact HB.out | apply below_alloc | apply pw_below_drewN | apply below_drew1) | exact HB.out))) : w.heap.size ≤ gb194)); clear HO184; clear HO193; clear HB; have HO184 := n0_; have HO193 := n1_; have HB := n2_; have BK194 := n3_; have GE194 := n5_; clear n0_ n1_ n2_ n3_ n5_; clear hb hbox hg; have hcz22_0 : w21.cell? ⟨gb194, 0, none⟩ = some (.int .i64 0) := (blk_cell BK194.out 0).trans rfl; have hcz22_1 : w21.cell? ⟨gb194, 1, none⟩ = some (.slice none 0 0) := (blk_cell BK194.out 1).trans rfl; have hcz22_2 : w21.cell? ⟨gb194, 2, none⟩ = some (.slice none 0 0) := (blk_cell BK194.out 2).trans rfl; have hfz22_0 := blk_frozen BK194.out 0; have hfz22_1 := blk_frozen BK194.out 1; have hfz22_2 := blk_frozen BK194.out 2) | ((with_reducible refine gate_callee (f := 19) rfl ?_); refine goesL_ (some 17) rfl rfl Tryz.func19 (by kernel_rfl) rfl #[.agg #[.int .i64 0, .slice Ao20 y182.length co20, .slice Ao19 y191.length co19]] rfl (by (try simp only [List.map_toArray, List.map_cons, List.map_nil]); first | done | rfl) ?_; (with_reducible refine (table_Header.calls k 0 _ _ y182 _ _ y191 t195 t198 _ ?side1 ?side2 ?side3 ?side4 A2.out).mono ?_); (case side1 => refine (Kd.R_reads' (e := 23) (base := w.heap.size) (ok := fun k_ => True) (n := y182.length) (c := co20) ?_).2.2; exact (by (with_reducible repeat (first | apply Kd.R_alloc | apply Kd.R_drewN | apply Kd.R_drew)); exact (Kd.R_mono (Kd.R_far (p := ⟨gb194, 2, none⟩) (Kd.R_far (p := ⟨gb194, 1, none⟩) (Kd.R_far (p := ⟨gb194, 0, none⟩) (Kd.R_types HO184.out BK194.out (by decide)) (fun _ hk => hk.2) (.int .i64 0)) (fun _ hk => hk.2) (.slice Ao20 y182.length co20)) (fun _ hk => hk.2) (.slice Ao19 y191.length co19)) (fun _ h_ => h_.1)))); (case side2 => exact (Kd.R_reads' HO184.out).2.1); (case side3 => refine (Kd.N_reads' (e := 46) (base := w.heap.size) (ok := fun k_ => (some k_ ≠ (.slice Ao20 y182.length co20 : Value).ownBlock ∧ k_ ≠ gb194)) (n := y191.length) (c := co19) ?_).2.2; exact (by (with_reducible repeat (first | apply Kd.N_alloc | apply Kd.N_drewN | apply Kd.N_drew)); exact (Kd.N_mono (Kd.N_far (p := ⟨gb194, 2, none⟩) (Kd.N_far (p := ⟨gb194, 1, none⟩) (Kd.N_far (p := ⟨gb194, 0, none⟩) (Kd.N_mono HO193.out (fun k_ hk => (⟨hk, hk.2⟩ : _ ∧ k_ ≠ gb194))) (fun _ hk => hk.2) (.int .i64 0)) (fun _ hk => hk.2) (.slice Ao20 y182.length co20)) (fun _ hk => hk.2) (.slice Ao19 y191.length co19)) (fun _ h_ => h_.1)))); (case side4 => exact (Kd.N_reads' HO193.out).2.1); rintro e w23 ⟨v196, rfl, ho0, hb⟩; refine ⟨_, rfl, ?_⟩; have n0_ := Aside0.mk (Kd.R_below (by (with_reducible repeat (first | apply Kd.R_alloc | apply Kd.R_drewN | apply Kd.R_drew)); exact (Kd.R_mono (Kd.R_far (p := ⟨gb194, 2, none⟩) (Kd.R_far (p := ⟨gb194, 1, none⟩) (Kd.R_far (p := ⟨gb194, 0, none⟩) (Kd.R_types HO184.out BK194.out (by decide)) (fun _ hk => hk.2) (.int .i64 0)) (fun _ hk => hk.2) (.slice Ao20 y182.length co20)) (fun _ hk => hk.2) (.slice Ao19 y191.length co19)) (fun _ h_ => h_.1))) hb); have n1_ := Aside0.mk (Kd.N_elder' (by (with_reducible repeat (first | apply Kd.N_alloc | apply Kd.N_drewN | apply Kd.N_drew)); exact (Kd.N_mono (Kd.N_far (p := ⟨gb194, 2, none⟩) (Kd.N_far (p := ⟨gb194, 1, none⟩) (Kd.N_far (p := ⟨gb194, 0, none⟩) (Kd.N_mono HO193.out (fun k_ hk => (⟨hk, hk.2⟩ : _ ∧ k_ ≠ gb194))) (fun _ hk => hk.2) (.int .i64 0)) (fun _ hk => hk.2) (.slice Ao20 y182.length co20)) (fun _ hk => hk.2) (.slice Ao19 y191.length co19)) (fun _ h_ => h_.1))) (Kd.R_base ho0) hb); have n2_ := Aside0.mk (Kd.R_lower ho0 (below_size (by repeat (first | (with_reducible first | exact HB.out | apply below_alloc | apply pw_below_drewN | apply below_drew1 | refine below_set ?_ GE194.out) | exact HB.out)))); have n3_ := Aside0.mk (blk_below (g := gb194) (o := .cells #[.int .i64 0, .slice Ao20 y182.length co20, .slice Ao19 y191.length co19] 35 (0, 0)) (by (with_reducible repeat (first | refine blk_drewN ?_ _ | refine blk_drew ?_ | refine blk_alloc ?_ _)); refine blk_put (cs := #[.int .i64 0, .slice Ao20 y182.length co20, .slice none 0 0]) ?_ 2 _ rfl; (with_reducible repeat (first | refine blk_drewN ?_ _ | refine blk_drew ?_ | refine blk_alloc ?_ _)); refine blk_put (cs := #[.int .i64 0, .slice none 0 0, .slice none 0 0]) ?_ 1 _ rfl; (with_reducible repeat (first | refine blk_drewN ?_ _ | refine blk_drew ?_ | refine blk_alloc ?_ _)); refine blk_put (cs := #[.int .i64 0, .slice none 0 0, .slice none 0 0]) ?_ 0 _ rfl; (with_reducible repeat (first | refine blk_drewN ?_ _ | refine blk_drew ?_ | refine blk_alloc ?_ _)); exact BK194.out) hb); have n4_ := Aside0.mk (below_step (by repeat (first | (with_reducible first | exact HB.out | apply below_alloc | apply pw_below_drewN | apply below_drew1 | refine below_set ?_ GE194.out) | exact HB.out)) hb); clear HO184; clear HO193; clear BK194; clear HB; have HO184 := n0_; have HO193 := n1_; have HO197 := n2_; have BK194 := n3_; have HB := n4_; clear n0_ n1_ n2_ n3_ n4_; (try clear hb); (try clear hb2); (try clear hk); (try clear hi); (try clear ho0); have hcz24_0 : w23.cell? ⟨gb194, 0, none⟩ = some (.int .i64 0) := (blk_cell BK194.out 0).trans rfl; have hcz24_1 : w23.cell? ⟨gb194, 1, none⟩ = some (.slice Ao20 y182.length co20) := (blk_cell BK194.out 1).trans rfl; have hcz24_2 : w23.cell? ⟨gb194, 2, none⟩ = some (.slice Ao19 y191.length co19) := (blk_cell BK194.out 2).trans rfl; have hfz24_0 := blk_frozen BK194.out 0; have hfz24_1 := blk_frozen BK194.out 1; have hfz24_2 := blk_frozen BK194.out 2) | ((with_reducible refine gate_callee (f := 21) rfl ?_); refine goesL_ (some 22) rfl rfl Tryz.func21 (by kernel_rfl) rfl #[.agg #[.int .i64 0, .slice Ao20 y182.length co20, .slice Ao19 y191.length co19], .int .i64 1] rfl (by (try simp only [List.map_toArray, List.map_cons, List.map_nil]); first | done | rfl) ?_; (with_reducible refine (table_Row.calls k 0 _ _ y182 _ _ y191 1 t199 t202 _ ?side1 ?side2 ?side3 ?side4 A3.out).mono ?_); (case side1 => repeat (first | exact (Kd.R_reads' HO184.out).2.2 | (with_reducible refine Kd.C_alloc ?_ _) | (with_reducible refine Kd.C_drewN ?_ _) | (with_reducible refine Kd.C_drew ?_))); (case side2 => exact (Kd.R_reads' HO184.out).2.1); (case side3 => repeat (first | exact (Kd.N_reads' HO193.out).2.2 | (with_reducible refine Kd.C_alloc ?_ _) | (with_reducible refine Kd.C_drewN ?_ _) | (with_reducible refine Kd.C_drew ?_))); (case side4 => exact (Kd.N_reads' HO193.out).2.1); rintro e w25 ⟨v200, rfl, ho0, hb⟩; refine ⟨_, rfl, ?_⟩; have n0_ := Aside0.mk (Kd.R_below HO184.out hb); have n1_ := Aside0.mk (Kd.N_elder' HO193.out (Kd.R_base ho0) hb); have n2_ := Aside0.mk (Kd.R_elder' HO197.out (Kd.R_base ho0) hb); have n3_ := Aside0.mk (Kd.R_lower (Kd.R_new' ho0 (Kd.R_lt HO197.out)) (below_size (by repeat (first | (with_reducible first | exact HB.out | apply below_alloc | apply pw_below_drewN | apply below_drew1 | refine below_set ?_ GE194.out) | exact HB.out)))); have n4_ := Aside0.mk (blk_below (g := gb194) (o := .cells #[.int .i64 0, .slice Ao20 y182.length co20, .slice Ao19 y191.length co19] 35 (0, 0)) BK194.out hb); have n5_ := Aside0.mk (below_step (by repeat (first | (with_reducible first | exact HB.out | apply below_alloc | apply pw_below_drewN | apply below_drew1 | refine below_set ?_ GE194.out) | exact HB.out)) hb); clear HO184; clear HO193; clear HO197; clear BK194; clear HB; have HO184 := n0_; have HO193 := n1_; have HO197 := n2_; have HO201 := n3_; have BK194 := n4_; have HB := n5_; clear n0_ n1_ n2_ n3_ n4_ n5_; (try clear hb); (try clear hb2); (try clear hk); (try clear hi); (try clear ho0)) | ((with_reducible refine gate_callee (f := 46) rfl ?_); refine goesL_ (some 27) rfl rfl Tryz.func46 (by kernel_rfl) rfl #[.string (⟨#[97, 98, 32]⟩ : ByteArray)] rfl (by (try simp only [List.map_toArray, List.map_cons, List.map_nil]); first | done | rfl) ?_; (with_reducible refine (cabinetryref01_Text.calls (⟨#[97, 98, 32]⟩ : ByteArray) t203 t204 t205 _ A4.out).mono ?_); rintro e w26 ⟨rfl, hb⟩; refine ⟨_, rfl, ?_⟩; have n0_ := Aside0.mk (Kd.R_below HO184.out hb); have n1_ := Aside0.mk (Kd.N_below HO193.out hb); have n2_ := Aside0.mk (Kd.R_below HO197.out hb); have n3_ := Aside0.mk (Kd.R_below HO201.out hb); have n4_ := Aside0.mk (blk_below (g := gb194) (o := .cells #[.int .i64 0, .slice Ao20 y182.length co20, .slice Ao19 y191.length co19] 35 (0, 0)) BK194.out hb); have n5_ := Aside0.mk (below_step (by repeat (first | (with_reducible first | exact HB.out | apply below_alloc | apply pw_below_drewN | apply below_drew1 | refine below_set ?_ GE194.out) | exact HB.out)) hb); clear HO184; clear HO193; clear HO197; clear HO201; clear BK194; clear HB; have HO184 := n0_; have HO193 := n1_; have HO197 := n2_; have HO201 := n3_; have BK194 := n4_; have HB := n5_; clear n0_ n1_ n2_ n3_ n4_ n5_; (try clear hb); (try clear hb2); (try clear hk); (try clear hi)) | ((with_reducible refine gate_callee (f := 13) rfl ?_); refine goesL_ (some 28) rfl rfl Tryz.func13 (by kernel_rfl) rfl #[.agg #[.string (⟨#[65]⟩ : ByteArray), .int .i64 4, .int .i64 2, .bool false], .int .i64 0, .agg #[.int .i64 t203, .int .i64 t204, .string t205]] rfl (by (try simp only [List.map_toArray, List.map_cons, List.map_nil]); first | done | rfl) ?_; (with_reducible refine (table_Fit.calls (⟨#[65]⟩ : ByteArray) 4 2 false 0 t203 t204 t205 t206 t207 t208 t209 _ A5.out).mono ?_); rintro e w27 ⟨rfl, hb⟩; refine ⟨_, rfl, ?_⟩; have n0_ := Aside0.mk (Kd.R_below HO184.out hb); have n1_ := Aside0.mk (Kd.N_below HO193.out hb); have n2_ := Aside0.mk (Kd.R_below HO197.out hb); have n3_ := Aside0.mk (Kd.R_below HO201.out hb); have n4_ := Aside0.mk (blk_below (g := gb194) (o := .cells #[.int .i64 0, .slice Ao20 y182.length co20, .slice Ao19 y191.length co19] 35 (0, 0)) BK194.out hb); have n5_ := Aside0.mk (below_step (by repeat (first | (with_reducible first | exact HB.out | apply below_alloc | apply pw_below_drewN | apply below_drew1 | refine below_set ?_ GE194.out) | exact HB.out)) hb); clear HO184; clear HO193; clear HO197; clear HO201; clear BK194; clear HB; have HO184 := n0_; have HO193 := n1_; have HO197 := n2_; have HO201 := n3_; have BK194 := n4_; have HB := n5_; clear n0_ n1_ n2_ n3_ n4_ n5_; (try clear hb); (try clear hb2); (try clear hk); (try clear hi)) | ((with_reducible refine gate_dst (N := 6) rfl ?_); (try (refine gate_guard (by rfl) ?_; dsimp only)); refine box_event ?hg (N := 6) ?hd (cs := #[.int .i64 0, .int .i64 0, .string (⟨#[]⟩ : ByteArray)]) (t := 25) ?hr ?_; (case hd => rfl); (case hg => rfl); (case hr => go_simp; try rfl); intro gb210 hg w28 hbox hb; have n0_ := Aside0.mk (Kd.R_below HO184.out hb); have n1_ := Aside0.mk (Kd.N_below (Kd.N_elderB HO193.out gb210 (Nat.le_of_eq hg.symm)) hb); have n2_ := Aside0.mk (Kd.R_below HO197.out hb); have n3_ := Aside0.mk (Kd.R_below HO201.out hb); have n4_ := Aside0.mk (blk_below (g := gb194) (o := .cells #[.int .i64 0, .slice Ao20 y182.length co20, .slice Ao19 y191.length co19] 35 (0, 0)) BK194.out hb); have n5_ := Aside0.mk (below_step (by repeat (first | (with_reducible first | exact HB.out | apply below_alloc | apply pw_below_drewN | apply below_drew1 | refine below_set ?_ GE194.out) | exact HB.out)) hb); have n6_ := Aside0.mk (hbox); have n8_ := Aside0.mk ((by rw [hg]; exact (below_size (by repeat (first | (with_reducible first | exact HB.out | apply below_alloc | apply pw_below_drewN | apply below_drew1 | refine below_set ?_ GE194.out) | exact HB.out))) : w.heap.size ≤ gb210)); have n9_ := Aside0.mk ((by rw [hg]; exact Nat.ne_of_lt (blk_lt (g := gb194) (o := .cells #[.int .i64 0, .slice Ao20 y182.length co20, .slice Ao19 y191.length co19] 35 (0, 0)) BK194.out) : gb194 ≠ gb210)); have n10_ := Aside0.mk ((by rw [hg]; exact Nat.ne_of_gt (blk_lt (g := gb194) (o := .cells #[.int .i64 0, .slice Ao20 y182.length co20, .slice Ao19 y191.length co19] 35 (0, 0)) BK194.out) : gb210 ≠ gb194)); clear HO184; clear HO193; clear HO197; clear HO201; clear BK194; clear HB; have HO184 := n0_; have HO193 := n1_; have HO197 := n2_; have HO201 := n3_; have BK194 := n4_; have HB := n5_; have BK210 := n6_; have GE210 := n8_; have NB194_210 := n9_; have NB210_194 := n10_; clear n0_ n1_ n2_ n3_ n4_ n5_ n6_ n8_ n9_ n10_; clear hb hbox hg; have hnb29 := NB210_194.out; have hnc29 := NB194_210.out; have hcz30_0 : w28.cell? ⟨gb210, 0, none⟩ = some (.int .i64 0) := (blk_cell BK210.out 0).trans rfl; have hcz30_1 : w28.cell? ⟨gb210, 1, none⟩ = some (.int .i64 0) := (blk_cell BK210.out 1).trans rfl; have hcz30_2 : w28.cell? ⟨gb210, 2, none⟩ = some (.string (⟨#[]⟩ : ByteArray)) := (blk_cell BK210.out 2).trans rfl; have hfz30_0 := blk_frozen BK210.out 0; have hfz30_1 := blk_frozen BK210.out 1; have hfz30_2 := blk_frozen BK210.out 2; obtain ⟨Ao31, co31, eo31⟩ := Kd.R_slice HO197.out; subst eo31) | ((with_reducible refine gate_store (t := 25) (p := 6) rfl ?_); refine store_box ?hg (ty := 25) (p := 6) (y := .tmp 29) ?ho ?hd gb210 (cells := #[.int .i64 t206, .int .i64 t207, .string t208]) (old := #[.int .i64 0, .int .i64 0, .string (⟨#[]⟩ : ByteArray)]) (t := 25) ?hx ?hy ?hgg ?hi ?hold ?h1 ?_; (case ho => rfl); (case hg => rfl); (case hd => rfl); (case hx => rfl); (case hy => rfl); (case hgg => exact BK210.out); (case hi => exact known_size); (case hold => rfl); (case h1 => simp [Value.oneCell']); intro w50 hbk hbel hoth; have n0_ := Aside0.mk (hbel _ _ HB.out GE210.out); have n1_ := Aside0.mk (Kd.R_step (Kd.R_types HO201.out BK210.out (by decide)) (fun k hk _ => hoth k hk.2)); clear HB; clear HO201; have HB := n0_; have HO201 := n1_; clear n0_ n1_; have hcv32 := own_string (P := Tryz.prog) Tryz.underlying37 Tryz.underlying5 Tryz.underlying9 (Kd.own_of_R HO201.out); have hcz50_0 : w50.cell? ⟨gb210, 0, none⟩ = some (.int .i64 t206) := (blk_cell hbk 0).trans rfl; have hcz50_1 : w50.cell? ⟨gb210, 1, none⟩ = some (.int .i64 t207) := (blk_cell hbk 1).trans rfl; have hcz50_2 : w50.cell? ⟨gb210, 2, none⟩ = some (.string t208) := (blk_cell hbk 2).trans rfl; clear hbk hbel hoth))
            go_ret
            exact ⟨rfl, by repeat (first | (with_reducible first | exact HB.out | apply below_alloc | apply pw_below_drewN | apply below_drew1 | refine below_set ?_ GE194.out | refine below_set ?_ GE210.out) | exact HB.out)⟩
          · rw [if_neg c10] at H
            exact absurd H (by simp)
        · rw [if_neg c9] at H
          exact absurd H (by simp)
      · rw [if_neg c8] at H
        exact absurd H (by simp)
    · rw [if_neg c7] at H
      exact absurd H (by simp)
  · rw [if_neg c6] at H
    exact absurd H (by simp)
theorem known_true : known.f0 100 = some true := by kernel_rfl
def cabinetrylaw03_known.f : Option Bool := some true
theorem cabinetrylaw03_known.calls (r : Bool) (w : World) (h : cabinetrylaw03_known.f = some r) : Calls Tryz.prog 12 #[] w fun e w' => e = .returned (.bool r) ∧ Below w.heap.size w w' := by
  obtain rfl := Option.some.inj h
  exact known_calls 100 w known_true
end Go.Proofs.YtldpdidlfbphcaaGreatDoor.P
end
section
namespace Go.Proofs.YtldpdidlfbphcaaGreatDoor.P
open Go.RowKit Go.Proofs.YtldpdidlfbphcaaGreatDoorW.PrintWords Go.Proofs.YtldpdidlfbphcaaGreatDoorW.PrintLast Go.Proofs.YtldpdidlfbphcaaGreatDoorW.PrintMore
attribute [local go_sem] max2_int min2_int max_two min_two max_three min_three max_four min_four
mutual
def cabinetrylaw03_TableFits.j0 : Nat → Int → Int → Bool → ByteArray → Int → Int → Bool → Int → Int → ByteArray → Option (Bool)
  | 0, _, _, _, _, _, _, _, _, _, _ => none
  | k + 1, x1, x8, x44, x141000, x141001, x141002, x141003, x148000, x148001, x148002 => if x44 = true then (some false) else (if x8 = 0 then ((table_Fit.f x141000 x141001 x141002 x141003 x1 x148000 x148001 x148002).bind fun bt155 => ((cabinetryref01_SameValue.f k x148000 x148001 x148002 bt155.1 bt155.2.1 bt155.2.2.1).bind fun t160 => (if t160 = true then (if bt155.2.2.2 = 0 then ((cabinetrylaw03_known.f).bind fun t161 => (cabinetrylaw03_TableFits.j1 k t161)) else (cabinetrylaw03_TableFits.j1 k false)) else (cabinetrylaw03_TableFits.j1 k false)))) else ((cabinetrylaw03_known.f).bind fun t154 => (some t154)))
def cabinetrylaw03_TableFits.j1 : Nat → Bool → Option (Bool)
  | 0, _ => none
  | k + 1, x6 => some x6
end
def cabinetrylaw03_TableFits.f (k : Nat) (a0_0 : ByteArray) (a0_1 : Int) (a0_2 : Int) (a0_3 : Bool) (a1 : Int) (a2_0 : Int) (a2_1 : Int) (a2_2 : ByteArray) : Option (Bool) := if (wrap64 ((a0_0.size : Int) + (a2_2.size : Int))) > 2000000 then ((cabinetrylaw03_known.f).bind fun t142 => (some t142)) else ((table_Fit.f a0_0 a0_1 a0_2 a0_3 a1 a2_0 a2_1 a2_2).bind fun bt143 => ((cabinetryref03_Fit.f k a0_0 a0_1 a0_2 a0_3 a1 a2_0 a2_1 a2_2).bind fun bt148 => ((cabinetryref01_SameValue.f k bt143.1 bt143.2.1 bt143.2.2.1 bt148.1 bt148.2.1 bt148.2.2.1).bind fun t153 => (if t153 = true then (cabinetrylaw03_TableFits.j0 k a1 bt143.2.2.2 (bt143.2.2.2 != bt148.2.2.2) a0_0 a0_1 a0_2 a0_3 bt143.1 bt143.2.1 bt143.2.2.1) else (cabinetrylaw03_TableFits.j0 k a1 bt143.2.2.2 true a0_0 a0_1 a0_2 a0_3 bt143.1 bt143.2.1 bt143.2.2.1)))))
theorem cabinetrylaw03_TableFits.mono_l : ∀ k, (∀ y0 y1 y2 y3 y4 y5 y6 y7 y8 y9, LeO (cabinetrylaw03_TableFits.j0 k y0 y1 y2 y3 y4 y5 y6 y7 y8 y9) (cabinetrylaw03_TableFits.j0 (k + 1) y0 y1 y2 y3 y4 y5 y6 y7 y8 y9)) ∧ (∀ y0, LeO (cabinetrylaw03_TableFits.j1 k y0) (cabinetrylaw03_TableFits.j1 (k + 1) y0))
  | 0 => ⟨fun _ _ _ _ _ _ _ _ _ _ r h => by simp [cabinetrylaw03_TableFits.j0] at h, fun _ r h => by simp [cabinetrylaw03_TableFits.j1] at h⟩
  | k + 1 => by
    obtain ⟨ih0, ih1⟩ := cabinetrylaw03_TableFits.mono_l k
    refine ⟨?_, ?_⟩
    · intro y0 y1 y2 y3 y4 y5 y6 y7 y8 y9
      unfold cabinetrylaw03_TableFits.j0
      repeat' first
      | (with_reducible exact ih0 _ _ _ _ _ _ _ _ _ _)
      | (with_reducible exact ih1 _)
      | (with_reducible exact cabinetryref01_SameValue.mono _ _ _ _ _ _ _)
      | (with_reducible exact cabinetryref03_Fit.mono _ _ _ _ _ _ _ _ _)
      | (with_reducible exact LeO.refl _)
      | (with_reducible exact LeO.none _)
      | (with_reducible refine LeO.ite ?_ ?_)
      | (with_reducible refine LeO.bind ?_ (fun _ => ?_))
      | exact ih0 _ _ _ _ _ _ _ _ _ _
      | exact ih1 _
      | exact cabinetryref01_SameValue.mono _ _ _ _ _ _ _
      | exact cabinetryref03_Fit.mono _ _ _ _ _ _ _ _ _
      | exact LeO.none _
      | refine LeO.ite ?_ ?_
      | refine LeO.bind ?_ (fun _ => ?_)
    · intro y0
      unfold cabinetrylaw03_TableFits.j1
      repeat' first
      | (with_reducible exact ih0 _ _ _ _ _ _ _ _ _ _)
      | (with_reducible exact ih1 _)
      | (with_reducible exact cabinetryref01_SameValue.mono _ _ _ _ _ _ _)
      | (with_reducible exact cabinetryref03_Fit.mono _ _ _ _ _ _ _ _ _)
      | (with_reducible exact LeO.refl _)
      | (with_reducible exact LeO.none _)
      | (with_reducible refine LeO.ite ?_ ?_)
      | (with_reducible refine LeO.bind ?_ (fun _ => ?_))
      | exact ih0 _ _ _ _ _ _ _ _ _ _
      | exact ih1 _
      | exact cabinetryref01_SameValue.mono _ _ _ _ _ _ _
      | exact cabinetryref03_Fit.mono _ _ _ _ _ _ _ _ _
      | exact LeO.none _
      | refine LeO.ite ?_ ?_
      | refine LeO.bind ?_ (fun _ => ?_)
theorem cabinetrylaw03_TableFits.mono : ∀ a0 a1 a2 a3 a4 a5 a6 a7 k, LeO (cabinetrylaw03_TableFits.f k a0 a1 a2 a3 a4 a5 a6 a7) (cabinetrylaw03_TableFits.f (k + 1) a0 a1 a2 a3 a4 a5 a6 a7) := by
  intro a0 a1 a2 a3 a4 a5 a6 a7 k
  obtain ⟨ih0, ih1⟩ := cabinetrylaw03_TableFits.mono_l k
  unfold cabinetrylaw03_TableFits.f
  repeat' first
      | (with_reducible exact ih0 _ _ _ _ _ _ _ _ _ _)
      | (with_reducible exact ih1 _)
      | (with_reducible exact cabinetryref01_SameValue.mono _ _ _ _ _ _ _)
      | (with_reducible exact cabinetryref03_Fit.mono _ _ _ _ _ _ _ _ _)
      | (with_reducible exact LeO.refl _)
      | (with_reducible exact LeO.none _)
      | (with_reducible refine LeO.ite ?_ ?_)
      | (with_reducible refine LeO.bind ?_ (fun _ => ?_))
      | exact ih0 _ _ _ _ _ _ _ _ _ _
      | exact ih1 _
      | exact cabinetryref01_SameValue.mono _ _ _ _ _ _ _
      | exact cabinetryref03_Fit.mono _ _ _ _ _ _ _ _ _
      | exact LeO.none _
      | refine LeO.ite ?_ ?_
      | refine LeO.bind ?_ (fun _ => ?_)
set_option maxHeartbeats 8000000 in
set_option maxRecDepth 100000 in
theorem cabinetrylaw03_TableFits.calls (k : Nat) (a0_0 : ByteArray) (a0_1 : Int) (a0_2 : Int) (a0_3 : Bool) (a1 : Int) (a2_0 : Int) (a2_1 : Int) (a2_2 : ByteArray) (r : Bool) (w : World) (h : cabinetrylaw03_TableFits.f k a0_0 a0_1 a0_2 a0_3 a1 a2_0 a2_1 a2_2 = some r) :
    Calls Tryz.prog 3 #[.agg #[.string a0_0, .int .i64 a0_1, .int .i64 a0_2, .bool a0_3], .int .i64 a1, .agg #[.int .i64 a2_0, .int .i64 a2_1, .string a2_2]] w fun e w' => e = .returned (.bool r) ∧ Below w.heap.size w w' := by
  have hu23 := Tryz.underlying23
  have hu25 := Tryz.underlying25
  have HB := Aside0.mk (Below.refl w.heap.size w)
  have H : (if (wrap64 ((a0_0.size : Int) + (a2_2.size : Int))) > 2000000 then ((cabinetrylaw03_known.f).bind fun t142 => (some t142)) else ((table_Fit.f a0_0 a0_1 a0_2 a0_3 a1 a2_0 a2_1 a2_2).bind fun bt143 => ((cabinetryref03_Fit.f k a0_0 a0_1 a0_2 a0_3 a1 a2_0 a2_1 a2_2).bind fun bt148 => ((cabinetryref01_SameValue.f k bt143.1 bt143.2.1 bt143.2.2.1 bt148.1 bt148.2.1 bt148.2.2.1).bind fun t153 => (if t153 = true then (cabinetrylaw03_TableFits.j0 k a1 bt143.2.2.2 (bt143.2.2.2 != bt148.2.2.2) a0_0 a0_1 a0_2 a0_3 bt143.1 bt143.2.1 bt143.2.2.1) else (cabinetrylaw03_TableFits.j0 k a1 bt143.2.2.2 true a0_0 a0_1 a0_2 a0_3 bt143.1 bt143.2.1 bt143.2.2.1)))))) = some r := h
  clear h
  by_cases c4 : (wrap64 ((a0_0.size : Int) + (a2_2.size : Int))) > 2000000
  · rw [if_pos c4] at H
    have c4b0 : decide (2000000 < (wrap64 ((a0_0.size : Int) + (a2_2.size : Int)))) = true := decide_eq_true c4
    clear c4
    replace H := Option.bind_eq_some_iff.mp H
    obtain ⟨t142, A50, H⟩ := H
    replace H : (some t142) = some r := H
    have A5 := Aside0.mk A50
    clear A50
    obtain rfl := Option.some.inj H
    go_enter Tryz.func3, Tryz.ntmps3
    go_wp2_with (first | ((with_reducible refine gate_dst (N := 3) rfl ?_); refine box_event ?hg (N := 3) ?hd (cs := #[.string a0_0, .int .i64 a0_1, .int .i64 a0_2, .bool a0_3]) (t := 23) ?hr ?_; (case hd => rfl); (case hg => rfl); (case hr => go_simp; try rfl); intro gb140 hg w6 hbox hb; have n0_ := Aside0.mk (below_step (by repeat (first | (with_reducible first | exact HB.out | apply below_alloc | apply pw_below_drewN | apply below_drew1) | exact HB.out)) hb); have n1_ := Aside0.mk (hbox); have n3_ := Aside0.mk ((by rw [hg]; exact (below_size (by repeat (first | (with_reducible first | exact HB.out | apply below_alloc | apply pw_below_drewN | apply below_drew1) | exact HB.out))) : w.heap.size ≤ gb140)); clear HB; have HB := n0_; have BK140 := n1_; have GE140 := n3_; clear n0_ n1_ n3_; clear hb hbox hg) | ((with_reducible refine gate_dst (N := 5) rfl ?_); refine box_event ?hg (N := 5) ?hd (cs := #[.int .i64 a2_0, .int .i64 a2_1, .string a2_2]) (t := 25) ?hr ?_; (case hd => rfl); (case hg => rfl); (case hr => go_simp; try rfl); intro gb141 hg w7 hbox hb; have n0_ := Aside0.mk (blk_below (g := gb140) (o := .cells #[.string a0_0, .int .i64 a0_1, .int .i64 a0_2, .bool a0_3] 23 (0, 0)) BK140.out hb); have n1_ := Aside0.mk (below_step (by repeat (first | (with_reducible first | exact HB.out | apply below_alloc | apply pw_below_drewN | apply below_drew1 | refine below_set ?_ GE140.out) | exact HB.out)) hb); have n2_ := Aside0.mk (hbox); have n4_ := Aside0.mk ((by rw [hg]; exact (below_size (by repeat (first | (with_reducible first | exact HB.out | apply below_alloc | apply pw_below_drewN | apply below_drew1 | refine below_set ?_ GE140.out) | exact HB.out))) : w.heap.size ≤ gb141)); have n5_ := Aside0.mk ((by rw [hg]; exact Nat.ne_of_lt (blk_lt (g := gb140) (o := .cells #[.string a0_0, .int .i64 a0_1, .int .i64 a0_2, .bool a0_3] 23 (0, 0)) BK140.out) : gb140 ≠ gb141)); have n6_ := Aside0.mk ((by rw [hg]; exact Nat.ne_of_gt (blk_lt (g := gb140) (o := .cells #[.string a0_0, .int .i64 a0_1, .int .i64 a0_2, .bool a0_3] 23 (0, 0)) BK140.out) : gb141 ≠ gb140)); clear BK140; clear HB; have BK140 := n0_; have HB := n1_; have BK141 := n2_; have GE141 := n4_; have NB140_141 := n5_; have NB141_140 := n6_; clear n0_ n1_ n2_ n4_ n5_ n6_; clear hb hbox hg; have hnb8 := NB140_141.out; have hnc8 := NB141_140.out; have hcz9_0 : w7.cell? ⟨gb140, 0, none⟩ = some (.string a0_0) := (blk_cell BK140.out 0).trans rfl; have hcz9_1 : w7.cell? ⟨gb140, 1, none⟩ = some (.int .i64 a0_1) := (blk_cell BK140.out 1).trans rfl; have hcz9_2 : w7.cell? ⟨gb140, 2, none⟩ = some (.int .i64 a0_2) := (blk_cell BK140.out 2).trans rfl; have hcz9_3 : w7.cell? ⟨gb140, 3, none⟩ = some (.bool a0_3) := (blk_cell BK140.out 3).trans rfl; have hfz9_0 := blk_frozen BK140.out 0; have hfz9_1 := blk_frozen BK140.out 1; have hfz9_2 := blk_frozen BK140.out 2; have hfz9_3 := blk_frozen BK140.out 3; have hcz10_0 : w7.cell? ⟨gb141, 0, none⟩ = some (.int .i64 a2_0) := (blk_cell BK141.out 0).trans rfl; have hcz10_1 : w7.cell? ⟨gb141, 1, none⟩ = some (.int .i64 a2_1) := (blk_cell BK141.out 1).trans rfl; have hcz10_2 : w7.cell? ⟨gb141, 2, none⟩ = some (.string a2_2) := (blk_cell BK141.out 2).trans rfl; have hfz10_0 := blk_frozen BK141.out 0; have hfz10_1 := blk_frozen BK141.out 1; have hfz10_2 := blk_frozen BK141.out 2) | ((with_reducible refine gate_callee (f := 12) rfl ?_); refine goesL_ (some 21) rfl rfl Tryz.func12 (by kernel_rfl) rfl #[] rfl (by (try simp only [List.map_toArray, List.map_cons, List.map_nil]); first | done | rfl) ?_; (with_reducible refine (cabinetrylaw03_known.calls  t142 _ A5.out).mono ?_); rintro e w11 ⟨rfl, hb⟩; refine ⟨_, rfl, ?_⟩; have n0_ := Aside0.mk (blk_below (g := gb140) (o := .cells #[.string a0_0, .int .i64 a0_1, .int .i64 a0_2, .bool a0_3] 23 (0, 0)) BK140.out hb); have n1_ := Aside0.mk (blk_below (g := gb141) (o := .cells #[.int .i64 a2_0, .int .i64 a2_1, .string a2_2] 25 (0, 0)) BK141.out hb); have n2_ := Aside0.mk (below_step (by repeat (first | (with_reducible first | exact HB.out | apply below_alloc | apply pw_below_drewN | apply below_drew1 | refine below_set ?_ GE140.out | refine below_set ?_ GE141.out) | exact HB.out)) hb); clear BK140; clear BK141; clear HB; have BK140 := n0_; have BK141 := n1_; have HB := n2_; clear n0_ n1_ n2_; (try clear hb); (try clear hb2); (try clear hk); (try clear hi)))
    go_ret
    exact ⟨rfl, by repeat (first | (with_reducible first | exact HB.out | apply below_alloc | apply pw_below_drewN | apply below_drew1 | refine below_set ?_ GE140.out | refine below_set ?_ GE141.out) | exact HB.out)⟩
  · rw [if_neg c4] at H
    have c4b0 : decide (2000000 < (wrap64 ((a0_0.size : Int) + (a2_2.size : Int)))) = false := decide_eq_false c4
    clear c4
    replace H := Option.bind_eq_some_iff.mp H
    obtain ⟨⟨t143, t144, t145, t146⟩, A120, H⟩ := H
    replace H : ((cabinetryref03_Fit.f k a0_0 a0_1 a0_2 a0_3 a1 a2_0 a2_1 a2_2).bind fun bt148 => ((cabinetryref01_SameValue.f k t143 t144 t145 bt148.1 bt148.2.1 bt148.2.2.1).bind fun t153 => (if t153 = true then (cabinetrylaw03_TableFits.j0 k a1 t146 (t146 != bt148.2.2.2) a0_0 a0_1 a0_2 a0_3 t143 t144 t145) else (cabinetrylaw03_TableFits.j0 k a1 t146 true a0_0 a0_1 a0_2 a0_3 t143 t144 t145)))) = some r := H
    have A12 := Aside0.mk A120
    clear A120
    replace H := Option.bind_eq_some_iff.mp H
    obtain ⟨⟨t148, t149, t150, t151⟩, A130, H⟩ := H
    replace H : ((cabinetryref01_SameValue.f k t143 t144 t145 t148 t149 t150).bind fun t153 => (if t153 = true then (cabinetrylaw03_TableFits.j0 k a1 t146 (t146 != t151) a0_0 a0_1 a0_2 a0_3 t143 t144 t145) else (cabinetrylaw03_TableFits.j0 k a1 t146 true a0_0 a0_1 a0_2 a0_3 t143 t144 t145))) = some r := H
    have A13 := Aside0.mk A130
    clear A130
    have HC14 := Aside0.mk H
    clear H
    go_enter Tryz.func3, Tryz.ntmps3
    go_upto_region 5 with (first | ((with_reducible refine gate_dst (N := 3) rfl ?_); refine box_event ?hg (N := 3) ?hd (cs := #[.string a0_0, .int .i64 a0_1, .int .i64 a0_2, .bool a0_3]) (t := 23) ?hr ?_; (case hd => rfl); (case hg => rfl); (case hr => go_simp; try rfl); intro gb140 hg w15 hbox hb; have n0_ := Aside0.mk (below_step (by repeat (first | (with_reducible first | exact HB.out | apply below_alloc | apply pw_below_drewN | apply below_drew1) | exact HB.out)) hb); have n1_ := Aside0.mk (hbox); have n3_ := Aside0.mk ((by rw [hg]; exact (below_size (by repeat (first | (with_reducible first | exact HB.out | apply below_alloc | apply pw_below_drewN | apply below_drew1) | exact HB.out))) : w.heap.size ≤ gb140)); clear HB; have HB := n0_; have BK140 := n1_; have GE140 := n3_; clear n0_ n1_ n3_; clear hb hbox hg) | ((with_reducible refine gate_dst (N := 5) rfl ?_); refine box_event ?hg (N := 5) ?hd (cs := #[.int .i64 a2_0, .int .i64 a2_1, .string a2_2]) (t := 25) ?hr ?_; (case hd => rfl); (case hg => rfl); (case hr => go_simp; try rfl); intro gb141 hg w16 hbox hb; have n0_ := Aside0.mk (blk_below (g := gb140) (o := .cells #[.string a0_0, .int .i64 a0_1, .int .i64 a0_2, .bool a0_3] 23 (0, 0)) BK140.out hb); have n1_ := Aside0.mk (below_step (by repeat (first | (with_reducible first | exact HB.out | apply below_alloc | apply pw_below_drewN | apply below_drew1 | refine below_set ?_ GE140.out) | exact HB.out)) hb); have n2_ := Aside0.mk (hbox); have n4_ := Aside0.mk ((by rw [hg]; exact (below_size (by repeat (first | (with_reducible first | exact HB.out | apply below_alloc | apply pw_below_drewN | apply below_drew1 | refine below_set ?_ GE140.out) | exact HB.out))) : w.heap.size ≤ gb141)); have n5_ := Aside0.mk ((by rw [hg]; exact Nat.ne_of_lt (blk_lt (g := gb140) (o := .cells #[.string a0_0, .int .i64 a0_1, .int .i64 a0_2, .bool a0_3] 23 (0, 0)) BK140.out) : gb140 ≠ gb141)); have n6_ := Aside0.mk ((by rw [hg]; exact Nat.ne_of_gt (blk_lt (g := gb140) (o := .cells #[.string a0_0, .int .i64 a0_1, .int .i64 a0_2, .bool a0_3] 23 (0, 0)) BK140.out) : gb141 ≠ gb140)); clear BK140; clear HB; have BK140 := n0_; have HB := n1_; have BK141 := n2_; have GE141 := n4_; have NB140_141 := n5_; have NB141_140 := n6_; clear n0_ n1_ n2_ n4_ n5_ n6_; clear hb hbox hg; have hnb17 := NB140_141.out; have hnc17 := NB141_140.out; have hcz18_0 : w16.cell? ⟨gb140, 0, none⟩ = some (.string a0_0) := (blk_cell BK140.out 0).trans rfl; have hcz18_1 : w16.cell? ⟨gb140, 1, none⟩ = some (.int .i64 a0_1) := (blk_cell BK140.out 1).trans rfl; have hcz18_2 : w16.cell? ⟨gb140, 2, none⟩ = some (.int .i64 a0_2) := (blk_cell BK140.out 2).trans rfl; have hcz18_3 : w16.cell? ⟨gb140, 3, none⟩ = some (.bool a0_3) := (blk_cell BK140.out 3).trans rfl; have hfz18_0 := blk_frozen BK140.out 0; have hfz18_1 := blk_frozen BK140.out 1; have hfz18_2 := blk_frozen BK140.out 2; have hfz18_3 := blk_frozen BK140.out 3; have hcz19_0 : w16.cell? ⟨gb141, 0, none⟩ = some (.int .i64 a2_0) := (blk_cell BK141.out 0).trans rfl; have hcz19_1 : w16.cell? ⟨gb141, 1, none⟩ = some (.int .i64 a2_1) := (blk_cell BK141.out 1).trans rfl; have hcz19_2 : w16.cell? ⟨gb141, 2, none⟩ = some (.string a2_2) := (blk_cell BK141.out 2).trans rfl; have hfz19_0 := blk_frozen BK141.out 0; have hfz19_1 := blk_frozen BK141.out 1; have hfz19_2 := blk_frozen BK141.out 2) | ((with_reducible refine gate_callee (f := 13) rfl ?_); refine goesL_ (some 26) rfl rfl Tryz.func13 (by kernel_rfl) rfl #[.agg #[.string a0_0, .int .i64 a0_1, .int .i64 a0_2, .bool a0_3], .int .i64 a1, .agg #[.int .i64 a2_0, .int .i64 a2_1, .string a2_2]] rfl (by (try simp only [List.map_toArray, List.map_cons, List.map_nil]); first | done | rfl) ?_; (with_reducible refine (table_Fit.calls a0_0 a0_1 a0_2 a0_3 a1 a2_0 a2_1 a2_2 t143 t144 t145 t146 _ A12.out).mono ?_); rintro e w20 ⟨rfl, hb⟩; refine ⟨_, rfl, ?_⟩; have n0_ := Aside0.mk (blk_below (g := gb140) (o := .cells #[.string a0_0, .int .i64 a0_1, .int .i64 a0_2, .bool a0_3] 23 (0, 0)) BK140.out hb); have n1_ := Aside0.mk (blk_below (g := gb141) (o := .cells #[.int .i64 a2_0, .int .i64 a2_1, .string a2_2] 25 (0, 0)) BK141.out hb); have n2_ := Aside0.mk (below_step (by repeat (first | (with_reducible first | exact HB.out | apply below_alloc | apply pw_below_drewN | apply below_drew1 | refine below_set ?_ GE140.out | refine below_set ?_ GE141.out) | exact HB.out)) hb); clear BK140; clear BK141; clear HB; have BK140 := n0_; have BK141 := n1_; have HB := n2_; clear n0_ n1_ n2_; (try clear hb); (try clear hb2); (try clear hk); (try clear hi)) | ((with_reducible refine gate_dst (N := 7) rfl ?_); refine box_event ?hg (N := 7) ?hd (cs := #[.int .i64 0, .int .i64 0, .string (⟨#[]⟩ : ByteArray)]) (t := 25) ?hr ?_; (case hd => rfl); (case hg => rfl); (case hr => go_simp; try rfl); intro gb147 hg w21 hbox hb; have n0_ := Aside0.mk (blk_below (g := gb140) (o := .cells #[.string a0_0, .int .i64 a0_1, .int .i64 a0_2, .bool a0_3] 23 (0, 0)) BK140.out hb); have n1_ := Aside0.mk (blk_below (g := gb141) (o := .cells #[.int .i64 a2_0, .int .i64 a2_1, .string a2_2] 25 (0, 0)) BK141.out hb); have n2_ := Aside0.mk (below_step (by repeat (first | (with_reducible first | exact HB.out | apply below_alloc | apply pw_below_drewN | apply below_drew1 | refine below_set ?_ GE140.out | refine below_set ?_ GE141.out) | exact HB.out)) hb); have n3_ := Aside0.mk (hbox); have n5_ := Aside0.mk ((by rw [hg]; exact (below_size (by repeat (first | (with_reducible first | exact HB.out | apply below_alloc | apply pw_below_drewN | apply below_drew1 | refine below_set ?_ GE140.out | refine below_set ?_ GE141.out) | exact HB.out))) : w.heap.size ≤ gb147)); have n6_ := Aside0.mk ((by rw [hg]; exact Nat.ne_of_lt (blk_lt (g := gb140) (o := .cells #[.string a0_0, .int .i64 a0_1, .int .i64 a0_2, .bool a0_3] 23 (0, 0)) BK140.out) : gb140 ≠ gb147)); have n7_ := Aside0.mk ((by rw [hg]; exact Nat.ne_of_gt (blk_lt (g := gb140) (o := .cells #[.string a0_0, .int .i64 a0_1, .int .i64 a0_2, .bool a0_3] 23 (0, 0)) BK140.out) : gb147 ≠ gb140)); have n8_ := Aside0.mk ((by rw [hg]; exact Nat.ne_of_lt (blk_lt (g := gb141) (o := .cells #[.int .i64 a2_0, .int .i64 a2_1, .string a2_2] 25 (0, 0)) BK141.out) : gb141 ≠ gb147)); have n9_ := Aside0.mk ((by rw [hg]; exact Nat.ne_of_gt (blk_lt (g := gb141) (o := .cells #[.int .i64 a2_0, .int .i64 a2_1, .string a2_2] 25 (0, 0)) BK141.out) : gb147 ≠ gb141)); clear BK140; clear BK141; clear HB; have BK140 := n0_; have BK141 := n1_; have HB := n2_; have BK147 := n3_; have GE147 := n5_; have NB140_147 := n6_; have NB147_140 := n7_; have NB141_147 := n8_; have NB147_141 := n9_; clear n0_ n1_ n2_ n3_ n5_ n6_ n7_ n8_ n9_; clear hb hbox hg; have hnb22 := NB147_140.out; have hnc22 := NB140_147.out; have hnb23 := NB147_141.out; have hnc23 := NB141_147.out; have hcz24_0 : w21.cell? ⟨gb147, 0, none⟩ = some (.int .i64 0) := (blk_cell BK147.out 0).trans rfl; have hcz24_1 : w21.cell? ⟨gb147, 1, none⟩ = some (.int .i64 0) := (blk_cell BK147.out 1).trans rfl; have hcz24_2 : w21.cell? ⟨gb147, 2, none⟩ = some (.string (⟨#[]⟩ : ByteArray)) := (blk_cell BK147.out 2).trans rfl; have hfz24_0 := blk_frozen BK147.out 0; have hfz24_1 := blk_frozen BK147.out 1; have hfz24_2 := blk_frozen BK147.out 2; have hcz25_0 : w21.cell? ⟨gb140, 0, none⟩ = some (.string a0_0) := (blk_cell BK140.out 0).trans rfl; have hcz25_1 : w21.cell? ⟨gb140, 1, none⟩ = some (.int .i64 a0_1) := (blk_cell BK140.out 1).trans rfl; have hcz25_2 : w21.cell? ⟨gb140, 2, none⟩ = some (.int .i64 a0_2) := (blk_cell BK140.out 2).trans rfl; have hcz25_3 : w21.cell? ⟨gb140, 3, none⟩ = some (.bool a0_3) := (blk_cell BK140.out 3).trans rfl; have hfz25_0 := blk_frozen BK140.out 0; have hfz25_1 := blk_frozen BK140.out 1; have hfz25_2 := blk_frozen BK140.out 2; have hfz25_3 := blk_frozen BK140.out 3; have hcz26_0 : w21.cell? ⟨gb141, 0, none⟩ = some (.int .i64 a2_0) := (blk_cell BK141.out 0).trans rfl; have hcz26_1 : w21.cell? ⟨gb141, 1, none⟩ = some (.int .i64 a2_1) := (blk_cell BK141.out 1).trans rfl; have hcz26_2 : w21.cell? ⟨gb141, 2, none⟩ = some (.string a2_2) := (blk_cell BK141.out 2).trans rfl; have hfz26_0 := blk_frozen BK141.out 0; have hfz26_1 := blk_frozen BK141.out 1; have hfz26_2 := blk_frozen BK141.out 2) | ((with_reducible refine gate_callee (f := 14) rfl ?_); refine goesL_ (some 33) rfl rfl Tryz.func14 (by kernel_rfl) rfl #[.agg #[.string a0_0, .int .i64 a0_1, .int .i64 a0_2, .bool a0_3], .int .i64 a1, .agg #[.int .i64 a2_0, .int .i64 a2_1, .string a2_2]] rfl (by (try simp only [List.map_toArray, List.map_cons, List.map_nil]); first | done | rfl) ?_; (with_reducible refine (cabinetryref03_Fit.calls k a0_0 a0_1 a0_2 a0_3 a1 a2_0 a2_1 a2_2 t148 t149 t150 t151 _ A13.out).mono ?_); rintro e w27 ⟨rfl, hb⟩; refine ⟨_, rfl, ?_⟩; have n0_ := Aside0.mk (blk_below (g := gb140) (o := .cells #[.string a0_0, .int .i64 a0_1, .int .i64 a0_2, .bool a0_3] 23 (0, 0)) (by (with_reducible repeat (first | refine blk_drewN ?_ _ | refine blk_drew ?_ | refine blk_alloc ?_ _)); refine blk_far ?_ NB140_147.out _; (with_reducible repeat (first | refine blk_drewN ?_ _ | refine blk_drew ?_ | refine blk_alloc ?_ _)); refine blk_far ?_ NB140_147.out _; (with_reducible repeat (first | refine blk_drewN ?_ _ | refine blk_drew ?_ | refine blk_alloc ?_ _)); refine blk_far ?_ NB140_147.out _; (with_reducible repeat (first | refine blk_drewN ?_ _ | refine blk_drew ?_ | refine blk_alloc ?_ _)); exact BK140.out) hb); have n1_ := Aside0.mk (blk_below (g := gb141) (o := .cells #[.int .i64 a2_0, .int .i64 a2_1, .string a2_2] 25 (0, 0)) (by (with_reducible repeat (first | refine blk_drewN ?_ _ | refine blk_drew ?_ | refine blk_alloc ?_ _)); refine blk_far ?_ NB141_147.out _; (with_reducible repeat (first | refine blk_drewN ?_ _ | refine blk_drew ?_ | refine blk_alloc ?_ _)); refine blk_far ?_ NB141_147.out _; (with_reducible repeat (first | refine blk_drewN ?_ _ | refine blk_drew ?_ | refine blk_alloc ?_ _)); refine blk_far ?_ NB141_147.out _; (with_reducible repeat (first | refine blk_drewN ?_ _ | refine blk_drew ?_ | refine blk_alloc ?_ _)); exact BK141.out) hb); have n2_ := Aside0.mk (blk_below (g := gb147) (o := .cells #[.int .i64 t143, .int .i64 t144, .string t145] 25 (0, 0)) (by (with_reducible repeat (first | refine blk_drewN ?_ _ | refine blk_drew ?_ | refine blk_alloc ?_ _)); refine blk_put (cs := #[.int .i64 t143, .int .i64 t144, .string (⟨#[]⟩ : ByteArray)]) ?_ 2 _ rfl; (with_reducible repeat (first | refine blk_drewN ?_ _ | refine blk_drew ?_ | refine blk_alloc ?_ _)); refine blk_put (cs := #[.int .i64 t143, .int .i64 0, .string (⟨#[]⟩ : ByteArray)]) ?_ 1 _ rfl; (with_reducible repeat (first | refine blk_drewN ?_ _ | refine blk_drew ?_ | refine blk_alloc ?_ _)); refine blk_put (cs := #[.int .i64 0, .int .i64 0, .string (⟨#[]⟩ : ByteArray)]) ?_ 0 _ rfl; (with_reducible repeat (first | refine blk_drewN ?_ _ | refine blk_drew ?_ | refine blk_alloc ?_ _)); exact BK147.out) hb); have n3_ := Aside0.mk (below_step (by repeat (first | (with_reducible first | exact HB.out | apply below_alloc | apply pw_below_drewN | apply below_drew1 | refine below_set ?_ GE140.out | refine below_set ?_ GE141.out | refine below_set ?_ GE147.out) | exact HB.out)) hb); clear BK140; clear BK141; clear BK147; clear HB; have BK140 := n0_; have BK141 := n1_; have BK147 := n2_; have HB := n3_; clear n0_ n1_ n2_ n3_; (try clear hb); (try clear hb2); (try clear hk); (try clear hi)) | ((with_reducible refine gate_dst (N := 9) rfl ?_); refine box_event ?hg (N := 9) ?hd (cs := #[.int .i64 0, .int .i64 0, .string (⟨#[]⟩ : ByteArray)]) (t := 25) ?hr ?_; (case hd => rfl); (case hg => rfl); (case hr => go_simp; try rfl); intro gb152 hg w28 hbox hb; have n0_ := Aside0.mk (blk_below (g := gb140) (o := .cells #[.string a0_0, .int .i64 a0_1, .int .i64 a0_2, .bool a0_3] 23 (0, 0)) BK140.out hb); have n1_ := Aside0.mk (blk_below (g := gb141) (o := .cells #[.int .i64 a2_0, .int .i64 a2_1, .string a2_2] 25 (0, 0)) BK141.out hb); have n2_ := Aside0.mk (blk_below (g := gb147) (o := .cells #[.int .i64 t143, .int .i64 t144, .string t145] 25 (0, 0)) BK147.out hb); have n3_ := Aside0.mk (below_step (by repeat (first | (with_reducible first | exact HB.out | apply below_alloc | apply pw_below_drewN | apply below_drew1 | refine below_set ?_ GE140.out | refine below_set ?_ GE141.out | refine below_set ?_ GE147.out) | exact HB.out)) hb); have n4_ := Aside0.mk (hbox); have n6_ := Aside0.mk ((by rw [hg]; exact (below_size (by repeat (first | (with_reducible first | exact HB.out | apply below_alloc | apply pw_below_drewN | apply below_drew1 | refine below_set ?_ GE140.out | refine below_set ?_ GE141.out | refine below_set ?_ GE147.out) | exact HB.out))) : w.heap.size ≤ gb152)); have n7_ := Aside0.mk ((by rw [hg]; exact Nat.ne_of_lt (blk_lt (g := gb140) (o := .cells #[.string a0_0, .int .i64 a0_1, .int .i64 a0_2, .bool a0_3] 23 (0, 0)) BK140.out) : gb140 ≠ gb152)); have n8_ := Aside0.mk ((by rw [hg]; exact Nat.ne_of_gt (blk_lt (g := gb140) (o := .cells #[.string a0_0, .int .i64 a0_1, .int .i64 a0_2, .bool a0_3] 23 (0, 0)) BK140.out) : gb152 ≠ gb140)); have n9_ := Aside0.mk ((by rw [hg]; exact Nat.ne_of_lt (blk_lt (g := gb141) (o := .cells #[.int .i64 a2_0, .int .i64 a2_1, .string a2_2] 25 (0, 0)) BK141.out) : gb141 ≠ gb152)); have n10_ := Aside0.mk ((by rw [hg]; exact Nat.ne_of_gt (blk_lt (g := gb141) (o := .cells #[.int .i64 a2_0, .int .i64 a2_1, .string a2_2] 25 (0, 0)) BK141.out) : gb152 ≠ gb141)); have n11_ := Aside0.mk ((by rw [hg]; exact Nat.ne_of_lt (blk_lt (g := gb147) (o := .cells #[.int .i64 t143, .int .i64 t144, .string t145] 25 (0, 0)) BK147.out) : gb147 ≠ gb152)); have n12_ := Aside0.mk ((by rw [hg]; exact Nat.ne_of_gt (blk_lt (g := gb147) (o := .cells #[.int .i64 t143, .int .i64 t144, .string t145] 25 (0, 0)) BK147.out) : gb152 ≠ gb147)); clear BK140; clear BK141; clear BK147; clear HB; have BK140 := n0_; have BK141 := n1_; have BK147 := n2_; have HB := n3_; have BK152 := n4_; have GE152 := n6_; have NB140_152 := n7_; have NB152_140 := n8_; have NB141_152 := n9_; have NB152_141 := n10_; have NB147_152 := n11_; have NB152_147 := n12_; clear n0_ n1_ n2_ n3_ n4_ n6_ n7_ n8_ n9_ n10_ n11_ n12_; clear hb hbox hg; have hnb29 := NB152_140.out; have hnc29 := NB140_152.out; have hnb30 := NB152_141.out; have hnc30 := NB141_152.out; have hnb31 := NB152_147.out; have hnc31 := NB147_152.out; have hcz32_0 : w28.cell? ⟨gb152, 0, none⟩ = some (.int .i64 0) := (blk_cell BK152.out 0).trans rfl; have hcz32_1 : w28.cell? ⟨gb152, 1, none⟩ = some (.int .i64 0) := (blk_cell BK152.out 1).trans rfl; have hcz32_2 : w28.cell? ⟨gb152, 2, none⟩ = some (.string (⟨#[]⟩ : ByteArray)) := (blk_cell BK152.out 2).trans rfl; have hfz32_0 := blk_frozen BK152.out 0; have hfz32_1 := blk_frozen BK152.out 1; have hfz32_2 := blk_frozen BK152.out 2))
    (try simp only [Act.put, List.setIfInBounds_toArray, List.set_cons_zero, List.set_cons_succ])
    go_cut [44] (fun v44 wc => ∃ (kq : Nat) (x44_13 : Bool), v44 = .bool x44_13 ∧ Aside0 (cabinetrylaw03_TableFits.j0 kq a1 t146 x44_13 a0_0 a0_1 a0_2 a0_3 t143 t144 t145 = some r) ∧ Aside0 (kq ≤ k) ∧ Aside0 (wc.heap[gb140]? = some (.cells #[.string a0_0, .int .i64 a0_1, .int .i64 a0_2, .bool a0_3] 23 (0, 0))) ∧ Aside0 (wc.heap[gb141]? = some (.cells #[.int .i64 a2_0, .int .i64 a2_1, .string a2_2] 25 (0, 0))) ∧ Aside0 (wc.heap[gb147]? = some (.cells #[.int .i64 t143, .int .i64 t144, .string t145] 25 (0, 0))) ∧ Aside0 (wc.heap[gb152]? = some (.cells #[.int .i64 t148, .int .i64 t149, .string t150] 25 (0, 0))) ∧ Aside0 (Below w.heap.size w wc))
    case first =>
      have H := HC14.out
      clear HC14
      replace H := Option.bind_eq_some_iff.mp H
      obtain ⟨t153, A330, H⟩ := H
      replace H : (if t153 = true then (cabinetrylaw03_TableFits.j0 k a1 t146 (t146 != t151) a0_0 a0_1 a0_2 a0_3 t143 t144 t145) else (cabinetrylaw03_TableFits.j0 k a1 t146 true a0_0 a0_1 a0_2 a0_3 t143 t144 t145)) = some r := H
      have A33 := Aside0.mk A330
      clear A330
      by_cases c34 : t153 = true
      · subst c34
        have H1 : (cabinetrylaw03_TableFits.j0 k a1 t146 (t146 != t151) a0_0 a0_1 a0_2 a0_3 t143 t144 t145) = some r := by rw [if_pos rfl] at H; exact H
        clear H
        have H := H1
        clear H1
        have H' := Aside0.mk H
        clear H
        have hnb35 := NB147_140.out
        have hnc35 := NB140_147.out
        have hnb36 := NB147_141.out
        have hnc36 := NB141_147.out
        have hnb37 := NB147_152.out
        have hnc37 := NB152_147.out
        have hcz38_0 : w28.cell? ⟨gb147, 0, none⟩ = some (.int .i64 t143) := (blk_cell BK147.out 0).trans rfl
        have hcz38_1 : w28.cell? ⟨gb147, 1, none⟩ = some (.int .i64 t144) := (blk_cell BK147.out 1).trans rfl
        have hcz38_2 : w28.cell? ⟨gb147, 2, none⟩ = some (.string t145) := (blk_cell BK147.out 2).trans rfl
        have hfz38_0 := blk_frozen BK147.out 0
        have hfz38_1 := blk_frozen BK147.out 1
        have hfz38_2 := blk_frozen BK147.out 2
        have hnb39 := NB152_140.out
        have hnc39 := NB140_152.out
        have hnb40 := NB152_141.out
        have hnc40 := NB141_152.out
        have hcz41_0 : w28.cell? ⟨gb152, 0, none⟩ = some (.int .i64 0) := (blk_cell BK152.out 0).trans rfl
        have hcz41_1 : w28.cell? ⟨gb152, 1, none⟩ = some (.int .i64 0) := (blk_cell BK152.out 1).trans rfl
        have hcz41_2 : w28.cell? ⟨gb152, 2, none⟩ = some (.string (⟨#[]⟩ : ByteArray)) := (blk_cell BK152.out 2).trans rfl
        have hfz41_0 := blk_frozen BK152.out 0
        have hfz41_1 := blk_frozen BK152.out 1
        have hfz41_2 := blk_frozen BK152.out 2
        go_wp2_with (first | ((with_reducible refine gate_callee (f := 15) rfl ?_); refine goesL_ (some 38) rfl rfl Tryz.func15 (by kernel_rfl) rfl #[.agg #[.int .i64 t143, .int .i64 t144, .string t145], .agg #[.int .i64 t148, .int .i64 t149, .string t150]] rfl (by (try simp only [List.map_toArray, List.map_cons, List.map_nil]); first | done | rfl) ?_; (with_reducible refine (cabinetryref01_SameValue.calls k t143 t144 t145 t148 t149 t150 true _ A33.out).mono ?_); rintro e w42 ⟨rfl, hb⟩; refine ⟨_, rfl, ?_⟩; have n0_ := Aside0.mk (blk_below (g := gb140) (o := .cells #[.string a0_0, .int .i64 a0_1, .int .i64 a0_2, .bool a0_3] 23 (0, 0)) (by (with_reducible repeat (first | refine blk_drewN ?_ _ | refine blk_drew ?_ | refine blk_alloc ?_ _)); refine blk_far ?_ NB140_152.out _; (with_reducible repeat (first | refine blk_drewN ?_ _ | refine blk_drew ?_ | refine blk_alloc ?_ _)); refine blk_far ?_ NB140_152.out _; (with_reducible repeat (first | refine blk_drewN ?_ _ | refine blk_drew ?_ | refine blk_alloc ?_ _)); refine blk_far ?_ NB140_152.out _; (with_reducible repeat (first | refine blk_drewN ?_ _ | refine blk_drew ?_ | refine blk_alloc ?_ _)); exact BK140.out) hb); have n1_ := Aside0.mk (blk_below (g := gb141) (o := .cells #[.int .i64 a2_0, .int .i64 a2_1, .string a2_2] 25 (0, 0)) (by (with_reducible repeat (first | refine blk_drewN ?_ _ | refine blk_drew ?_ | refine blk_alloc ?_ _)); refine blk_far ?_ NB141_152.out _; (with_reducible repeat (first | refine blk_drewN ?_ _ | refine blk_drew ?_ | refine blk_alloc ?_ _)); refine blk_far ?_ NB141_152.out _; (with_reducible repeat (first | refine blk_drewN ?_ _ | refine blk_drew ?_ | refine blk_alloc ?_ _)); refine blk_far ?_ NB141_152.out _; (with_reducible repeat (first | refine blk_drewN ?_ _ | refine blk_drew ?_ | refine blk_alloc ?_ _)); exact BK141.out) hb); have n2_ := Aside0.mk (blk_below (g := gb147) (o := .cells #[.int .i64 t143, .int .i64 t144, .string t145] 25 (0, 0)) (by (with_reducible repeat (first | refine blk_drewN ?_ _ | refine blk_drew ?_ | refine blk_alloc ?_ _)); refine blk_far ?_ NB147_152.out _; (with_reducible repeat (first | refine blk_drewN ?_ _ | refine blk_drew ?_ | refine blk_alloc ?_ _)); refine blk_far ?_ NB147_152.out _; (with_reducible repeat (first | refine blk_drewN ?_ _ | refine blk_drew ?_ | refine blk_alloc ?_ _)); refine blk_far ?_ NB147_152.out _; (with_reducible repeat (first | refine blk_drewN ?_ _ | refine blk_drew ?_ | refine blk_alloc ?_ _)); exact BK147.out) hb); have n3_ := Aside0.mk (blk_below (g := gb152) (o := .cells #[.int .i64 t148, .int .i64 t149, .string t150] 25 (0, 0)) (by (with_reducible repeat (first | refine blk_drewN ?_ _ | refine blk_drew ?_ | refine blk_alloc ?_ _)); refine blk_put (cs := #[.int .i64 t148, .int .i64 t149, .string (⟨#[]⟩ : ByteArray)]) ?_ 2 _ rfl; (with_reducible repeat (first | refine blk_drewN ?_ _ | refine blk_drew ?_ | refine blk_alloc ?_ _)); refine blk_put (cs := #[.int .i64 t148, .int .i64 0, .string (⟨#[]⟩ : ByteArray)]) ?_ 1 _ rfl; (with_reducible repeat (first | refine blk_drewN ?_ _ | refine blk_drew ?_ | refine blk_alloc ?_ _)); refine blk_put (cs := #[.int .i64 0, .int .i64 0, .string (⟨#[]⟩ : ByteArray)]) ?_ 0 _ rfl; (with_reducible repeat (first | refine blk_drewN ?_ _ | refine blk_drew ?_ | refine blk_alloc ?_ _)); exact BK152.out) hb); have n4_ := Aside0.mk (below_step (by repeat (first | (with_reducible first | exact HB.out | apply below_alloc | apply pw_below_drewN | apply below_drew1 | refine below_set ?_ GE140.out | refine below_set ?_ GE141.out | refine below_set ?_ GE147.out | refine below_set ?_ GE152.out) | exact HB.out)) hb); clear BK140; clear BK141; clear BK147; clear BK152; clear HB; have BK140 := n0_; have BK141 := n1_; have BK147 := n2_; have BK152 := n3_; have HB := n4_; clear n0_ n1_ n2_ n3_ n4_; (try clear hb); (try clear hb2); (try clear hk); (try clear hi)))
        go_meet
        case rel => exact ⟨_, ((t146 != t151)), (by first | rfl | (simp; done) | (simp [*]; done)), H', ⟨by first | omega | exact Nat.le_refl _⟩, ⟨by (with_reducible repeat (first | refine blk_drewN ?_ _ | refine blk_drew ?_ | refine blk_alloc ?_ _)); exact BK140.out⟩, ⟨by (with_reducible repeat (first | refine blk_drewN ?_ _ | refine blk_drew ?_ | refine blk_alloc ?_ _)); exact BK141.out⟩, ⟨by (with_reducible repeat (first | refine blk_drewN ?_ _ | refine blk_drew ?_ | refine blk_alloc ?_ _)); exact BK147.out⟩, ⟨by (with_reducible repeat (first | refine blk_drewN ?_ _ | refine blk_drew ?_ | refine blk_alloc ?_ _)); exact BK152.out⟩, ⟨by repeat (first | (with_reducible first | exact HB.out | apply below_alloc | apply pw_below_drewN | apply below_drew1 | refine below_set ?_ GE140.out | refine below_set ?_ GE141.out | refine below_set ?_ GE147.out | refine below_set ?_ GE152.out) | exact HB.out)⟩⟩
      · replace c34 := Bool.eq_false_iff.mpr c34
        subst c34
        have H1 : (cabinetrylaw03_TableFits.j0 k a1 t146 true a0_0 a0_1 a0_2 a0_3 t143 t144 t145) = some r := by rw [if_neg (show ¬ (false = true) by decide)] at H; exact H
        clear H
        have H := H1
        clear H1
        have H' := Aside0.mk H
        clear H
        have hnb43 := NB147_140.out
        have hnc43 := NB140_147.out
        have hnb44 := NB147_141.out
        have hnc44 := NB141_147.out
        have hnb45 := NB147_152.out
        have hnc45 := NB152_147.out
        have hcz46_0 : w28.cell? ⟨gb147, 0, none⟩ = some (.int .i64 t143) := (blk_cell BK147.out 0).trans rfl
        have hcz46_1 : w28.cell? ⟨gb147, 1, none⟩ = some (.int .i64 t144) := (blk_cell BK147.out 1).trans rfl
        have hcz46_2 : w28.cell? ⟨gb147, 2, none⟩ = some (.string t145) := (blk_cell BK147.out 2).trans rfl
        have hfz46_0 := blk_frozen BK147.out 0
        have hfz46_1 := blk_frozen BK147.out 1
        have hfz46_2 := blk_frozen BK147.out 2
        have hnb47 := NB152_140.out
        have hnc47 := NB140_152.out
        have hnb48 := NB152_141.out
        have hnc48 := NB141_152.out
        have hcz49_0 : w28.cell? ⟨gb152, 0, none⟩ = some (.int .i64 0) := (blk_cell BK152.out 0).trans rfl
        have hcz49_1 : w28.cell? ⟨gb152, 1, none⟩ = some (.int .i64 0) := (blk_cell BK152.out 1).trans rfl
        have hcz49_2 : w28.cell? ⟨gb152, 2, none⟩ = some (.string (⟨#[]⟩ : ByteArray)) := (blk_cell BK152.out 2).trans rfl
        have hfz49_0 := blk_frozen BK152.out 0
        have hfz49_1 := blk_frozen BK152.out 1
        have hfz49_2 := blk_frozen BK152.out 2
        go_wp2_with (first | ((with_reducible refine gate_callee (f := 15) rfl ?_); refine goesL_ (some 38) rfl rfl Tryz.func15 (by kernel_rfl) rfl #[.agg #[.int .i64 t143, .int .i64 t144, .string t145], .agg #[.int .i64 t148, .int .i64 t149, .string t150]] rfl (by (try simp only [List.map_toArray, List.map_cons, List.map_nil]); first | done | rfl) ?_; (with_reducible refine (cabinetryref01_SameValue.calls k t143 t144 t145 t148 t149 t150 false _ A33.out).mono ?_); rintro e w50 ⟨rfl, hb⟩; refine ⟨_, rfl, ?_⟩; have n0_ := Aside0.mk (blk_below (g := gb140) (o := .cells #[.string a0_0, .int .i64 a0_1, .int .i64 a0_2, .bool a0_3] 23 (0, 0)) (by (with_reducible repeat (first | refine blk_drewN ?_ _ | refine blk_drew ?_ | refine blk_alloc ?_ _)); refine blk_far ?_ NB140_152.out _; (with_reducible repeat (first | refine blk_drewN ?_ _ | refine blk_drew ?_ | refine blk_alloc ?_ _)); refine blk_far ?_ NB140_152.out _; (with_reducible repeat (first | refine blk_drewN ?_ _ | refine blk_drew ?_ | refine blk_alloc ?_ _)); refine blk_far ?_ NB140_152.out _; (with_reducible repeat (first | refine blk_drewN ?_ _ | refine blk_drew ?_ | refine blk_alloc ?_ _)); exact BK140.out) hb); have n1_ := Aside0.mk (blk_below (g := gb141) (o := .cells #[.int .i64 a2_0, .int .i64 a2_1, .string a2_2] 25 (0, 0)) (by (with_reducible repeat (first | refine blk_drewN ?_ _ | refine blk_drew ?_ | refine blk_alloc ?_ _)); refine blk_far ?_ NB141_152.out _; (with_reducible repeat (first | refine blk_drewN ?_ _ | refine blk_drew ?_ | refine blk_alloc ?_ _)); refine blk_far ?_ NB141_152.out _; (with_reducible repeat (first | refine blk_drewN ?_ _ | refine blk_drew ?_ | refine blk_alloc ?_ _)); refine blk_far ?_ NB141_152.out _; (with_reducible repeat (first | refine blk_drewN ?_ _ | refine blk_drew ?_ | refine blk_alloc ?_ _)); exact BK141.out) hb); have n2_ := Aside0.mk (blk_below (g := gb147) (o := .cells #[.int .i64 t143, .int .i64 t144, .string t145] 25 (0, 0)) (by (with_reducible repeat (first | refine blk_drewN ?_ _ | refine blk_drew ?_ | refine blk_alloc ?_ _)); refine blk_far ?_ NB147_152.out _; (with_reducible repeat (first | refine blk_drewN ?_ _ | refine blk_drew ?_ | refine blk_alloc ?_ _)); refine blk_far ?_ NB147_152.out _; (with_reducible repeat (first | refine blk_drewN ?_ _ | refine blk_drew ?_ | refine blk_alloc ?_ _)); refine blk_far ?_ NB147_152.out _; (with_reducible repeat (first | refine blk_drewN ?_ _ | refine blk_drew ?_ | refine blk_alloc ?_ _)); exact BK147.out) hb); have n3_ := Aside0.mk (blk_below (g := gb152) (o := .cells #[.int .i64 t148, .int .i64 t149, .string t150] 25 (0, 0)) (by (with_reducible repeat (first | refine blk_drewN ?_ _ | refine blk_drew ?_ | refine blk_alloc ?_ _)); refine blk_put (cs := #[.int .i64 t148, .int .i64 t149, .string (⟨#[]⟩ : ByteArray)]) ?_ 2 _ rfl; (with_reducible repeat (first | refine blk_drewN ?_ _ | refine blk_drew ?_ | refine blk_alloc ?_ _)); refine blk_put (cs := #[.int .i64 t148, .int .i64 0, .string (⟨#[]⟩ : ByteArray)]) ?_ 1 _ rfl; (with_reducible repeat (first | refine blk_drewN ?_ _ | refine blk_drew ?_ | refine blk_alloc ?_ _)); refine blk_put (cs := #[.int .i64 0, .int .i64 0, .string (⟨#[]⟩ : ByteArray)]) ?_ 0 _ rfl; (with_reducible repeat (first | refine blk_drewN ?_ _ | refine blk_drew ?_ | refine blk_alloc ?_ _)); exact BK152.out) hb); have n4_ := Aside0.mk (below_step (by repeat (first | (with_reducible first | exact HB.out | apply below_alloc | apply pw_below_drewN | apply below_drew1 | refine below_set ?_ GE140.out | refine below_set ?_ GE141.out | refine below_set ?_ GE147.out | refine below_set ?_ GE152.out) | exact HB.out)) hb); clear BK140; clear BK141; clear BK147; clear BK152; clear HB; have BK140 := n0_; have BK141 := n1_; have BK147 := n2_; have BK152 := n3_; have HB := n4_; clear n0_ n1_ n2_ n3_ n4_; (try clear hb); (try clear hb2); (try clear hk); (try clear hi)))
        go_meet
        case rel => exact ⟨_, (true), (by first | rfl | (simp; done) | (simp [*]; done)), H', ⟨by first | omega | exact Nat.le_refl _⟩, ⟨by (with_reducible repeat (first | refine blk_drewN ?_ _ | refine blk_drew ?_ | refine blk_alloc ?_ _)); exact BK140.out⟩, ⟨by (with_reducible repeat (first | refine blk_drewN ?_ _ | refine blk_drew ?_ | refine blk_alloc ?_ _)); exact BK141.out⟩, ⟨by (with_reducible repeat (first | refine blk_drewN ?_ _ | refine blk_drew ?_ | refine blk_alloc ?_ _)); exact BK147.out⟩, ⟨by (with_reducible repeat (first | refine blk_drewN ?_ _ | refine blk_drew ?_ | refine blk_alloc ?_ _)); exact BK152.out⟩, ⟨by repeat (first | (with_reducible first | exact HB.out | apply below_alloc | apply pw_below_drewN | apply below_drew1 | refine below_set ?_ GE140.out | refine below_set ?_ GE141.out | refine below_set ?_ GE147.out | refine below_set ?_ GE152.out) | exact HB.out)⟩⟩
    case rest =>
      clear HC14
      (try clear c1);(try clear c2);(try clear p2);(try clear c3);(try clear c4);(try clear c4b0);(try clear p6);(try clear c8);(try clear c12);(try clear c13);(try clear c14);(try clear c15);(try clear c17);(try clear c22);(try clear c23);(try clear c29);(try clear c30);(try clear c31);(try clear c34);(try clear c35);(try clear c36);(try clear c37);(try clear c39);(try clear c40);(try clear c43);(try clear c44);(try clear c45);(try clear c47);(try clear c48);(try clear hcz10_0);(try clear hcz10_1);(try clear hcz10_2);(try clear hcz18_0);(try clear hcz18_1);(try clear hcz18_2);(try clear hcz18_3);(try clear hcz19_0);(try clear hcz19_1);(try clear hcz19_2);(try clear hcz24_0);(try clear hcz24_1);(try clear hcz24_2);(try clear hcz25_0);(try clear hcz25_1);(try clear hcz25_2);(try clear hcz25_3);(try clear hcz26_0);(try clear hcz26_1);(try clear hcz26_2);(try clear hcz32_0);(try clear hcz32_1);(try clear hcz32_2);(try clear hcz38_0);(try clear hcz38_1);(try clear hcz38_2);(try clear hcz41_0);(try clear hcz41_1);(try clear hcz41_2);(try clear hcz46_0);(try clear hcz46_1);(try clear hcz46_2);(try clear hcz49_0);(try clear hcz49_1);(try clear hcz49_2);(try clear hcz9_0);(try clear hcz9_1);(try clear hcz9_2);(try clear hcz9_3);(try clear hfz10_0);(try clear hfz10_1);(try clear hfz10_2);(try clear hfz18_0);(try clear hfz18_1);(try clear hfz18_2);(try clear hfz18_3);(try clear hfz19_0);(try clear hfz19_1);(try clear hfz19_2);(try clear hfz24_0);(try clear hfz24_1);(try clear hfz24_2);(try clear hfz25_0);(try clear hfz25_1);(try clear hfz25_2);(try clear hfz25_3);(try clear hfz26_0);(try clear hfz26_1);(try clear hfz26_2);(try clear hfz32_0);(try clear hfz32_1);(try clear hfz32_2);(try clear hfz38_0);(try clear hfz38_1);(try clear hfz38_2);(try clear hfz41_0);(try clear hfz41_1);(try clear hfz41_2);(try clear hfz46_0);(try clear hfz46_1);(try clear hfz46_2);(try clear hfz49_0);(try clear hfz49_1);(try clear hfz49_2);(try clear hfz9_0);(try clear hfz9_1);(try clear hfz9_2);(try clear hfz9_3)
      obtain ⟨kq, x44_13, rfl, HA, HJ13, BK140, BK141, BK147, BK152, HB⟩ := hcut
      cases kq with
      | zero => exact absurd HA.out (by simp [cabinetrylaw03_TableFits.j0])
      | succ kj13 =>
        have H := HA.out
        clear HA
        simp only [cabinetrylaw03_TableFits.j0] at H
        by_cases c51 : x44_13 = true
        · subst c51
          have H1 : (some false) = some r := by rw [if_pos rfl] at H; exact H
          clear H
          have H := H1
          clear H1
          obtain rfl := Option.some.inj H
          go_wp2
          go_ret
          exact ⟨rfl, by repeat (first | (with_reducible first | exact HB.out | apply below_alloc | apply pw_below_drewN | apply below_drew1 | refine below_set ?_ GE140.out | refine below_set ?_ GE141.out | refine below_set ?_ GE147.out | refine below_set ?_ GE152.out) | exact HB.out)⟩
        · replace c51 := Bool.eq_false_iff.mpr c51
          subst c51
          have H1 : (if t146 = 0 then ((table_Fit.f a0_0 a0_1 a0_2 a0_3 a1 t143 t144 t145).bind fun bt155 => ((cabinetryref01_SameValue.f kj13 t143 t144 t145 bt155.1 bt155.2.1 bt155.2.2.1).bind fun t160 => (if t160 = true then (if bt155.2.2.2 = 0 then ((cabinetrylaw03_known.f).bind fun t161 => (cabinetrylaw03_TableFits.j1 kj13 t161)) else (cabinetrylaw03_TableFits.j1 kj13 false)) else (cabinetrylaw03_TableFits.j1 kj13 false)))) else ((cabinetrylaw03_known.f).bind fun t154 => (some t154))) = some r := by rw [if_neg (show ¬ (false = true) by decide)] at H; exact H
          clear H
          have H := H1
          clear H1
          by_cases c52 : t146 = 0
          · rw [if_pos c52] at H
            have c52b0 : (t146 == 0) = true := beq_iff_eq.mpr c52
            have c52b1 : (t146 != 0) = false := bne_eq_false_iff_eq.mpr c52
            clear c52
            replace H := Option.bind_eq_some_iff.mp H
            obtain ⟨⟨t155, t156, t157, t158⟩, A530, H⟩ := H
            replace H : ((cabinetryref01_SameValue.f kj13 t143 t144 t145 t155 t156 t157).bind fun t160 => (if t160 = true then (if t158 = 0 then ((cabinetrylaw03_known.f).bind fun t161 => (cabinetrylaw03_TableFits.j1 kj13 t161)) else (cabinetrylaw03_TableFits.j1 kj13 false)) else (cabinetrylaw03_TableFits.j1 kj13 false))) = some r := H
            have A53 := Aside0.mk A530
            clear A530
            have HC54 := Aside0.mk H
            clear H
            have hnb55 := NB140_141.out
            have hnc55 := NB141_140.out
            have hnb56 := NB140_147.out
            have hnc56 := NB147_140.out
            have hnb57 := NB140_152.out
            have hnc57 := NB152_140.out
            have hcz58_0 : wc.cell? ⟨gb140, 0, none⟩ = some (.string a0_0) := (blk_cell BK140.out 0).trans rfl
            have hcz58_1 : wc.cell? ⟨gb140, 1, none⟩ = some (.int .i64 a0_1) := (blk_cell BK140.out 1).trans rfl
            have hcz58_2 : wc.cell? ⟨gb140, 2, none⟩ = some (.int .i64 a0_2) := (blk_cell BK140.out 2).trans rfl
            have hcz58_3 : wc.cell? ⟨gb140, 3, none⟩ = some (.bool a0_3) := (blk_cell BK140.out 3).trans rfl
            have hfz58_0 := blk_frozen BK140.out 0
            have hfz58_1 := blk_frozen BK140.out 1
            have hfz58_2 := blk_frozen BK140.out 2
            have hfz58_3 := blk_frozen BK140.out 3
            have hnb59 := NB147_141.out
            have hnc59 := NB141_147.out
            have hnb60 := NB147_152.out
            have hnc60 := NB152_147.out
            have hcz61_0 : wc.cell? ⟨gb147, 0, none⟩ = some (.int .i64 t143) := (blk_cell BK147.out 0).trans rfl
            have hcz61_1 : wc.cell? ⟨gb147, 1, none⟩ = some (.int .i64 t144) := (blk_cell BK147.out 1).trans rfl
            have hcz61_2 : wc.cell? ⟨gb147, 2, none⟩ = some (.string t145) := (blk_cell BK147.out 2).trans rfl
            have hfz61_0 := blk_frozen BK147.out 0
            have hfz61_1 := blk_frozen BK147.out 1
            have hfz61_2 := blk_frozen BK147.out 2
            go_upto_region 10 with (first | ((with_reducible refine gate_callee (f := 13) rfl ?_); refine goesL_ (some 52) rfl rfl Tryz.func13 (by kernel_rfl) rfl #[.agg #[.string a0_0, .int .i64 a0_1, .int .i64 a0_2, .bool a0_3], .int .i64 a1, .agg #[.int .i64 t143, .int .i64 t144, .string t145]] rfl (by (try simp only [List.map_toArray, List.map_cons, List.map_nil]); first | done | rfl) ?_; (with_reducible refine (table_Fit.calls a0_0 a0_1 a0_2 a0_3 a1 t143 t144 t145 t155 t156 t157 t158 _ A53.out).mono ?_); rintro e w62 ⟨rfl, hb⟩; refine ⟨_, rfl, ?_⟩; have n0_ := Aside0.mk (blk_below (g := gb140) (o := .cells #[.string a0_0, .int .i64 a0_1, .int .i64 a0_2, .bool a0_3] 23 (0, 0)) BK140.out hb); have n1_ := Aside0.mk (blk_below (g := gb141) (o := .cells #[.int .i64 a2_0, .int .i64 a2_1, .string a2_2] 25 (0, 0)) BK141.out hb); have n2_ := Aside0.mk (blk_below (g := gb147) (o := .cells #[.int .i64 t143, .int .i64 t144, .string t145] 25 (0, 0)) BK147.out hb); have n3_ := Aside0.mk (blk_below (g := gb152) (o := .cells #[.int .i64 t148, .int .i64 t149, .string t150] 25 (0, 0)) BK152.out hb); have n4_ := Aside0.mk (below_step (by repeat (first | (with_reducible first | exact HB.out | apply below_alloc | apply pw_below_drewN | apply below_drew1 | refine below_set ?_ GE140.out | refine below_set ?_ GE141.out | refine below_set ?_ GE147.out | refine below_set ?_ GE152.out) | exact HB.out)) hb); clear BK140; clear BK141; clear BK147; clear BK152; clear HB; have BK140 := n0_; have BK141 := n1_; have BK147 := n2_; have BK152 := n3_; have HB := n4_; clear n0_ n1_ n2_ n3_ n4_; (try clear hb); (try clear hb2); (try clear hk); (try clear hi)) | ((with_reducible refine gate_dst (N := 11) rfl ?_); refine box_event ?hg (N := 11) ?hd (cs := #[.int .i64 0, .int .i64 0, .string (⟨#[]⟩ : ByteArray)]) (t := 25) ?hr ?_; (case hd => rfl); (case hg => rfl); (case hr => go_simp; try rfl); intro gb159 hg w63 hbox hb; have n0_ := Aside0.mk (blk_below (g := gb140) (o := .cells #[.string a0_0, .int .i64 a0_1, .int .i64 a0_2, .bool a0_3] 23 (0, 0)) BK140.out hb); have n1_ := Aside0.mk (blk_below (g := gb141) (o := .cells #[.int .i64 a2_0, .int .i64 a2_1, .string a2_2] 25 (0, 0)) BK141.out hb); have n2_ := Aside0.mk (blk_below (g := gb147) (o := .cells #[.int .i64 t143, .int .i64 t144, .string t145] 25 (0, 0)) BK147.out hb); have n3_ := Aside0.mk (blk_below (g := gb152) (o := .cells #[.int .i64 t148, .int .i64 t149, .string t150] 25 (0, 0)) BK152.out hb); have n4_ := Aside0.mk (below_step (by repeat (first | (with_reducible first | exact HB.out | apply below_alloc | apply pw_below_drewN | apply below_drew1 | refine below_set ?_ GE140.out | refine below_set ?_ GE141.out | refine below_set ?_ GE147.out | refine below_set ?_ GE152.out) | exact HB.out)) hb); have n5_ := Aside0.mk (hbox); have n7_ := Aside0.mk ((by rw [hg]; exact (below_size (by repeat (first | (with_reducible first | exact HB.out | apply below_alloc | apply pw_below_drewN | apply below_drew1 | refine below_set ?_ GE140.out | refine below_set ?_ GE141.out | refine below_set ?_ GE147.out | refine below_set ?_ GE152.out) | exact HB.out))) : w.heap.size ≤ gb159)); have n8_ := Aside0.mk ((by rw [hg]; exact Nat.ne_of_lt (blk_lt (g := gb140) (o := .cells #[.string a0_0, .int .i64 a0_1, .int .i64 a0_2, .bool a0_3] 23 (0, 0)) BK140.out) : gb140 ≠ gb159)); have n9_ := Aside0.mk ((by rw [hg]; exact Nat.ne_of_gt (blk_lt (g := gb140) (o := .cells #[.string a0_0, .int .i64 a0_1, .int .i64 a0_2, .bool a0_3] 23 (0, 0)) BK140.out) : gb159 ≠ gb140)); have n10_ := Aside0.mk ((by rw [hg]; exact Nat.ne_of_lt (blk_lt (g := gb141) (o := .cells #[.int .i64 a2_0, .int .i64 a2_1, .string a2_2] 25 (0, 0)) BK141.out) : gb141 ≠ gb159)); have n11_ := Aside0.mk ((by rw [hg]; exact Nat.ne_of_gt (blk_lt (g := gb141) (o := .cells #[.int .i64 a2_0, .int .i64 a2_1, .string a2_2] 25 (0, 0)) BK141.out) : gb159 ≠ gb141)); have n12_ := Aside0.mk ((by rw [hg]; exact Nat.ne_of_lt (blk_lt (g := gb147) (o := .cells #[.int .i64 t143, .int .i64 t144, .string t145] 25 (0, 0)) BK147.out) : gb147 ≠ gb159)); have n13_ := Aside0.mk ((by rw [hg]; exact Nat.ne_of_gt (blk_lt (g := gb147) (o := .cells #[.int .i64 t143, .int .i64 t144, .string t145] 25 (0, 0)) BK147.out) : gb159 ≠ gb147)); have n14_ := Aside0.mk ((by rw [hg]; exact Nat.ne_of_lt (blk_lt (g := gb152) (o := .cells #[.int .i64 t148, .int .i64 t149, .string t150] 25 (0, 0)) BK152.out) : gb152 ≠ gb159)); have n15_ := Aside0.mk ((by rw [hg]; exact Nat.ne_of_gt (blk_lt (g := gb152) (o := .cells #[.int .i64 t148, .int .i64 t149, .string t150] 25 (0, 0)) BK152.out) : gb159 ≠ gb152)); clear BK140; clear BK141; clear BK147; clear BK152; clear HB; have BK140 := n0_; have BK141 := n1_; have BK147 := n2_; have BK152 := n3_; have HB := n4_; have BK159 := n5_; have GE159 := n7_; have NB140_159 := n8_; have NB159_140 := n9_; have NB141_159 := n10_; have NB159_141 := n11_; have NB147_159 := n12_; have NB159_147 := n13_; have NB152_159 := n14_; have NB159_152 := n15_; clear n0_ n1_ n2_ n3_ n4_ n5_ n7_ n8_ n9_ n10_ n11_ n12_ n13_ n14_ n15_; clear hb hbox hg; have hnb64 := NB159_140.out; have hnc64 := NB140_159.out; have hnb65 := NB159_141.out; have hnc65 := NB141_159.out; have hnb66 := NB159_147.out; have hnc66 := NB147_159.out; have hnb67 := NB159_152.out; have hnc67 := NB152_159.out; have hcz68_0 : w63.cell? ⟨gb159, 0, none⟩ = some (.int .i64 0) := (blk_cell BK159.out 0).trans rfl; have hcz68_1 : w63.cell? ⟨gb159, 1, none⟩ = some (.int .i64 0) := (blk_cell BK159.out 1).trans rfl; have hcz68_2 : w63.cell? ⟨gb159, 2, none⟩ = some (.string (⟨#[]⟩ : ByteArray)) := (blk_cell BK159.out 2).trans rfl; have hfz68_0 := blk_frozen BK159.out 0; have hfz68_1 := blk_frozen BK159.out 1; have hfz68_2 := blk_frozen BK159.out 2))
            (try simp only [Act.put, List.setIfInBounds_toArray, List.set_cons_zero, List.set_cons_succ])
            go_cut [6] (fun v6 wc => ∃ (kq : Nat) (x6_53 : Bool), v6 = .bool x6_53 ∧ Aside0 (cabinetrylaw03_TableFits.j1 kq x6_53 = some r) ∧ Aside0 (kq ≤ kj13) ∧ Aside0 (wc.heap[gb140]? = some (.cells #[.string a0_0, .int .i64 a0_1, .int .i64 a0_2, .bool a0_3] 23 (0, 0))) ∧ Aside0 (wc.heap[gb141]? = some (.cells #[.int .i64 a2_0, .int .i64 a2_1, .string a2_2] 25 (0, 0))) ∧ Aside0 (wc.heap[gb147]? = some (.cells #[.int .i64 t143, .int .i64 t144, .string t145] 25 (0, 0))) ∧ Aside0 (wc.heap[gb152]? = some (.cells #[.int .i64 t148, .int .i64 t149, .string t150] 25 (0, 0))) ∧ Aside0 (wc.heap[gb159]? = some (.cells #[.int .i64 t155, .int .i64 t156, .string t157] 25 (0, 0))) ∧ Aside0 (Below w.heap.size w wc))
            case first =>
              have H := HC54.out
              clear HC54
              replace H := Option.bind_eq_some_iff.mp H
              obtain ⟨t160, A690, H⟩ := H
              replace H : (if t160 = true then (if t158 = 0 then ((cabinetrylaw03_known.f).bind fun t161 => (cabinetrylaw03_TableFits.j1 kj13 t161)) else (cabinetrylaw03_TableFits.j1 kj13 false)) else (cabinetrylaw03_TableFits.j1 kj13 false)) = some r := H
              have A69 := Aside0.mk A690
              clear A690
              by_cases c70 : t160 = true
              · subst c70
                have H1 : (if t158 = 0 then ((cabinetrylaw03_known.f).bind fun t161 => (cabinetrylaw03_TableFits.j1 kj13 t161)) else (cabinetrylaw03_TableFits.j1 kj13 false)) = some r := by rw [if_pos rfl] at H; exact H
                clear H
                have H := H1
                clear H1
                by_cases c71 : t158 = 0
                · rw [if_pos c71] at H
                  have c71b0 : (t158 == 0) = true := beq_iff_eq.mpr c71
                  have c71b1 : (t158 != 0) = false := bne_eq_false_iff_eq.mpr c71
                  clear c71
                  (first | rw [c71b0] | (simp only [i64_w, i32_w]; rw [c71b0]) | skip)
                  replace H := Option.bind_eq_some_iff.mp H
                  obtain ⟨t161, A720, H⟩ := H
                  replace H : (cabinetrylaw03_TableFits.j1 kj13 t161) = some r := H
                  have A72 := Aside0.mk A720
                  clear A720
                  have H' := Aside0.mk H
                  clear H
                  have hnb73 := NB147_140.out
                  have hnc73 := NB140_147.out
                  have hnb74 := NB147_141.out
                  have hnc74 := NB141_147.out
                  have hnb75 := NB147_152.out
                  have hnc75 := NB152_147.out
                  have hnb76 := NB147_159.out
                  have hnc76 := NB159_147.out
                  have hcz77_0 : w63.cell? ⟨gb147, 0, none⟩ = some (.int .i64 t143) := (blk_cell BK147.out 0).trans rfl
                  have hcz77_1 : w63.cell? ⟨gb147, 1, none⟩ = some (.int .i64 t144) := (blk_cell BK147.out 1).trans rfl
                  have hcz77_2 : w63.cell? ⟨gb147, 2, none⟩ = some (.string t145) := (blk_cell BK147.out 2).trans rfl
                  have hfz77_0 := blk_frozen BK147.out 0
                  have hfz77_1 := blk_frozen BK147.out 1
                  have hfz77_2 := blk_frozen BK147.out 2
                  have hnb78 := NB159_140.out
                  have hnc78 := NB140_159.out
                  have hnb79 := NB159_141.out
                  have hnc79 := NB141_159.out
                  have hnb80 := NB159_152.out
                  have hnc80 := NB152_159.out
                  have hcz81_0 : w63.cell? ⟨gb159, 0, none⟩ = some (.int .i64 0) := (blk_cell BK159.out 0).trans rfl
                  have hcz81_1 : w63.cell? ⟨gb159, 1, none⟩ = some (.int .i64 0) := (blk_cell BK159.out 1).trans rfl
                  have hcz81_2 : w63.cell? ⟨gb159, 2, none⟩ = some (.string (⟨#[]⟩ : ByteArray)) := (blk_cell BK159.out 2).trans rfl
                  have hfz81_0 := blk_frozen BK159.out 0
                  have hfz81_1 := blk_frozen BK159.out 1
                  have hfz81_2 := blk_frozen BK159.out 2
                  go_wp2_with (first | ((with_reducible refine gate_callee (f := 15) rfl ?_); refine goesL_ (some 57) rfl rfl Tryz.func15 (by kernel_rfl) rfl #[.agg #[.int .i64 t143, .int .i64 t144, .string t145], .agg #[.int .i64 t155, .int .i64 t156, .string t157]] rfl (by (try simp only [List.map_toArray, List.map_cons, List.map_nil]); first | done | rfl) ?_; (with_reducible refine (cabinetryref01_SameValue.calls kj13 t143 t144 t145 t155 t156 t157 true _ A69.out).mono ?_); rintro e w82 ⟨rfl, hb⟩; refine ⟨_, rfl, ?_⟩; have n0_ := Aside0.mk (blk_below (g := gb140) (o := .cells #[.string a0_0, .int .i64 a0_1, .int .i64 a0_2, .bool a0_3] 23 (0, 0)) (by (with_reducible repeat (first | refine blk_drewN ?_ _ | refine blk_drew ?_ | refine blk_alloc ?_ _)); refine blk_far ?_ NB140_159.out _; (with_reducible repeat (first | refine blk_drewN ?_ _ | refine blk_drew ?_ | refine blk_alloc ?_ _)); refine blk_far ?_ NB140_159.out _; (with_reducible repeat (first | refine blk_drewN ?_ _ | refine blk_drew ?_ | refine blk_alloc ?_ _)); refine blk_far ?_ NB140_159.out _; (with_reducible repeat (first | refine blk_drewN ?_ _ | refine blk_drew ?_ | refine blk_alloc ?_ _)); exact BK140.out) hb); have n1_ := Aside0.mk (blk_below (g := gb141) (o := .cells #[.int .i64 a2_0, .int .i64 a2_1, .string a2_2] 25 (0, 0)) (by (with_reducible repeat (first | refine blk_drewN ?_ _ | refine blk_drew ?_ | refine blk_alloc ?_ _)); refine blk_far ?_ NB141_159.out _; (with_reducible repeat (first | refine blk_drewN ?_ _ | refine blk_drew ?_ | refine blk_alloc ?_ _)); refine blk_far ?_ NB141_159.out _; (with_reducible repeat (first | refine blk_drewN ?_ _ | refine blk_drew ?_ | refine blk_alloc ?_ _)); refine blk_far ?_ NB141_159.out _; (with_reducible repeat (first | refine blk_drewN ?_ _ | refine blk_drew ?_ | refine blk_alloc ?_ _)); exact BK141.out) hb); have n2_ := Aside0.mk (blk_below (g := gb147) (o := .cells #[.int .i64 t143, .int .i64 t144, .string t145] 25 (0, 0)) (by (with_reducible repeat (first | refine blk_drewN ?_ _ | refine blk_drew ?_ | refine blk_alloc ?_ _)); refine blk_far ?_ NB147_159.out _; (with_reducible repeat (first | refine blk_drewN ?_ _ | refine blk_drew ?_ | refine blk_alloc ?_ _)); refine blk_far ?_ NB147_159.out _; (with_reducible repeat (first | refine blk_drewN ?_ _ | refine blk_drew ?_ | refine blk_alloc ?_ _)); refine blk_far ?_ NB147_159.out _; (with_reducible repeat (first | refine blk_drewN ?_ _ | refine blk_drew ?_ | refine blk_alloc ?_ _)); exact BK147.out) hb); have n3_ := Aside0.mk (blk_below (g := gb152) (o := .cells #[.int .i64 t148, .int .i64 t149, .string t150] 25 (0, 0)) (by (with_reducible repeat (first | refine blk_drewN ?_ _ | refine blk_drew ?_ | refine blk_alloc ?_ _)); refine blk_far ?_ NB152_159.out _; (with_reducible repeat (first | refine blk_drewN ?_ _ | refine blk_drew ?_ | refine blk_alloc ?_ _)); refine blk_far ?_ NB152_159.out _; (with_reducible repeat (first | refine blk_drewN ?_ _ | refine blk_drew ?_ | refine blk_alloc ?_ _)); refine blk_far ?_ NB152_159.out _; (with_reducible repeat (first | refine blk_drewN ?_ _ | refine blk_drew ?_ | refine blk_alloc ?_ _)); exact BK152.out) hb); have n4_ := Aside0.mk (blk_below (g := gb159) (o := .cells #[.int .i64 t155, .int .i64 t156, .string t157] 25 (0, 0)) (by (with_reducible repeat (first | refine blk_drewN ?_ _ | refine blk_drew ?_ | refine blk_alloc ?_ _)); refine blk_put (cs := #[.int .i64 t155, .int .i64 t156, .string (⟨#[]⟩ : ByteArray)]) ?_ 2 _ rfl; (with_reducible repeat (first | refine blk_drewN ?_ _ | refine blk_drew ?_ | refine blk_alloc ?_ _)); refine blk_put (cs := #[.int .i64 t155, .int .i64 0, .string (⟨#[]⟩ : ByteArray)]) ?_ 1 _ rfl; (with_reducible repeat (first | refine blk_drewN ?_ _ | refine blk_drew ?_ | refine blk_alloc ?_ _)); refine blk_put (cs := #[.int .i64 0, .int .i64 0, .string (⟨#[]⟩ : ByteArray)]) ?_ 0 _ rfl; (with_reducible repeat (first | refine blk_drewN ?_ _ | refine blk_drew ?_ | refine blk_alloc ?_ _)); exact BK159.out) hb); have n5_ := Aside0.mk (below_step (by repeat (first | (with_reducible first | exact HB.out | apply below_alloc | apply pw_below_drewN | apply below_drew1 | refine below_set ?_ GE140.out | refine below_set ?_ GE141.out | refine below_set ?_ GE147.out | refine below_set ?_ GE152.out | refine below_set ?_ GE159.out) | exact HB.out)) hb); clear BK140; clear BK141; clear BK147; clear BK152; clear BK159; clear HB; have BK140 := n0_; have BK141 := n1_; have BK147 := n2_; have BK152 := n3_; have BK159 := n4_; have HB := n5_; clear n0_ n1_ n2_ n3_ n4_ n5_; (try clear hb); (try clear hb2); (try clear hk); (try clear hi)) | (go_at_call 12; (with_reducible refine (cabinetrylaw03_known.calls  t161 _ A72.out).mono ?_); rintro e w83 ⟨rfl, hb⟩; have n0_ := Aside0.mk (blk_below (g := gb140) (o := .cells #[.string a0_0, .int .i64 a0_1, .int .i64 a0_2, .bool a0_3] 23 (0, 0)) BK140.out hb); have n1_ := Aside0.mk (blk_below (g := gb141) (o := .cells #[.int .i64 a2_0, .int .i64 a2_1, .string a2_2] 25 (0, 0)) BK141.out hb); have n2_ := Aside0.mk (blk_below (g := gb147) (o := .cells #[.int .i64 t143, .int .i64 t144, .string t145] 25 (0, 0)) BK147.out hb); have n3_ := Aside0.mk (blk_below (g := gb152) (o := .cells #[.int .i64 t148, .int .i64 t149, .string t150] 25 (0, 0)) BK152.out hb); have n4_ := Aside0.mk (blk_below (g := gb159) (o := .cells #[.int .i64 t155, .int .i64 t156, .string t157] 25 (0, 0)) BK159.out hb); have n5_ := Aside0.mk (below_step (by repeat (first | (with_reducible first | exact HB.out | apply below_alloc | apply pw_below_drewN | apply below_drew1 | refine below_set ?_ GE140.out | refine below_set ?_ GE141.out | refine below_set ?_ GE147.out | refine below_set ?_ GE152.out | refine below_set ?_ GE159.out) | exact HB.out)) hb); clear BK140; clear BK141; clear BK147; clear BK152; clear BK159; clear HB; have BK140 := n0_; have BK141 := n1_; have BK147 := n2_; have BK152 := n3_; have BK159 := n4_; have HB := n5_; clear n0_ n1_ n2_ n3_ n4_ n5_; (try clear hb); (try clear hb2); (try clear hk); (try clear hi)))
                  go_meet
                  case rel => exact ⟨_, (t161), (by first | rfl | (simp; done) | (simp [*]; done)), H', ⟨by have := HJ13.out; first | omega | exact Nat.le_refl _⟩, ⟨by (with_reducible repeat (first | refine blk_drewN ?_ _ | refine blk_drew ?_ | refine blk_alloc ?_ _)); exact BK140.out⟩, ⟨by (with_reducible repeat (first | refine blk_drewN ?_ _ | refine blk_drew ?_ | refine blk_alloc ?_ _)); exact BK141.out⟩, ⟨by (with_reducible repeat (first | refine blk_drewN ?_ _ | refine blk_drew ?_ | refine blk_alloc ?_ _)); exact BK147.out⟩, ⟨by (with_reducible repeat (first | refine blk_drewN ?_ _ | refine blk_drew ?_ | refine blk_alloc ?_ _)); exact BK152.out⟩, ⟨by (with_reducible repeat (first | refine blk_drewN ?_ _ | refine blk_drew ?_ | refine blk_alloc ?_ _)); exact BK159.out⟩, ⟨by repeat (first | (with_reducible first | exact HB.out | apply below_alloc | apply pw_below_drewN | apply below_drew1 | refine below_set ?_ GE140.out | refine below_set ?_ GE141.out | refine below_set ?_ GE147.out | refine below_set ?_ GE152.out | refine below_set ?_ GE159.out) | exact HB.out)⟩⟩
                · rw [if_neg c71] at H
                  have c71b0 : (t158 == 0) = false := beq_eq_false_iff_ne.mpr c71
                  have c71b1 : (t158 != 0) = true := bne_iff_ne.mpr c71
                  (first | rw [c71b0] | (simp only [i64_w, i32_w]; rw [c71b0]) | skip)
                  have H' := Aside0.mk H
                  clear H
                  have hnb84 := NB147_140.out
                  have hnc84 := NB140_147.out
                  have hnb85 := NB147_141.out
                  have hnc85 := NB141_147.out
                  have hnb86 := NB147_152.out
                  have hnc86 := NB152_147.out
                  have hnb87 := NB147_159.out
                  have hnc87 := NB159_147.out
                  have hcz88_0 : w63.cell? ⟨gb147, 0, none⟩ = some (.int .i64 t143) := (blk_cell BK147.out 0).trans rfl
                  have hcz88_1 : w63.cell? ⟨gb147, 1, none⟩ = some (.int .i64 t144) := (blk_cell BK147.out 1).trans rfl
                  have hcz88_2 : w63.cell? ⟨gb147, 2, none⟩ = some (.string t145) := (blk_cell BK147.out 2).trans rfl
                  have hfz88_0 := blk_frozen BK147.out 0
                  have hfz88_1 := blk_frozen BK147.out 1
                  have hfz88_2 := blk_frozen BK147.out 2
                  have hnb89 := NB159_140.out
                  have hnc89 := NB140_159.out
                  have hnb90 := NB159_141.out
                  have hnc90 := NB141_159.out
                  have hnb91 := NB159_152.out
                  have hnc91 := NB152_159.out
                  have hcz92_0 : w63.cell? ⟨gb159, 0, none⟩ = some (.int .i64 0) := (blk_cell BK159.out 0).trans rfl
                  have hcz92_1 : w63.cell? ⟨gb159, 1, none⟩ = some (.int .i64 0) := (blk_cell BK159.out 1).trans rfl
                  have hcz92_2 : w63.cell? ⟨gb159, 2, none⟩ = some (.string (⟨#[]⟩ : ByteArray)) := (blk_cell BK159.out 2).trans rfl
                  have hfz92_0 := blk_frozen BK159.out 0
                  have hfz92_1 := blk_frozen BK159.out 1
                  have hfz92_2 := blk_frozen BK159.out 2
                  go_wp2_with (first | ((with_reducible refine gate_callee (f := 15) rfl ?_); refine goesL_ (some 57) rfl rfl Tryz.func15 (by kernel_rfl) rfl #[.agg #[.int .i64 t143, .int .i64 t144, .string t145], .agg #[.int .i64 t155, .int .i64 t156, .string t157]] rfl (by (try simp only [List.map_toArray, List.map_cons, List.map_nil]); first | done | rfl) ?_; (with_reducible refine (cabinetryref01_SameValue.calls kj13 t143 t144 t145 t155 t156 t157 true _ A69.out).mono ?_); rintro e w93 ⟨rfl, hb⟩; refine ⟨_, rfl, ?_⟩; have n0_ := Aside0.mk (blk_below (g := gb140) (o := .cells #[.string a0_0, .int .i64 a0_1, .int .i64 a0_2, .bool a0_3] 23 (0, 0)) (by (with_reducible repeat (first | refine blk_drewN ?_ _ | refine blk_drew ?_ | refine blk_alloc ?_ _)); refine blk_far ?_ NB140_159.out _; (with_reducible repeat (first | refine blk_drewN ?_ _ | refine blk_drew ?_ | refine blk_alloc ?_ _)); refine blk_far ?_ NB140_159.out _; (with_reducible repeat (first | refine blk_drewN ?_ _ | refine blk_drew ?_ | refine blk_alloc ?_ _)); refine blk_far ?_ NB140_159.out _; (with_reducible repeat (first | refine blk_drewN ?_ _ | refine blk_drew ?_ | refine blk_alloc ?_ _)); exact BK140.out) hb); have n1_ := Aside0.mk (blk_below (g := gb141) (o := .cells #[.int .i64 a2_0, .int .i64 a2_1, .string a2_2] 25 (0, 0)) (by (with_reducible repeat (first | refine blk_drewN ?_ _ | refine blk_drew ?_ | refine blk_alloc ?_ _)); refine blk_far ?_ NB141_159.out _; (with_reducible repeat (first | refine blk_drewN ?_ _ | refine blk_drew ?_ | refine blk_alloc ?_ _)); refine blk_far ?_ NB141_159.out _; (with_reducible repeat (first | refine blk_drewN ?_ _ | refine blk_drew ?_ | refine blk_alloc ?_ _)); refine blk_far ?_ NB141_159.out _; (with_reducible repeat (first | refine blk_drewN ?_ _ | refine blk_drew ?_ | refine blk_alloc ?_ _)); exact BK141.out) hb); have n2_ := Aside0.mk (blk_below (g := gb147) (o := .cells #[.int .i64 t143, .int .i64 t144, .string t145] 25 (0, 0)) (by (with_reducible repeat (first | refine blk_drewN ?_ _ | refine blk_drew ?_ | refine blk_alloc ?_ _)); refine blk_far ?_ NB147_159.out _; (with_reducible repeat (first | refine blk_drewN ?_ _ | refine blk_drew ?_ | refine blk_alloc ?_ _)); refine blk_far ?_ NB147_159.out _; (with_reducible repeat (first | refine blk_drewN ?_ _ | refine blk_drew ?_ | refine blk_alloc ?_ _)); refine blk_far ?_ NB147_159.out _; (with_reducible repeat (first | refine blk_drewN ?_ _ | refine blk_drew ?_ | refine blk_alloc ?_ _)); exact BK147.out) hb); have n3_ := Aside0.mk (blk_below (g := gb152) (o := .cells #[.int .i64 t148, .int .i64 t149, .string t150] 25 (0, 0)) (by (with_reducible repeat (first | refine blk_drewN ?_ _ | refine blk_drew ?_ | refine blk_alloc ?_ _)); refine blk_far ?_ NB152_159.out _; (with_reducible repeat (first | refine blk_drewN ?_ _ | refine blk_drew ?_ | refine blk_alloc ?_ _)); refine blk_far ?_ NB152_159.out _; (with_reducible repeat (first | refine blk_drewN ?_ _ | refine blk_drew ?_ | refine blk_alloc ?_ _)); refine blk_far ?_ NB152_159.out _; (with_reducible repeat (first | refine blk_drewN ?_ _ | refine blk_drew ?_ | refine blk_alloc ?_ _)); exact BK152.out) hb); have n4_ := Aside0.mk (blk_below (g := gb159) (o := .cells #[.int .i64 t155, .int .i64 t156, .string t157] 25 (0, 0)) (by (with_reducible repeat (first | refine blk_drewN ?_ _ | refine blk_drew ?_ | refine blk_alloc ?_ _)); refine blk_put (cs := #[.int .i64 t155, .int .i64 t156, .string (⟨#[]⟩ : ByteArray)]) ?_ 2 _ rfl; (with_reducible repeat (first | refine blk_drewN ?_ _ | refine blk_drew ?_ | refine blk_alloc ?_ _)); refine blk_put (cs := #[.int .i64 t155, .int .i64 0, .string (⟨#[]⟩ : ByteArray)]) ?_ 1 _ rfl; (with_reducible repeat (first | refine blk_drewN ?_ _ | refine blk_drew ?_ | refine blk_alloc ?_ _)); refine blk_put (cs := #[.int .i64 0, .int .i64 0, .string (⟨#[]⟩ : ByteArray)]) ?_ 0 _ rfl; (with_reducible repeat (first | refine blk_drewN ?_ _ | refine blk_drew ?_ | refine blk_alloc ?_ _)); exact BK159.out) hb); have n5_ := Aside0.mk (below_step (by repeat (first | (with_reducible first | exact HB.out | apply below_alloc | apply pw_below_drewN | apply below_drew1 | refine below_set ?_ GE140.out | refine below_set ?_ GE141.out | refine below_set ?_ GE147.out | refine below_set ?_ GE152.out | refine below_set ?_ GE159.out) | exact HB.out)) hb); clear BK140; clear BK141; clear BK147; clear BK152; clear BK159; clear HB; have BK140 := n0_; have BK141 := n1_; have BK147 := n2_; have BK152 := n3_; have BK159 := n4_; have HB := n5_; clear n0_ n1_ n2_ n3_ n4_ n5_; (try clear hb); (try clear hb2); (try clear hk); (try clear hi)))
                  go_meet
                  case rel => exact ⟨_, (false), (by first | rfl | (simp; done) | (simp [*]; done)), H', ⟨by have := HJ13.out; first | omega | exact Nat.le_refl _⟩, ⟨by (with_reducible repeat (first | refine blk_drewN ?_ _ | refine blk_drew ?_ | refine blk_alloc ?_ _)); exact BK140.out⟩, ⟨by (with_reducible repeat (first | refine blk_drewN ?_ _ | refine blk_drew ?_ | refine blk_alloc ?_ _)); exact BK141.out⟩, ⟨by (with_reducible repeat (first | refine blk_drewN ?_ _ | refine blk_drew ?_ | refine blk_alloc ?_ _)); exact BK147.out⟩, ⟨by (with_reducible repeat (first | refine blk_drewN ?_ _ | refine blk_drew ?_ | refine blk_alloc ?_ _)); exact BK152.out⟩, ⟨by (with_reducible repeat (first | refine blk_drewN ?_ _ | refine blk_drew ?_ | refine blk_alloc ?_ _)); exact BK159.out⟩, ⟨by repeat (first | (with_reducible first | exact HB.out | apply below_alloc | apply pw_below_drewN | apply below_drew1 | refine below_set ?_ GE140.out | refine below_set ?_ GE141.out | refine below_set ?_ GE147.out | refine below_set ?_ GE152.out | refine below_set ?_ GE159.out) | exact HB.out)⟩⟩
              · replace c70 := Bool.eq_false_iff.mpr c70
                subst c70
                have H1 : (cabinetrylaw03_TableFits.j1 kj13 false) = some r := by rw [if_neg (show ¬ (false = true) by decide)] at H; exact H
                clear H
                have H := H1
                clear H1
                have H' := Aside0.mk H
                clear H
                have hnb94 := NB147_140.out
                have hnc94 := NB140_147.out
                have hnb95 := NB147_141.out
                have hnc95 := NB141_147.out
                have hnb96 := NB147_152.out
                have hnc96 := NB152_147.out
                have hnb97 := NB147_159.out
                have hnc97 := NB159_147.out
                have hcz98_0 : w63.cell? ⟨gb147, 0, none⟩ = some (.int .i64 t143) := (blk_cell BK147.out 0).trans rfl
                have hcz98_1 : w63.cell? ⟨gb147, 1, none⟩ = some (.int .i64 t144) := (blk_cell BK147.out 1).trans rfl
                have hcz98_2 : w63.cell? ⟨gb147, 2, none⟩ = some (.string t145) := (blk_cell BK147.out 2).trans rfl
                have hfz98_0 := blk_frozen BK147.out 0
                have hfz98_1 := blk_frozen BK147.out 1
                have hfz98_2 := blk_frozen BK147.out 2
                have hnb99 := NB159_140.out
                have hnc99 := NB140_159.out
                have hnb100 := NB159_141.out
                have hnc100 := NB141_159.out
                have hnb101 := NB159_152.out
                have hnc101 := NB152_159.out
                have hcz102_0 : w63.cell? ⟨gb159, 0, none⟩ = some (.int .i64 0) := (blk_cell BK159.out 0).trans rfl
                have hcz102_1 : w63.cell? ⟨gb159, 1, none⟩ = some (.int .i64 0) := (blk_cell BK159.out 1).trans rfl
                have hcz102_2 : w63.cell? ⟨gb159, 2, none⟩ = some (.string (⟨#[]⟩ : ByteArray)) := (blk_cell BK159.out 2).trans rfl
                have hfz102_0 := blk_frozen BK159.out 0
                have hfz102_1 := blk_frozen BK159.out 1
                have hfz102_2 := blk_frozen BK159.out 2
                go_wp2_with (first | ((with_reducible refine gate_callee (f := 15) rfl ?_); refine goesL_ (some 57) rfl rfl Tryz.func15 (by kernel_rfl) rfl #[.agg #[.int .i64 t143, .int .i64 t144, .string t145], .agg #[.int .i64 t155, .int .i64 t156, .string t157]] rfl (by (try simp only [List.map_toArray, List.map_cons, List.map_nil]); first | done | rfl) ?_; (with_reducible refine (cabinetryref01_SameValue.calls kj13 t143 t144 t145 t155 t156 t157 false _ A69.out).mono ?_); rintro e w103 ⟨rfl, hb⟩; refine ⟨_, rfl, ?_⟩; have n0_ := Aside0.mk (blk_below (g := gb140) (o := .cells #[.string a0_0, .int .i64 a0_1, .int .i64 a0_2, .bool a0_3] 23 (0, 0)) (by (with_reducible repeat (first | refine blk_drewN ?_ _ | refine blk_drew ?_ | refine blk_alloc ?_ _)); refine blk_far ?_ NB140_159.out _; (with_reducible repeat (first | refine blk_drewN ?_ _ | refine blk_drew ?_ | refine blk_alloc ?_ _)); refine blk_far ?_ NB140_159.out _; (with_reducible repeat (first | refine blk_drewN ?_ _ | refine blk_drew ?_ | refine blk_alloc ?_ _)); refine blk_far ?_ NB140_159.out _; (with_reducible repeat (first | refine blk_drewN ?_ _ | refine blk_drew ?_ | refine blk_alloc ?_ _)); exact BK140.out) hb); have n1_ := Aside0.mk (blk_below (g := gb141) (o := .cells #[.int .i64 a2_0, .int .i64 a2_1, .string a2_2] 25 (0, 0)) (by (with_reducible repeat (first | refine blk_drewN ?_ _ | refine blk_drew ?_ | refine blk_alloc ?_ _)); refine blk_far ?_ NB141_159.out _; (with_reducible repeat (first | refine blk_drewN ?_ _ | refine blk_drew ?_ | refine blk_alloc ?_ _)); refine blk_far ?_ NB141_159.out _; (with_reducible repeat (first | refine blk_drewN ?_ _ | refine blk_drew ?_ | refine blk_alloc ?_ _)); refine blk_far ?_ NB141_159.out _; (with_reducible repeat (first | refine blk_drewN ?_ _ | refine blk_drew ?_ | refine blk_alloc ?_ _)); exact BK141.out) hb); have n2_ := Aside0.mk (blk_below (g := gb147) (o := .cells #[.int .i64 t143, .int .i64 t144, .string t145] 25 (0, 0)) (by (with_reducible repeat (first | refine blk_drewN ?_ _ | refine blk_drew ?_ | refine blk_alloc ?_ _)); refine blk_far ?_ NB147_159.out _; (with_reducible repeat (first | refine blk_drewN ?_ _ | refine blk_drew ?_ | refine blk_alloc ?_ _)); refine blk_far ?_ NB147_159.out _; (with_reducible repeat (first | refine blk_drewN ?_ _ | refine blk_drew ?_ | refine blk_alloc ?_ _)); refine blk_far ?_ NB147_159.out _; (with_reducible repeat (first | refine blk_drewN ?_ _ | refine blk_drew ?_ | refine blk_alloc ?_ _)); exact BK147.out) hb); have n3_ := Aside0.mk (blk_below (g := gb152) (o := .cells #[.int .i64 t148, .int .i64 t149, .string t150] 25 (0, 0)) (by (with_reducible repeat (first | refine blk_drewN ?_ _ | refine blk_drew ?_ | refine blk_alloc ?_ _)); refine blk_far ?_ NB152_159.out _; (with_reducible repeat (first | refine blk_drewN ?_ _ | refine blk_drew ?_ | refine blk_alloc ?_ _)); refine blk_far ?_ NB152_159.out _; (with_reducible repeat (first | refine blk_drewN ?_ _ | refine blk_drew ?_ | refine blk_alloc ?_ _)); refine blk_far ?_ NB152_159.out _; (with_reducible repeat (first | refine blk_drewN ?_ _ | refine blk_drew ?_ | refine blk_alloc ?_ _)); exact BK152.out) hb); have n4_ := Aside0.mk (blk_below (g := gb159) (o := .cells #[.int .i64 t155, .int .i64 t156, .string t157] 25 (0, 0)) (by (with_reducible repeat (first | refine blk_drewN ?_ _ | refine blk_drew ?_ | refine blk_alloc ?_ _)); refine blk_put (cs := #[.int .i64 t155, .int .i64 t156, .string (⟨#[]⟩ : ByteArray)]) ?_ 2 _ rfl; (with_reducible repeat (first | refine blk_drewN ?_ _ | refine blk_drew ?_ | refine blk_alloc ?_ _)); refine blk_put (cs := #[.int .i64 t155, .int .i64 0, .string (⟨#[]⟩ : ByteArray)]) ?_ 1 _ rfl; (with_reducible repeat (first | refine blk_drewN ?_ _ | refine blk_drew ?_ | refine blk_alloc ?_ _)); refine blk_put (cs := #[.int .i64 0, .int .i64 0, .string (⟨#[]⟩ : ByteArray)]) ?_ 0 _ rfl; (with_reducible repeat (first | refine blk_drewN ?_ _ | refine blk_drew ?_ | refine blk_alloc ?_ _)); exact BK159.out) hb); have n5_ := Aside0.mk (below_step (by repeat (first | (with_reducible first | exact HB.out | apply below_alloc | apply pw_below_drewN | apply below_drew1 | refine below_set ?_ GE140.out | refine below_set ?_ GE141.out | refine below_set ?_ GE147.out | refine below_set ?_ GE152.out | refine below_set ?_ GE159.out) | exact HB.out)) hb); clear BK140; clear BK141; clear BK147; clear BK152; clear BK159; clear HB; have BK140 := n0_; have BK141 := n1_; have BK147 := n2_; have BK152 := n3_; have BK159 := n4_; have HB := n5_; clear n0_ n1_ n2_ n3_ n4_ n5_; (try clear hb); (try clear hb2); (try clear hk); (try clear hi)))
                go_meet
                case rel => exact ⟨_, (false), (by first | rfl | (simp; done) | (simp [*]; done)), H', ⟨by have := HJ13.out; first | omega | exact Nat.le_refl _⟩, ⟨by (with_reducible repeat (first | refine blk_drewN ?_ _ | refine blk_drew ?_ | refine blk_alloc ?_ _)); exact BK140.out⟩, ⟨by (with_reducible repeat (first | refine blk_drewN ?_ _ | refine blk_drew ?_ | refine blk_alloc ?_ _)); exact BK141.out⟩, ⟨by (with_reducible repeat (first | refine blk_drewN ?_ _ | refine blk_drew ?_ | refine blk_alloc ?_ _)); exact BK147.out⟩, ⟨by (with_reducible repeat (first | refine blk_drewN ?_ _ | refine blk_drew ?_ | refine blk_alloc ?_ _)); exact BK152.out⟩, ⟨by (with_reducible repeat (first | refine blk_drewN ?_ _ | refine blk_drew ?_ | refine blk_alloc ?_ _)); exact BK159.out⟩, ⟨by repeat (first | (with_reducible first | exact HB.out | apply below_alloc | apply pw_below_drewN | apply below_drew1 | refine below_set ?_ GE140.out | refine below_set ?_ GE141.out | refine below_set ?_ GE147.out | refine below_set ?_ GE152.out | refine below_set ?_ GE159.out) | exact HB.out)⟩⟩
            case rest =>
              clear HC54
              (try clear c1);(try clear c2);(try clear p2);(try clear c3);(try clear c4);(try clear c4b0);(try clear c5);(try clear c6);(try clear p6);(try clear c7);(try clear c8);(try clear c9);(try clear c10);(try clear c12);(try clear c13);(try clear c14);(try clear c15);(try clear c17);(try clear c22);(try clear c23);(try clear c29);(try clear c30);(try clear c31);(try clear c34);(try clear c35);(try clear c36);(try clear c37);(try clear c39);(try clear c40);(try clear c43);(try clear c44);(try clear c45);(try clear c47);(try clear c48);(try clear c51);(try clear c52);(try clear c52b0);(try clear c52b1);(try clear c55);(try clear c56);(try clear c57);(try clear c59);(try clear c60);(try clear c64);(try clear p64);(try clear c65);(try clear c66);(try clear c67);(try clear c70);(try clear c71);(try clear c71b0);(try clear c71b1);(try clear c73);(try clear c74);(try clear c75);(try clear c76);(try clear c78);(try clear c79);(try clear c80);(try clear c84);(try clear c85);(try clear c86);(try clear c87);(try clear c89);(try clear c90);(try clear c91);(try clear c94);(try clear c95);(try clear c96);(try clear c97);(try clear c99);(try clear c100);(try clear c101);(try clear hcz102_0);(try clear hcz102_1);(try clear hcz102_2);(try clear hcz10_0);(try clear hcz10_1);(try clear hcz10_2);(try clear hcz18_0);(try clear hcz18_1);(try clear hcz18_2);(try clear hcz18_3);(try clear hcz19_0);(try clear hcz19_1);(try clear hcz19_2);(try clear hcz24_0);(try clear hcz24_1);(try clear hcz24_2);(try clear hcz25_0);(try clear hcz25_1);(try clear hcz25_2);(try clear hcz25_3);(try clear hcz26_0);(try clear hcz26_1);(try clear hcz26_2);(try clear hcz32_0);(try clear hcz32_1);(try clear hcz32_2);(try clear hcz38_0);(try clear hcz38_1);(try clear hcz38_2);(try clear hcz41_0);(try clear hcz41_1);(try clear hcz41_2);(try clear hcz46_0);(try clear hcz46_1);(try clear hcz46_2);(try clear hcz49_0);(try clear hcz49_1);(try clear hcz49_2);(try clear hcz58_0);(try clear hcz58_1);(try clear hcz58_2);(try clear hcz58_3);(try clear hcz61_0);(try clear hcz61_1);(try clear hcz61_2);(try clear hcz68_0);(try clear hcz68_1);(try clear hcz68_2);(try clear hcz77_0);(try clear hcz77_1);(try clear hcz77_2);(try clear hcz81_0);(try clear hcz81_1);(try clear hcz81_2);(try clear hcz88_0);(try clear hcz88_1);(try clear hcz88_2);(try clear hcz92_0);(try clear hcz92_1);(try clear hcz92_2);(try clear hcz98_0);(try clear hcz98_1);(try clear hcz98_2);(try clear hcz9_0);(try clear hcz9_1);(try clear hcz9_2);(try clear hcz9_3);(try clear hfz102_0);(try clear hfz102_1);(try clear hfz102_2);(try clear hfz10_0);(try clear hfz10_1);(try clear hfz10_2);(try clear hfz18_0);(try clear hfz18_1);(try clear hfz18_2);(try clear hfz18_3);(try clear hfz19_0);(try clear hfz19_1);(try clear hfz19_2);(try clear hfz24_0);(try clear hfz24_1);(try clear hfz24_2);(try clear hfz25_0);(try clear hfz25_1);(try clear hfz25_2);(try clear hfz25_3);(try clear hfz26_0);(try clear hfz26_1);(try clear hfz26_2);(try clear hfz32_0);(try clear hfz32_1);(try clear hfz32_2);(try clear hfz38_0);(try clear hfz38_1);(try clear hfz38_2);(try clear hfz41_0);(try clear hfz41_1);(try clear hfz41_2);(try clear hfz46_0);(try clear hfz46_1);(try clear hfz46_2);(try clear hfz49_0);(try clear hfz49_1);(try clear hfz49_2);(try clear hfz58_0);(try clear hfz58_1);(try clear hfz58_2);(try clear hfz58_3);(try clear hfz61_0);(try clear hfz61_1);(try clear hfz61_2);(try clear hfz68_0);(try clear hfz68_1);(try clear hfz68_2);(try clear hfz77_0);(try clear hfz77_1);(try clear hfz77_2);(try clear hfz81_0);(try clear hfz81_1);(try clear hfz81_2);(try clear hfz88_0);(try clear hfz88_1);(try clear hfz88_2);(try clear hfz92_0);(try clear hfz92_1);(try clear hfz92_2);(try clear hfz98_0);(try clear hfz98_1);(try clear hfz98_2);(try clear hfz9_0);(try clear hfz9_1);(try clear hfz9_2);(try clear hfz9_3);(try clear p2);(try clear p6)
              obtain ⟨kq, x6_53, rfl, HA, HJ53, BK140, BK141, BK147, BK152, BK159, HB⟩ := hcut
              cases kq with
              | zero => exact absurd HA.out (by simp [cabinetrylaw03_TableFits.j1])
              | succ kj53 =>
                have H := HA.out
                clear HA
                simp only [cabinetrylaw03_TableFits.j1] at H
                obtain rfl := Option.some.inj H
                go_wp2
                go_ret
                exact ⟨rfl, by repeat (first | (with_reducible first | exact HB.out | apply below_alloc | apply pw_below_drewN | apply below_drew1 | refine below_set ?_ GE140.out | refine below_set ?_ GE141.out | refine below_set ?_ GE147.out | refine below_set ?_ GE152.out | refine below_set ?_ GE159.out) | exact HB.out)⟩
          · rw [if_neg c52] at H
            have c52b0 : (t146 == 0) = false := beq_eq_false_iff_ne.mpr c52
            have c52b1 : (t146 != 0) = true := bne_iff_ne.mpr c52
            replace H := Option.bind_eq_some_iff.mp H
            obtain ⟨t154, A1040, H⟩ := H
            replace H : (some t154) = some r := H
            have A104 := Aside0.mk A1040
            clear A1040
            obtain rfl := Option.some.inj H
            go_wp2_with (first | ((with_reducible refine gate_callee (f := 12) rfl ?_); refine goesL_ (some 47) rfl rfl Tryz.func12 (by kernel_rfl) rfl #[] rfl (by (try simp only [List.map_toArray, List.map_cons, List.map_nil]); first | done | rfl) ?_; (with_reducible refine (cabinetrylaw03_known.calls  t154 _ A104.out).mono ?_); rintro e w105 ⟨rfl, hb⟩; refine ⟨_, rfl, ?_⟩; have n0_ := Aside0.mk (blk_below (g := gb140) (o := .cells #[.string a0_0, .int .i64 a0_1, .int .i64 a0_2, .bool a0_3] 23 (0, 0)) BK140.out hb); have n1_ := Aside0.mk (blk_below (g := gb141) (o := .cells #[.int .i64 a2_0, .int .i64 a2_1, .string a2_2] 25 (0, 0)) BK141.out hb); have n2_ := Aside0.mk (blk_below (g := gb147) (o := .cells #[.int .i64 t143, .int .i64 t144, .string t145] 25 (0, 0)) BK147.out hb); have n3_ := Aside0.mk (blk_below (g := gb152) (o := .cells #[.int .i64 t148, .int .i64 t149, .string t150] 25 (0, 0)) BK152.out hb); have n4_ := Aside0.mk (below_step (by repeat (first | (with_reducible first | exact HB.out | apply below_alloc | apply pw_below_drewN | apply below_drew1 | refine below_set ?_ GE140.out | refine below_set ?_ GE141.out | refine below_set ?_ GE147.out | refine below_set ?_ GE152.out) | exact HB.out)) hb); clear BK140; clear BK141; clear BK147; clear BK152; clear HB; have BK140 := n0_; have BK141 := n1_; have BK147 := n2_; have BK152 := n3_; have HB := n4_; clear n0_ n1_ n2_ n3_ n4_; (try clear hb); (try clear hb2); (try clear hk); (try clear hi)))
            go_ret
            exact ⟨rfl, by repeat (first | (with_reducible first | exact HB.out | apply below_alloc | apply pw_below_drewN | apply below_drew1 | refine below_set ?_ GE140.out | refine below_set ?_ GE141.out | refine below_set ?_ GE147.out | refine below_set ?_ GE152.out) | exact HB.out)⟩
end Go.Proofs.YtldpdidlfbphcaaGreatDoor.P
end
section
namespace Go.Proofs.YtldpdidlfbphcaaGreatDoor.P
open Go.RowKit Go.Proofs.YtldpdidlfbphcaaGreatDoorW.PrintWords Go.Proofs.YtldpdidlfbphcaaGreatDoorW.PrintLast Go.Proofs.YtldpdidlfbphcaaGreatDoorW.PrintMore
theorem sameValue_self (a b : Int) (c : ByteArray) (k : Nat) (hk : 0 < k) : cabinetryref01_SameValue.f k a b c a b c = some true := by
  obtain ⟨m, rfl⟩ : ∃ m, k = m + 1 := ⟨k - 1, by omega⟩
  unfold cabinetryref01_SameValue.f
  rw [if_pos rfl, if_pos rfl]
  simp [cabinetryref01_SameValue.j0]
theorem dropWhile_idem {p : UInt8 → Bool} : ∀ (l : List UInt8), (l.dropWhile p).dropWhile p = l.dropWhile p
  | [] => rfl
  | c :: r => by
    rw [List.dropWhile_cons]
    by_cases h : p c = true
    · rw [if_pos h]; exact dropWhile_idem r
    · rw [if_neg h, List.dropWhile_cons, if_neg h]
theorem blanks_idem (s : ByteArray) : blanksOff (blanksOff s) = blanksOff s := by
  unfold blanksOff Lib.trimRightS
  simp only [List.reverse_reverse, dropWhile_idem]
theorem blanks_size (s : ByteArray) : (blanksOff s).size ≤ s.size := by
  unfold blanksOff
  rw [ba_size, ← data_length s]
  exact trimRightS_len _ _
theorem extract_all (s : ByteArray) (n : Nat) (h : s.size ≤ n) : s.extract 0 (min s.size n) = s := by
  rw [Nat.min_eq_left h]
  apply ByteArray.ext
  rw [ByteArray.data_extract]
  exact Array.extract_size
theorem fit_again (s : ByteArray) (kd wd : Int) (nl : Bool) (pg vk vn : Int) (vs : ByteArray) (h : (fitS s kd wd nl pg vk vn vs).2.2.2 = 0) :
    fitS s kd wd nl pg (fitS s kd wd nl pg vk vn vs).1 (fitS s kd wd nl pg vk vn vs).2.1 (fitS s kd wd nl pg vk vn vs).2.2.1 = fitS s kd wd nl pg vk vn vs := by
  by_cases h1 : fieldS s kd wd = false ∨ pageS pg = false
  · rw [show fitS s kd wd nl pg vk vn vs = (0, 0, ⟨#[]⟩, 1) by unfold fitS; rw [if_pos h1]] at h
    simp at h
  · have hf : fieldS s kd wd = true := by cases e : fieldS s kd wd <;> simp_all
    have hp : pageS pg = true := by cases e : pageS pg <;> simp_all
    by_cases hv : valS vk vn vs = 0
    · rw [fitS_T s kd wd nl pg vk vn vs hf hp hv] at h ⊢
      by_cases h0 : vk = 0
      · subst h0
        by_cases hn : nl = true
        · have e : fitT nl kd wd pg 0 vn vs = (0, vn, vs, 0) := by unfold fitT; rw [if_pos rfl, if_pos hn]
          rw [e, fitS_T s kd wd nl pg 0 vn vs hf hp hv, e]
        · have e : fitT nl kd wd pg 0 vn vs = (0, 0, ⟨#[]⟩, 7) := by unfold fitT; rw [if_pos rfl, if_neg hn]
          rw [e] at h; simp at h
      · by_cases he : vk = emptyK kd
        · by_cases h4 : kd = 4
          · subst h4
            have e4 : vk = 4 := he
            subst e4
            have hvn : vn = 0 := by
              unfold valS at hv
              split at hv
              · omega
              · split at hv
                · rename_i hok
                  unfold valOK at hok
                  simpa using hok
                · omega
            subst hvn
            have hw : 1 ≤ wd ∧ wd ≤ 254 := by
              unfold fieldS at hf
              simp [kindLo, kindHi, kindFound] at hf
              exact ⟨hf.2.1, hf.2.2⟩
            by_cases ho : onS pg (blanksOff (vs.extract 0 (min vs.size wd.toNat))) = true
            · have e : fitT nl 4 wd pg 4 0 vs = (4, 0, blanksOff (vs.extract 0 (min vs.size wd.toNat)), 0) := by
                unfold fitT
                rw [if_neg (by decide), if_neg (by simp [emptyK]), if_pos rfl, if_pos ho]
              rw [e]
              obtain ⟨u, hu⟩ : ∃ u, blanksOff (vs.extract 0 (min vs.size wd.toNat)) = u := ⟨_, rfl⟩
              have hx : (vs.extract 0 (min vs.size wd.toNat)).size ≤ wd.toNat := by rw [ByteArray.size_extract]; omega
              have hsz : u.size ≤ wd.toNat := by rw [← hu]; exact Nat.le_trans (blanks_size _) hx
              have hbl : blanksOff u = u := by rw [← hu]; exact blanks_idem _
              rw [hu] at ho ⊢
              have hv2 : valS 4 0 u = 0 := by
                unfold valS valOK
                rw [if_neg (by omega)]
                rfl
              rw [fitS_T s 4 wd nl pg 4 0 u hf hp hv2]
              unfold fitT
              rw [if_neg (by decide), if_neg (by simp [emptyK]), if_pos rfl, extract_all u wd.toNat hsz, hbl, if_pos ho]
            · have e : fitT nl 4 wd pg 4 0 vs = (0, 0, ⟨#[]⟩, 10) := by
                unfold fitT
                rw [if_neg (by decide), if_neg (by simp [emptyK]), if_pos rfl, if_neg ho]
              rw [e] at h; simp at h
          · have e : fitT nl kd wd pg vk vn vs = (vk, vn, vs, 0) := by
              unfold fitT at h ⊢
              rw [if_neg h0, if_neg (by simpa using he), if_neg h4] at h ⊢
              by_cases h2 : kd = 2
              · rw [if_pos h2] at h ⊢
                split
                · rfl
                · rename_i hc; rw [if_neg hc] at h; simp at h
              · rw [if_neg h2] at h ⊢
                by_cases h5 : kd = 5
                · rw [if_pos h5] at h ⊢
                  split
                  · rfl
                  · rename_i hc; rw [if_neg hc] at h; simp at h
                · rw [if_neg h5]
            rw [e, fitS_T s kd wd nl pg vk vn vs hf hp hv, e]
        · have e : fitT nl kd wd pg vk vn vs = (0, 0, ⟨#[]⟩, 6) := by unfold fitT; rw [if_neg h0, if_pos (by simpa using he)]
          rw [e] at h; simp at h
    · have e : fitS s kd wd nl pg vk vn vs = (0, 0, ⟨#[]⟩, valS vk vn vs) := by
        unfold fitS
        rw [if_neg (by simp [hf, hp]), if_pos hv]
      rw [e] at h
      exact absurd h hv
theorem TableFits_pure (s : ByteArray) (kd wd : Int) (nl : Bool) (pg vk vn : Int) (vs : ByteArray) :
    ∃ k, cabinetrylaw03_TableFits.f k s kd wd nl pg vk vn vs = some true := by
  obtain ⟨K, hK⟩ := refFit_is s kd wd nl pg vk vn vs
  have hF : cabinetryref03_Fit.f (K + 3) s kd wd nl pg vk vn vs = some (fitS s kd wd nl pg vk vn vs) := hK (K + 3) (by omega)
  refine ⟨K + 3, ?_⟩
  unfold cabinetrylaw03_TableFits.f
  split
  · rfl
  · rw [hF]
    simp only [table_Fit.f, Option.bind_some]
    obtain ⟨q, hq⟩ : ∃ q, fitS s kd wd nl pg vk vn vs = q := ⟨_, rfl⟩
    have ha := fit_again s kd wd nl pg vk vn vs
    rw [hq] at ha ⊢
    obtain ⟨a, b, c, e⟩ := q
    simp only at ha ⊢
    rw [sameValue_self a b c _ (by omega)]
    simp only [Option.bind_some, if_true]
    simp only [cabinetrylaw03_TableFits.j0]
    rw [show (e != e) = false by simp, if_neg (by decide)]
    by_cases he : e = 0
    · rw [if_pos he]
      rw [table_Fit.f, ha he]
      simp only [Option.bind_some]
      rw [sameValue_self a b c _ (by omega)]
      simp only [Option.bind_some, if_true]
      rw [if_pos he]
      rfl
    · rw [if_neg he]
      rfl
end Go.Proofs.YtldpdidlfbphcaaGreatDoor.P
end
section
namespace Go.Proofs.YtldpdidlfbphcaaGreatDoor.tableFits
open Go.ChangeShapes Go.WideShapes Go.ChangeAt Go.RowKit
def zargs : Array Value := #[.agg #[.string ⟨#[]⟩, .int .i64 0, .int .i64 0, .bool false], .int .i64 0, .agg #[.int .i64 0, .int .i64 0, .string ⟨#[]⟩]]
theorem laid_met (os : Os) : laidMet Tryz.prog Rows.tableFitsRow.laid ((R.laidWorld os).forCall (fun _ _ => 0) ⟨#[], zargs, []⟩).memory :=
  laidMet_of_run' 8 (by kernel_rfl) (by kernel_rfl)
theorem reads (os : Os) {H : Type} (enc : TypeId × Value → H) : ∃ x places, DataW.whole enc Tryz.prog ((R.laidWorld os).forCall (fun _ _ => 0) ⟨#[], zargs, []⟩).memory Tryz.f3.params.toList Rows.tableFitsSpec.vars false zargs.toList 8 = some (x, [], places) :=
  ⟨[.agg [.lit (.string []), .lit (.int .i64 0), .lit (.int .i64 0), .lit (.bool false)], .lit (.int .i64 0), .agg [.lit (.int .i64 0), .lit (.int .i64 0), .lit (.string [])]], [], by kernel_rfl⟩
set_option maxRecDepth 100000 in
theorem contract (H : Type) (enc : TypeId × Value → H) (W : World) (base : Nat) (args : Array Value) (ds gs : List (DataW H)) (before : List MemPlace)
    (hval : ∀ (j : Nat) t v, Tryz.f3.params[j]? = some t → args[j]? = some v → Value.okWide Tryz.prog W .any base t v)
    (hW : DataW.Whole enc Tryz.prog Tryz.f3.params.toList Rows.tableFitsSpec.vars false W args.toList ds gs before) :
    Calls Tryz.prog 3 args W fun e W' => ∃ v, e = .returned v ∧ Rows.tableFitsSpec.post enc Tryz.prog Tryz.f3 false true false false W args v W' := by
  have hW' := hW
  obtain ⟨p, q, hA0, hV, rfl, hfz, hnd⟩ := hW
  have hA : DataW.TrodAll enc Tryz.prog W 0 (fun _ => true) true Tryz.f3.params.toList args.toList ds p := hA0
  rw [Tryz.params3] at hA hval
  obtain ⟨v0, vs0, d0, ds0, p0, q0, hargs, rfl, rfl, h0, r0⟩ := trodAll_cons hA
  obtain ⟨v1, vs1, d1, ds1, p1, q1, rfl, rfl, rfl, h1, r1⟩ := trodAll_cons r0
  obtain ⟨v2, vs2, d2, ds2, p2, q2, rfl, rfl, rfl, h2, r2⟩ := trodAll_cons r1
  obtain ⟨rfl, rfl, rfl⟩ := trodAll_nil r2
  obtain rfl : args = #[v0, v1, v2] := by cases args; simp_all
  obtain ⟨rfl, rfl⟩ := trodVars_none hV
  have lt0 : ∀ x ∈ p0, x.block < W.heap.size := by obtain ⟨m, hm⟩ := h0; exact DataW.trod_lt m _ _ _ hm
  have lt1 : ∀ x ∈ p1, x.block < W.heap.size := by obtain ⟨m, hm⟩ := h1; exact DataW.trod_lt m _ _ _ hm
  have lt2 : ∀ x ∈ p2, x.block < W.heap.size := by obtain ⟨m, hm⟩ := h2; exact DataW.trod_lt m _ _ _ hm
  have k0 := h0
  have k1 := h1
  have k2 := h2
  obtain ⟨a0, a1, a2, a3, y0, y1, y2, y3, n, rfl, _, _, t0, t1, t2, t3⟩ := Joins.open_agg4 Tryz.underlying23 (by kernel_rfl) (by kernel_rfl) (hval 0 23 v0 rfl rfl) h0
  obtain ⟨b0, b1, b2, z0, z1, z2, m, rfl, _, _, u0, u1, u2⟩ := Joins.open_agg3 Tryz.underlying25 (by kernel_rfl) (by kernel_rfl) (hval 2 25 v2 rfl rfl) h2
  obtain ⟨pg, rfl, _, _, _⟩ := open_int Tryz.underlying3 (hval 1 3 v1 rfl rfl) h1
  obtain ⟨s, es, _, _⟩ := DataW.trod_string Tryz.underlying9 t0
  obtain ⟨kd, ek, _, _⟩ := DataW.trod_int Tryz.underlying3 t1
  obtain ⟨wd, ew, _, _⟩ := DataW.trod_int Tryz.underlying3 t2
  obtain ⟨nl, en, _⟩ := DataW.trod_bool Tryz.underlying4 t3
  obtain ⟨vk, evk, _, _⟩ := DataW.trod_int Tryz.underlying3 u0
  obtain ⟨vn, evn, _, _⟩ := DataW.trod_int Tryz.underlying3 u1
  obtain ⟨vs, evs, _, _⟩ := DataW.trod_string Tryz.underlying9 u2
  injection es with es
  injection ek with ek
  injection ew with ew
  injection en with en
  injection evk with evk
  injection evn with evn
  injection evs with evs
  subst es ek ew en evk evn evs
  obtain ⟨k, hk⟩ := P.TableFits_pure s kd wd nl pg vk vn vs
  refine (P.cabinetrylaw03_TableFits.calls k s kd wd nl pg vk vn vs true W hk).mono fun e W' ⟨he, bel⟩ => ?_
  subst he
  exact ⟨_, rfl, _, _, _, [], _, [], hW', trodAll_mk1 (shut_bool Tryz.underlying4 _), (trodAll_cons_mk (Below.trod R.laidOut (by kernel_rfl) (of_decide_eq_true (by kernel_rfl)) k0 bel lt0) (trodAll_cons_mk (Below.trod R.laidOut (by kernel_rfl) (of_decide_eq_true (by kernel_rfl)) k1 bel lt1) (trodAll_cons_mk (Below.trod R.laidOut (by kernel_rfl) (of_decide_eq_true (by kernel_rfl)) k2 bel lt2) trodAll_mk0))), rfl, bel.frame _, fun h => by cases h⟩
set_option maxRecDepth 100000 in
theorem lifted (os : Os) (started : os.Started) (H : Type) (enc : TypeId × Value → H) (F : Stop.Interp) :
    ReturnsInHanded {} Tryz.checked os 3 .any ((OpenSpec.ofChange Rows.tableFitsSpec).preRow enc Tryz.prog Tryz.f3 Rows.tableFitsRow.domain false Rows.tableFitsRow.laid) (((OpenSpec.ofChange Rows.tableFitsSpec).at F).post enc Tryz.prog Tryz.f3 false true false false) := by
  obtain ⟨x, places, hx⟩ := reads os enc
  refine returnsInHanded_of_row (C := Tryz.checked) (s := OpenSpec.ofChange Rows.tableFitsSpec) R.own started (by kernel_rfl) Tryz.func3
    (witness_row_at (enc := enc) (C := Tryz.checked) false (R.laidWorld os) zargs rfl (by kernel_rfl) (by kernel_rfl) (by kernel_rfl)
      (OpenSpec.preRow_of_cond 8 hx (by kernel_rfl) (fun k hk => by cases hk) (by kernel_rfl) (laid_met os))) ?_
  intro W base args ds gs before hval hW _ _ _ hL _ _
  exact contract H enc W base args ds gs before hval hW
theorem said : Rows.TableFitsSaid :=
  OpenClaim.holds_of_cond 3 Tryz.f3 rfl rfl rfl rfl rfl rfl rfl ⟨rfl, rfl, rfl, rfl, rfl⟩ rfl rfl rfl rfl rfl (by kernel_rfl) Tryz.func3 (by kernel_rfl)
    (of_decide_eq_true (by kernel_rfl)) (by unfold Func.isWrapper; first | (rw [if_pos (by decide +kernel)]; kernel_rfl) | (rw [if_neg (by decide +kernel)]; exact ⟨rfl, rfl⟩))
    (fun os started H enc _ F => by rw [OpenClaim.pre_eq_preRow]; exact lifted os started H enc F)
theorem plain (f : FuncId) (fn : Func) (hf : Tryz.pinned.checked.prog.funcNamed "cabinetry/cabinetrylaw03.TableFits" = some f) (hfn : Tryz.pinned.checked.prog.funcs[f]? = some fn) :
    false = Tryz.pinned.checked.prog.looks [] ∧ ∀ (j : Nat) t, fn.params[j]? = some t → Tryz.pinned.checked.prog.wantsStandIn t = false := by
  obtain rfl : f = 3 := Option.some.inj ((show Tryz.prog.funcNamed "cabinetry/cabinetrylaw03.TableFits" = some 3 by kernel_rfl).symm.trans hf) |>.symm
  obtain rfl : fn = Tryz.f3 := (Option.some.inj (Tryz.func3.symm.trans hfn)).symm
  refine ⟨by kernel_rfl, fun j t ht => ?_⟩
  rw [Tryz.params3] at ht
  have hm := Array.mem_of_getElem? ht
  simp only [List.mem_toArray, List.mem_cons, List.not_mem_nil, or_false] at hm
  rcases hm with rfl | rfl | rfl
  · exact (show Tryz.prog.wantsStandIn 23 = false by kernel_rfl)
  · exact (show Tryz.prog.wantsStandIn 3 = false by kernel_rfl)
  · exact (show Tryz.prog.wantsStandIn 25 = false by kernel_rfl)
theorem card : Rows.TableFitsCardSaid :=
  Claim7.holds_tied_plain_at .later [] _ _ _ _ said (fun _ h => by cases h) (by kernel_rfl) (fun _ h => by cases h) tableFits_row_tie rfl ⟨rfl, rfl⟩ (by kernel_rfl) rfl plain (by kernel_rfl)
#print axioms card
end Go.Proofs.YtldpdidlfbphcaaGreatDoor.tableFits
namespace Go.Proofs.YtldpdidlfbphcaaGreatDoor
theorem tableFits_card_holds : Rows.TableFitsCardSaid := tableFits.card
end Go.Proofs.YtldpdidlfbphcaaGreatDoor
end
