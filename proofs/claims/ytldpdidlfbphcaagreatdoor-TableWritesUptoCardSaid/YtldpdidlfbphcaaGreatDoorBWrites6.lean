/- TableWrites: where what the arguments read as is of bulk at most 1048576, the law returns true and leaves its arguments as they were. -/
import Derived.Test.YtldpdidlfbphcaaGreatDoorBWrites5
import Derived.Test.YtldpdidlfbphcaaGreatDoorCards
import Derived.Test.YtldpdidlfbphcaaGreatDoorTie
set_option linter.unusedVariables false
set_option linter.unusedSimpArgs false
set_option maxHeartbeats 8000000
set_option maxRecDepth 100000
section
namespace Go.Proofs.YtldpdidlfbphcaaGreatDoor.P
open Go.RowKit Go.Proofs.YtldpdidlfbphcaaGreatDoorW.PrintWords Go.Proofs.YtldpdidlfbphcaaGreatDoorW.PrintLast Go.Proofs.YtldpdidlfbphcaaGreatDoorW.PrintMore
section
attribute [local go_sem] max2_int min2_int max_two min_two max_three min_three max_four min_four
def table_Header.f (k : Nat) (a0_0 : Int) (l0_1 : List (S23)) (l0_2 : List (S46)) : Option (List Int × Int) := (table_Validate.f k a0_0 l0_1 l0_2).bind fun t244 => (if t244 = 0 then ((table_header.f k a0_0 l0_1 l0_2).bind fun t245 => (some (t245, 0))) else (some (([] : List Int), t244)))
theorem table_Header.mono : ∀ a0 a1 a2 k, LeO (table_Header.f k a0 a1 a2) (table_Header.f (k + 1) a0 a1 a2) := by
 intro a0 a1 a2 k
 unfold table_Header.f
 repeat' first
   | (with_reducible exact table_Validate.mono _ _ _ _)
   | (with_reducible exact table_header.mono _ _ _ _)
   | (with_reducible exact LeO.refl _)
   | (with_reducible exact LeO.none _)
   | (with_reducible refine LeO.ite ?_ ?_)
   | (with_reducible refine LeO.bind ?_ (fun _ => ?_))
theorem table_Header.calls (k : Nat) (a0_0 : Int) (A0_1 : Option Addr) (c0_1 : Nat) (l0_1 : List (S23)) (A0_2 : Option Addr) (c0_2 : Nat) (l0_2 : List (S46)) (r1 : List Int) (r2 : Int) (w : World) (hr0_1 : Kd.C k23 w A0_1 l0_1.length l0_1) (hc0_1 : l0_1.length ≤ c0_1) (hr0_2 : Kd.C k46 w A0_2 l0_2.length l0_2) (hc0_2 : l0_2.length ≤ c0_2) (h : table_Header.f k a0_0 l0_1 l0_2 = some (r1, r2)) :
  Calls Tryz.prog 19 #[.agg #[.int .i64 a0_0, .slice A0_1 l0_1.length c0_1, .slice A0_2 l0_2.length c0_2]] w fun e w' => ∃ v0_ : Value, e = .returned (.tuple #[v0_, .int .i64 r2]) ∧ Kd.R (Kd.int .u8) 5 w' w.heap.size (fun _ => True) v0_ r1 ∧ Below w.heap.size w w' := by
 have hu35 := Tryz.underlying35
 have HR0_1 := Z0 hr0_1
 have HC0_1 := Z0 hc0_1
 clear hr0_1 hc0_1
 have HR0_2 := Z0 hr0_2
 have HC0_2 := Z0 hc0_2
 clear hr0_2 hc0_2
 have HB := Z0 (Below.refl w.heap.size w)
 unfold table_Header.f at h
 have H := h
 clear h
 replace H := Option.bind_eq_some_iff.mp H
 obtain ⟨t244, A20, H⟩ := H
 replace H : (if t244 = 0 then ((table_header.f k a0_0 l0_1 l0_2).bind fun t245 => (some (t245, 0))) else (some (([] : List Int), t244))) = some (r1, r2) := H
 have A2 := Z0 A20
 clear A20
 by_cases c3 : t244 = 0
 rotate_left
 ·rw [if_neg c3] at H
  have c3b0 : (t244 == 0) = false := beq_eq_false_iff_ne.mpr c3
  have c3b1 : (t244 != 0) = true := bne_iff_ne.mpr c3
  simp only [Option.some.injEq, Prod.mk.injEq] at H
  obtain ⟨rfl, rfl⟩ := H
  go_enter Tryz.func19, Tryz.ntmps19
  go_wp2_with (first | ((with_reducible refine Z9 (N := 1) rfl ?_); refine box_event ?hg (N := 1) ?hd (cs := #[.int .i64 a0_0, .slice A0_1 l0_1.length c0_1, .slice A0_2 l0_2.length c0_2]) (t := 35) ?hr ?_; (case hd => rfl); (case hg => rfl); (case hr => go_simp; try rfl); intro gb243 hg w10 hbox hb; have BK243 := Z0 hbox; have GE243 := ge hg HB.out; replace HB := Z0 (Z1 HB.out hb); clear hb hbox hg; have hcz11_0 : w10.cell? ⟨gb243, 0, none⟩ = some (.int .i64 a0_0) := (Z4 BK243.out 0).trans rfl; have hcz11_1 : w10.cell? ⟨gb243, 1, none⟩ = some (.slice A0_1 l0_1.length c0_1) := (Z4 BK243.out 1).trans rfl; have hcz11_2 : w10.cell? ⟨gb243, 2, none⟩ = some (.slice A0_2 l0_2.length c0_2) := (Z4 BK243.out 2).trans rfl; have hfz11_0 := Z8 BK243.out 0; have hfz11_1 := Z8 BK243.out 1; have hfz11_2 := Z8 BK243.out 2) | ((with_reducible refine Z5 (f := 34) rfl ?_); refine gl Tryz.func34 (table_Validate.calls k a0_0 _ _ l0_1 _ _ l0_2 t244 _ (kc (Kd.C_below HR0_1.out HB.out)) HC0_1.out (kc (Kd.C_below HR0_2.out HB.out)) HC0_2.out A2.out) ?_; rintro e w12 ⟨rfl, hb⟩; refine ⟨_, rfl, ?_⟩; replace BK243 := Z0 (Z2 BK243.out hb); replace HB := Z0 (Z1 HB.out hb)))
  go_ret2
  exact ⟨_, rfl, by first | exact Kd.R_nil _ _ _ _ _ | exact Kd.N_nil _ _ _ _ _ | exact Kd.V_nil _ _ _ _ _ | exact Kd.Q_nil _ _ _ _ _ | exact Kd.S_nil _ _ _ _ _, V0⟩
 rw [if_pos c3] at H
 have c3b0 : (t244 == 0) = true := beq_iff_eq.mpr c3
 have c3b1 : (t244 != 0) = false := bne_eq_false_iff_eq.mpr c3
 clear c3
 replace H := Option.bind_eq_some_iff.mp H
 obtain ⟨t245, A40, H⟩ := H
 replace H : (some (t245, 0)) = some (r1, r2) := H
 have A4 := Z0 A40
 clear A40
 simp only [Option.some.injEq, Prod.mk.injEq] at H
 obtain ⟨rfl, rfl⟩ := H
 go_enter Tryz.func19, Tryz.ntmps19
 go_wp2_with (first | ((with_reducible refine Z9 (N := 1) rfl ?_); refine box_event ?hg (N := 1) ?hd (cs := #[.int .i64 a0_0, .slice A0_1 l0_1.length c0_1, .slice A0_2 l0_2.length c0_2]) (t := 35) ?hr ?_; (case hd => rfl); (case hg => rfl); (case hr => go_simp; try rfl); intro gb243 hg w5 hbox hb; have BK243 := Z0 hbox; have GE243 := ge hg HB.out; replace HB := Z0 (Z1 HB.out hb); clear hb hbox hg; have hcz6_0 : w5.cell? ⟨gb243, 0, none⟩ = some (.int .i64 a0_0) := (Z4 BK243.out 0).trans rfl; have hcz6_1 : w5.cell? ⟨gb243, 1, none⟩ = some (.slice A0_1 l0_1.length c0_1) := (Z4 BK243.out 1).trans rfl; have hcz6_2 : w5.cell? ⟨gb243, 2, none⟩ = some (.slice A0_2 l0_2.length c0_2) := (Z4 BK243.out 2).trans rfl; have hfz6_0 := Z8 BK243.out 0; have hfz6_1 := Z8 BK243.out 1; have hfz6_2 := Z8 BK243.out 2) | ((with_reducible refine Z5 (f := 34) rfl ?_); refine gl Tryz.func34 (table_Validate.calls k a0_0 _ _ l0_1 _ _ l0_2 t244 _ (kc (Kd.C_below HR0_1.out HB.out)) HC0_1.out (kc (Kd.C_below HR0_2.out HB.out)) HC0_2.out A2.out) ?_; rintro e w7 ⟨rfl, hb⟩; refine ⟨_, rfl, ?_⟩; replace BK243 := Z0 (Z2 BK243.out hb); replace HB := Z0 (Z1 HB.out hb); have hcz8_0 : w7.cell? ⟨gb243, 0, none⟩ = some (.int .i64 a0_0) := (Z4 BK243.out 0).trans rfl; have hcz8_1 : w7.cell? ⟨gb243, 1, none⟩ = some (.slice A0_1 l0_1.length c0_1) := (Z4 BK243.out 1).trans rfl; have hcz8_2 : w7.cell? ⟨gb243, 2, none⟩ = some (.slice A0_2 l0_2.length c0_2) := (Z4 BK243.out 2).trans rfl; have hfz8_0 := Z8 BK243.out 0; have hfz8_1 := Z8 BK243.out 1; have hfz8_2 := Z8 BK243.out 2) | ((with_reducible refine Z5 (f := 62) rfl ?_); refine gl Tryz.func62 (table_header.calls k a0_0 _ _ l0_1 _ _ l0_2 t245 _ (kc (Kd.C_below HR0_1.out HB.out)) HC0_1.out (kc (Kd.C_below HR0_2.out HB.out)) HC0_2.out A4.out) ?_; rintro e w9 ⟨v246, rfl, ho0, hb⟩; refine ⟨_, rfl, ?_⟩; have HO247 := Z0 (Kd.R_lower ho0 (below_size HB.out)); replace BK243 := Z0 (Z2 BK243.out hb); replace HB := Z0 (Z1 HB.out hb)))
 go_ret2
 exact ⟨_, rfl, by (with_reducible repeat (first | apply Kd.R_alloc | apply Kd.R_drewN | apply Kd.R_drew)); exact HO247.out, V0⟩
def cabinetryref03_Header.f (k : Nat) (a0_0 : Int) (l0_1 : List (S23)) (l0_2 : List (S46)) : Option (List Int × Int) := (cabinetryref03_Validate.f k a0_0 l0_1 l0_2).bind fun t249 => (if t249 = 0 then ((cabinetryref03_header.f k a0_0 l0_1 l0_2).bind fun t250 => (some (t250, 0))) else (some (([] : List Int), t249)))
theorem cabinetryref03_Header.mono : ∀ a0 a1 a2 k, LeO (cabinetryref03_Header.f k a0 a1 a2) (cabinetryref03_Header.f (k + 1) a0 a1 a2) := by
 intro a0 a1 a2 k
 unfold cabinetryref03_Header.f
 repeat' first
   | (with_reducible exact cabinetryref03_Validate.mono _ _ _ _)
   | (with_reducible exact cabinetryref03_header.mono _ _ _ _)
   | (with_reducible exact LeO.refl _)
   | (with_reducible exact LeO.none _)
   | (with_reducible refine LeO.ite ?_ ?_)
   | (with_reducible refine LeO.bind ?_ (fun _ => ?_))
theorem cabinetryref03_Header.calls (k : Nat) (a0_0 : Int) (A0_1 : Option Addr) (c0_1 : Nat) (l0_1 : List (S23)) (A0_2 : Option Addr) (c0_2 : Nat) (l0_2 : List (S46)) (r1 : List Int) (r2 : Int) (w : World) (hr0_1 : Kd.C k23 w A0_1 l0_1.length l0_1) (hc0_1 : l0_1.length ≤ c0_1) (hr0_2 : Kd.C k46 w A0_2 l0_2.length l0_2) (hc0_2 : l0_2.length ≤ c0_2) (h : cabinetryref03_Header.f k a0_0 l0_1 l0_2 = some (r1, r2)) :
  Calls Tryz.prog 20 #[.agg #[.int .i64 a0_0, .slice A0_1 l0_1.length c0_1, .slice A0_2 l0_2.length c0_2]] w fun e w' => ∃ v0_ : Value, e = .returned (.tuple #[v0_, .int .i64 r2]) ∧ Kd.R (Kd.int .u8) 5 w' w.heap.size (fun _ => True) v0_ r1 ∧ Below w.heap.size w w' := by
 have hu35 := Tryz.underlying35
 have HR0_1 := Z0 hr0_1
 have HC0_1 := Z0 hc0_1
 clear hr0_1 hc0_1
 have HR0_2 := Z0 hr0_2
 have HC0_2 := Z0 hc0_2
 clear hr0_2 hc0_2
 have HB := Z0 (Below.refl w.heap.size w)
 unfold cabinetryref03_Header.f at h
 have H := h
 clear h
 replace H := Option.bind_eq_some_iff.mp H
 obtain ⟨t249, A20, H⟩ := H
 replace H : (if t249 = 0 then ((cabinetryref03_header.f k a0_0 l0_1 l0_2).bind fun t250 => (some (t250, 0))) else (some (([] : List Int), t249))) = some (r1, r2) := H
 have A2 := Z0 A20
 clear A20
 by_cases c3 : t249 = 0
 rotate_left
 ·rw [if_neg c3] at H
  have c3b0 : (t249 == 0) = false := beq_eq_false_iff_ne.mpr c3
  have c3b1 : (t249 != 0) = true := bne_iff_ne.mpr c3
  simp only [Option.some.injEq, Prod.mk.injEq] at H
  obtain ⟨rfl, rfl⟩ := H
  go_enter Tryz.func20, Tryz.ntmps20
  go_wp2_with (first | ((with_reducible refine Z9 (N := 1) rfl ?_); refine box_event ?hg (N := 1) ?hd (cs := #[.int .i64 a0_0, .slice A0_1 l0_1.length c0_1, .slice A0_2 l0_2.length c0_2]) (t := 35) ?hr ?_; (case hd => rfl); (case hg => rfl); (case hr => go_simp; try rfl); intro gb248 hg w10 hbox hb; have BK248 := Z0 hbox; have GE248 := ge hg HB.out; replace HB := Z0 (Z1 HB.out hb); clear hb hbox hg; have hcz11_0 : w10.cell? ⟨gb248, 0, none⟩ = some (.int .i64 a0_0) := (Z4 BK248.out 0).trans rfl; have hcz11_1 : w10.cell? ⟨gb248, 1, none⟩ = some (.slice A0_1 l0_1.length c0_1) := (Z4 BK248.out 1).trans rfl; have hcz11_2 : w10.cell? ⟨gb248, 2, none⟩ = some (.slice A0_2 l0_2.length c0_2) := (Z4 BK248.out 2).trans rfl; have hfz11_0 := Z8 BK248.out 0; have hfz11_1 := Z8 BK248.out 1; have hfz11_2 := Z8 BK248.out 2) | ((with_reducible refine Z5 (f := 35) rfl ?_); refine gl Tryz.func35 (cabinetryref03_Validate.calls k a0_0 _ _ l0_1 _ _ l0_2 t249 _ (kc (Kd.C_below HR0_1.out HB.out)) HC0_1.out (kc (Kd.C_below HR0_2.out HB.out)) HC0_2.out A2.out) ?_; rintro e w12 ⟨rfl, hb⟩; refine ⟨_, rfl, ?_⟩; replace BK248 := Z0 (Z2 BK248.out hb); replace HB := Z0 (Z1 HB.out hb)))
  go_ret2
  exact ⟨_, rfl, by first | exact Kd.R_nil _ _ _ _ _ | exact Kd.N_nil _ _ _ _ _ | exact Kd.V_nil _ _ _ _ _ | exact Kd.Q_nil _ _ _ _ _ | exact Kd.S_nil _ _ _ _ _, V0⟩
 rw [if_pos c3] at H
 have c3b0 : (t249 == 0) = true := beq_iff_eq.mpr c3
 have c3b1 : (t249 != 0) = false := bne_eq_false_iff_eq.mpr c3
 clear c3
 replace H := Option.bind_eq_some_iff.mp H
 obtain ⟨t250, A40, H⟩ := H
 replace H : (some (t250, 0)) = some (r1, r2) := H
 have A4 := Z0 A40
 clear A40
 simp only [Option.some.injEq, Prod.mk.injEq] at H
 obtain ⟨rfl, rfl⟩ := H
 go_enter Tryz.func20, Tryz.ntmps20
 go_wp2_with (first | ((with_reducible refine Z9 (N := 1) rfl ?_); refine box_event ?hg (N := 1) ?hd (cs := #[.int .i64 a0_0, .slice A0_1 l0_1.length c0_1, .slice A0_2 l0_2.length c0_2]) (t := 35) ?hr ?_; (case hd => rfl); (case hg => rfl); (case hr => go_simp; try rfl); intro gb248 hg w5 hbox hb; have BK248 := Z0 hbox; have GE248 := ge hg HB.out; replace HB := Z0 (Z1 HB.out hb); clear hb hbox hg; have hcz6_0 : w5.cell? ⟨gb248, 0, none⟩ = some (.int .i64 a0_0) := (Z4 BK248.out 0).trans rfl; have hcz6_1 : w5.cell? ⟨gb248, 1, none⟩ = some (.slice A0_1 l0_1.length c0_1) := (Z4 BK248.out 1).trans rfl; have hcz6_2 : w5.cell? ⟨gb248, 2, none⟩ = some (.slice A0_2 l0_2.length c0_2) := (Z4 BK248.out 2).trans rfl; have hfz6_0 := Z8 BK248.out 0; have hfz6_1 := Z8 BK248.out 1; have hfz6_2 := Z8 BK248.out 2) | ((with_reducible refine Z5 (f := 35) rfl ?_); refine gl Tryz.func35 (cabinetryref03_Validate.calls k a0_0 _ _ l0_1 _ _ l0_2 t249 _ (kc (Kd.C_below HR0_1.out HB.out)) HC0_1.out (kc (Kd.C_below HR0_2.out HB.out)) HC0_2.out A2.out) ?_; rintro e w7 ⟨rfl, hb⟩; refine ⟨_, rfl, ?_⟩; replace BK248 := Z0 (Z2 BK248.out hb); replace HB := Z0 (Z1 HB.out hb); have hcz8_0 : w7.cell? ⟨gb248, 0, none⟩ = some (.int .i64 a0_0) := (Z4 BK248.out 0).trans rfl; have hcz8_1 : w7.cell? ⟨gb248, 1, none⟩ = some (.slice A0_1 l0_1.length c0_1) := (Z4 BK248.out 1).trans rfl; have hcz8_2 : w7.cell? ⟨gb248, 2, none⟩ = some (.slice A0_2 l0_2.length c0_2) := (Z4 BK248.out 2).trans rfl; have hfz8_0 := Z8 BK248.out 0; have hfz8_1 := Z8 BK248.out 1; have hfz8_2 := Z8 BK248.out 2) | ((with_reducible refine Z5 (f := 60) rfl ?_); refine gl Tryz.func60 (cabinetryref03_header.calls k a0_0 _ _ l0_1 _ _ l0_2 t250 _ (kc (Kd.C_below HR0_1.out HB.out)) HC0_1.out (kc (Kd.C_below HR0_2.out HB.out)) HC0_2.out A4.out) ?_; rintro e w9 ⟨v251, rfl, ho0, hb⟩; refine ⟨_, rfl, ?_⟩; have HO252 := Z0 (Kd.R_lower ho0 (below_size HB.out)); replace BK248 := Z0 (Z2 BK248.out hb); replace HB := Z0 (Z1 HB.out hb)))
 go_ret2
 exact ⟨_, rfl, by (with_reducible repeat (first | apply Kd.R_alloc | apply Kd.R_drewN | apply Kd.R_drew)); exact HO252.out, V0⟩
def table_Row.f (k : Nat) (a0_0 : Int) (l0_1 : List (S23)) (l0_2 : List (S46)) (a1 : Int) : Option (List Int × Int) := (table_Validate.f k a0_0 l0_1 l0_2).bind fun t254 => (if t254 = 0 then (if a1 < 1 then (some (([] : List Int), 4)) else (if a1 > (l0_2.length : Int) then (some (([] : List Int), 4)) else (if 0 ≤ (wrap64 (a1 - 1)) then (if (wrap64 (a1 - 1)) < (l0_2.length : Int) then ((table_row.f l0_1 ((rd_T46 l0_2 (wrap64 (a1 - 1))).f0) ((rd_T46 l0_2 (wrap64 (a1 - 1))).f1)).bind fun t256 => (some (t256, 0))) else (none)) else (none)))) else (some (([] : List Int), t254)))
theorem table_Row.mono : ∀ a0 a1 a2 a3 k, LeO (table_Row.f k a0 a1 a2 a3) (table_Row.f (k + 1) a0 a1 a2 a3) := by
 intro a0 a1 a2 a3 k
 unfold table_Row.f
 repeat' first
   | (with_reducible exact table_Validate.mono _ _ _ _)
   | (with_reducible exact LeO.refl _)
   | (with_reducible exact LeO.none _)
   | (with_reducible refine LeO.ite ?_ ?_)
   | (with_reducible refine LeO.bind ?_ (fun _ => ?_))
def table_Row.T6 : Bool × List (List Nat × List Nat) := (true, [([], []), ([0], [0]), ([], []), ([2], [2]), ([], []), ([4], [4]), ([3, 5], [3, 5]), ([6], [6]), ([1, 7], [1, 7]), ([8, 8, 0, 1, 2, 3, 4, 5, 6, 7, 8], [8]), ([9, 0, 1, 2, 3, 4, 5, 6, 7, 8, 9], [])])
def table_Row.B6 : List Nat := [0, 1, 0, 4, 0, 16, 60, 124, 255, 511, 1023]
theorem table_Row.tab6 : rtab .any (opsOf Tryz.f21 6) = table_Row.T6 := by kernel_rfl
theorem table_Row.bits6 : waitsOk table_Row.T6.2 table_Row.B6 = true := by kernel_rfl
theorem table_Row.calls (k : Nat) (a0_0 : Int) (A0_1 : Option Addr) (c0_1 : Nat) (l0_1 : List (S23)) (A0_2 : Option Addr) (c0_2 : Nat) (l0_2 : List (S46)) (a1 : Int) (r1 : List Int) (r2 : Int) (w : World) (hr0_1 : Kd.C k23 w A0_1 l0_1.length l0_1) (hc0_1 : l0_1.length ≤ c0_1) (hr0_2 : Kd.C k46 w A0_2 l0_2.length l0_2) (hc0_2 : l0_2.length ≤ c0_2) (h : table_Row.f k a0_0 l0_1 l0_2 a1 = some (r1, r2)) :
  Calls Tryz.prog 21 #[.agg #[.int .i64 a0_0, .slice A0_1 l0_1.length c0_1, .slice A0_2 l0_2.length c0_2], .int .i64 a1] w fun e w' => ∃ v0_ : Value, e = .returned (.tuple #[v0_, .int .i64 r2]) ∧ Kd.R (Kd.int .u8) 5 w' w.heap.size (fun _ => True) v0_ r1 ∧ Below w.heap.size w w' := by
 have hu35 := Tryz.underlying35
 have hu46 := Tryz.underlying46
 have HR0_1 := Z0 hr0_1
 have HC0_1 := Z0 hc0_1
 clear hr0_1 hc0_1
 have HR0_2 := Z0 hr0_2
 have HC0_2 := Z0 hc0_2
 clear hr0_2 hc0_2
 have HB := Z0 (Below.refl w.heap.size w)
 unfold table_Row.f at h
 have H := h
 clear h
 replace H := Option.bind_eq_some_iff.mp H
 obtain ⟨t254, A30, H⟩ := H
 replace H : (if t254 = 0 then (if a1 < 1 then (some (([] : List Int), 4)) else (if a1 > (l0_2.length : Int) then (some (([] : List Int), 4)) else (if 0 ≤ (wrap64 (a1 - 1)) then (if (wrap64 (a1 - 1)) < (l0_2.length : Int) then ((table_row.f l0_1 ((rd_T46 l0_2 (wrap64 (a1 - 1))).f0) ((rd_T46 l0_2 (wrap64 (a1 - 1))).f1)).bind fun t256 => (some (t256, 0))) else (none)) else (none)))) else (some (([] : List Int), t254))) = some (r1, r2) := H
 have A3 := Z0 A30
 clear A30
 by_cases c4 : t254 = 0
 rotate_left
 ·rw [if_neg c4] at H
  have c4b0 : (t254 == 0) = false := beq_eq_false_iff_ne.mpr c4
  have c4b1 : (t254 != 0) = true := bne_iff_ne.mpr c4
  simp only [Option.some.injEq, Prod.mk.injEq] at H
  obtain ⟨rfl, rfl⟩ := H
  go_enter Tryz.func21, Tryz.ntmps21
  go_wp2_with (first | ((with_reducible refine Z9 (N := 2) rfl ?_); (try (refine gate_guard (by rfl) ?_; dsimp only)); refine box_event ?hg (N := 2) ?hd (cs := #[.int .i64 a0_0, .slice A0_1 l0_1.length c0_1, .slice A0_2 l0_2.length c0_2]) (t := 35) ?hr ?_; (case hd => rfl); (case hg => rfl); (case hr => go_simp; try rfl); intro gb253 hg w24 hbox hb; have BK253 := Z0 hbox; have GE253 := ge hg HB.out; replace HB := Z0 (Z1 HB.out hb); clear hb hbox hg; have hcz25_0 : w24.cell? ⟨gb253, 0, none⟩ = some (.int .i64 a0_0) := (Z4 BK253.out 0).trans rfl; have hcz25_1 : w24.cell? ⟨gb253, 1, none⟩ = some (.slice A0_1 l0_1.length c0_1) := (Z4 BK253.out 1).trans rfl; have hcz25_2 : w24.cell? ⟨gb253, 2, none⟩ = some (.slice A0_2 l0_2.length c0_2) := (Z4 BK253.out 2).trans rfl; have hfz25_0 := Z8 BK253.out 0; have hfz25_1 := Z8 BK253.out 1; have hfz25_2 := Z8 BK253.out 2) | ((with_reducible refine Z5 (f := 34) rfl ?_); refine gl Tryz.func34 (table_Validate.calls k a0_0 _ _ l0_1 _ _ l0_2 t254 _ (kc (Kd.C_below HR0_1.out HB.out)) HC0_1.out (kc (Kd.C_below HR0_2.out HB.out)) HC0_2.out A3.out) ?_; rintro e w26 ⟨rfl, hb⟩; refine ⟨_, rfl, ?_⟩; replace BK253 := Z0 (Z2 BK253.out hb); replace HB := Z0 (Z1 HB.out hb)))
  go_ret2
  exact ⟨_, rfl, by first | exact Kd.R_nil _ _ _ _ _ | exact Kd.N_nil _ _ _ _ _ | exact Kd.V_nil _ _ _ _ _ | exact Kd.Q_nil _ _ _ _ _ | exact Kd.S_nil _ _ _ _ _, V0⟩
 rw [if_pos c4] at H
 have c4b0 : (t254 == 0) = true := beq_iff_eq.mpr c4
 have c4b1 : (t254 != 0) = false := bne_eq_false_iff_eq.mpr c4
 clear c4
 by_cases c5 : a1 < 1
 ·rw [if_pos c5] at H
  have c5b0 : decide (a1 < 1) = true := decide_eq_true c5
  clear c5
  simp only [Option.some.injEq, Prod.mk.injEq] at H
  obtain ⟨rfl, rfl⟩ := H
  go_enter Tryz.func21, Tryz.ntmps21
  go_wp2_with (first | ((with_reducible refine Z9 (N := 2) rfl ?_); (try (refine gate_guard (by rfl) ?_; dsimp only)); refine box_event ?hg (N := 2) ?hd (cs := #[.int .i64 a0_0, .slice A0_1 l0_1.length c0_1, .slice A0_2 l0_2.length c0_2]) (t := 35) ?hr ?_; (case hd => rfl); (case hg => rfl); (case hr => go_simp; try rfl); intro gb253 hg w6 hbox hb; have BK253 := Z0 hbox; have GE253 := ge hg HB.out; replace HB := Z0 (Z1 HB.out hb); clear hb hbox hg; have hcz7_0 : w6.cell? ⟨gb253, 0, none⟩ = some (.int .i64 a0_0) := (Z4 BK253.out 0).trans rfl; have hcz7_1 : w6.cell? ⟨gb253, 1, none⟩ = some (.slice A0_1 l0_1.length c0_1) := (Z4 BK253.out 1).trans rfl; have hcz7_2 : w6.cell? ⟨gb253, 2, none⟩ = some (.slice A0_2 l0_2.length c0_2) := (Z4 BK253.out 2).trans rfl; have hfz7_0 := Z8 BK253.out 0; have hfz7_1 := Z8 BK253.out 1; have hfz7_2 := Z8 BK253.out 2) | ((with_reducible refine Z5 (f := 34) rfl ?_); refine gl Tryz.func34 (table_Validate.calls k a0_0 _ _ l0_1 _ _ l0_2 t254 _ (kc (Kd.C_below HR0_1.out HB.out)) HC0_1.out (kc (Kd.C_below HR0_2.out HB.out)) HC0_2.out A3.out) ?_; rintro e w8 ⟨rfl, hb⟩; refine ⟨_, rfl, ?_⟩; replace BK253 := Z0 (Z2 BK253.out hb); replace HB := Z0 (Z1 HB.out hb)))
  go_ret2
  exact ⟨_, rfl, by first | exact Kd.R_nil _ _ _ _ _ | exact Kd.N_nil _ _ _ _ _ | exact Kd.V_nil _ _ _ _ _ | exact Kd.Q_nil _ _ _ _ _ | exact Kd.S_nil _ _ _ _ _, V0⟩
 rw [if_neg c5] at H
 have c5b0 : decide (a1 < 1) = false := decide_eq_false c5
 clear c5
 by_cases c9 : a1 > (l0_2.length : Int)
 ·rw [if_pos c9] at H
  have c9b0 : decide ((l0_2.length : Int) < a1) = true := decide_eq_true c9
  clear c9
  simp only [Option.some.injEq, Prod.mk.injEq] at H
  obtain ⟨rfl, rfl⟩ := H
  go_enter Tryz.func21, Tryz.ntmps21
  go_wp2_with (first | ((with_reducible refine Z9 (N := 2) rfl ?_); (try (refine gate_guard (by rfl) ?_; dsimp only)); refine box_event ?hg (N := 2) ?hd (cs := #[.int .i64 a0_0, .slice A0_1 l0_1.length c0_1, .slice A0_2 l0_2.length c0_2]) (t := 35) ?hr ?_; (case hd => rfl); (case hg => rfl); (case hr => go_simp; try rfl); intro gb253 hg w10 hbox hb; have BK253 := Z0 hbox; have GE253 := ge hg HB.out; replace HB := Z0 (Z1 HB.out hb); clear hb hbox hg; have hcz11_0 : w10.cell? ⟨gb253, 0, none⟩ = some (.int .i64 a0_0) := (Z4 BK253.out 0).trans rfl; have hcz11_1 : w10.cell? ⟨gb253, 1, none⟩ = some (.slice A0_1 l0_1.length c0_1) := (Z4 BK253.out 1).trans rfl; have hcz11_2 : w10.cell? ⟨gb253, 2, none⟩ = some (.slice A0_2 l0_2.length c0_2) := (Z4 BK253.out 2).trans rfl; have hfz11_0 := Z8 BK253.out 0; have hfz11_1 := Z8 BK253.out 1; have hfz11_2 := Z8 BK253.out 2) | ((with_reducible refine Z5 (f := 34) rfl ?_); refine gl Tryz.func34 (table_Validate.calls k a0_0 _ _ l0_1 _ _ l0_2 t254 _ (kc (Kd.C_below HR0_1.out HB.out)) HC0_1.out (kc (Kd.C_below HR0_2.out HB.out)) HC0_2.out A3.out) ?_; rintro e w12 ⟨rfl, hb⟩; refine ⟨_, rfl, ?_⟩; replace BK253 := Z0 (Z2 BK253.out hb); replace HB := Z0 (Z1 HB.out hb); have hcz13_0 : w12.cell? ⟨gb253, 0, none⟩ = some (.int .i64 a0_0) := (Z4 BK253.out 0).trans rfl; have hcz13_1 : w12.cell? ⟨gb253, 1, none⟩ = some (.slice A0_1 l0_1.length c0_1) := (Z4 BK253.out 1).trans rfl; have hcz13_2 : w12.cell? ⟨gb253, 2, none⟩ = some (.slice A0_2 l0_2.length c0_2) := (Z4 BK253.out 2).trans rfl; have hfz13_0 := Z8 BK253.out 0; have hfz13_1 := Z8 BK253.out 1; have hfz13_2 := Z8 BK253.out 2))
  go_ret2
  exact ⟨_, rfl, by first | exact Kd.R_nil _ _ _ _ _ | exact Kd.N_nil _ _ _ _ _ | exact Kd.V_nil _ _ _ _ _ | exact Kd.Q_nil _ _ _ _ _ | exact Kd.S_nil _ _ _ _ _, V0⟩
 rw [if_neg c9] at H
 have c9b0 : decide ((l0_2.length : Int) < a1) = false := decide_eq_false c9
 clear c9
 obtain ⟨ji14, hji14⟩ : ∃ j_ : Int, (wrap64 (a1 - 1)) = j_ := ⟨_, rfl⟩
 replace H : (if 0 ≤ (ji14) then (if (ji14) < (l0_2.length : Int) then ((table_row.f l0_1 ((rd_T46 l0_2 (ji14)).f0) ((rd_T46 l0_2 (ji14)).f1)).bind fun t256 => (some (t256, 0))) else (none)) else (none)) = some (r1, r2) := by first | (rw [hji14] at H; exact H) | (simp only [hji14] at H ⊢; exact H)
 (try rw [hji14] at A3)
 have hji14w : (IntKind.i64.wrap (a1 - 1)) = ji14 := (i64_w _).trans hji14
 by_cases c15 : 0 ≤ (ji14)
 rotate_left
 ·rw [if_neg c15] at H
  exact absurd H (by simp)
 rw [if_pos c15] at H
 have c15b0 : decide (0 ≤ (ji14)) = true := decide_eq_true c15
 clear c15
 by_cases c16 : (ji14) < (l0_2.length : Int)
 rotate_left
 ·rw [if_neg c16] at H
  exact absurd H (by simp)
 rw [if_pos c16] at H
 have c16b0 : decide ((ji14) < (l0_2.length : Int)) = true := decide_eq_true c16
 clear c16
 replace H := Option.bind_eq_some_iff.mp H
 obtain ⟨t256, A170, H⟩ := H
 replace H : (some (t256, 0)) = some (r1, r2) := H
 have A17 := Z0 A170
 clear A170
 simp only [Option.some.injEq, Prod.mk.injEq] at H
 obtain ⟨rfl, rfl⟩ := H
 go_enter Tryz.func21, Tryz.ntmps21
 try go_wp2_with (first | ((with_reducible refine Z9 (N := 2) rfl ?_); (try (refine gate_guard (by rfl) ?_; dsimp only)); refine box_event ?hg (N := 2) ?hd (cs := #[.int .i64 a0_0, .slice A0_1 l0_1.length c0_1, .slice A0_2 l0_2.length c0_2]) (t := 35) ?hr ?_; (case hd => rfl); (case hg => rfl); (case hr => go_simp; try rfl); intro gb253 hg w18 hbox hb; have BK253 := Z0 hbox; have GE253 := ge hg HB.out; replace HB := Z0 (Z1 HB.out hb); clear hb hbox hg; have hcz19_0 : w18.cell? ⟨gb253, 0, none⟩ = some (.int .i64 a0_0) := (Z4 BK253.out 0).trans rfl; have hcz19_1 : w18.cell? ⟨gb253, 1, none⟩ = some (.slice A0_1 l0_1.length c0_1) := (Z4 BK253.out 1).trans rfl; have hcz19_2 : w18.cell? ⟨gb253, 2, none⟩ = some (.slice A0_2 l0_2.length c0_2) := (Z4 BK253.out 2).trans rfl; have hfz19_0 := Z8 BK253.out 0; have hfz19_1 := Z8 BK253.out 1; have hfz19_2 := Z8 BK253.out 2) | ((with_reducible refine Z5 (f := 34) rfl ?_); refine gl Tryz.func34 (table_Validate.calls k a0_0 _ _ l0_1 _ _ l0_2 t254 _ (kc (Kd.C_below HR0_1.out HB.out)) HC0_1.out (kc (Kd.C_below HR0_2.out HB.out)) HC0_2.out A3.out) ?_; rintro e w20 ⟨rfl, hb⟩; refine ⟨_, rfl, ?_⟩; replace BK253 := Z0 (Z2 BK253.out hb); replace HB := Z0 (Z1 HB.out hb); have hcz21_0 : w20.cell? ⟨gb253, 0, none⟩ = some (.int .i64 a0_0) := (Z4 BK253.out 0).trans rfl; have hcz21_1 : w20.cell? ⟨gb253, 1, none⟩ = some (.slice A0_1 l0_1.length c0_1) := (Z4 BK253.out 1).trans rfl; have hcz21_2 : w20.cell? ⟨gb253, 2, none⟩ = some (.slice A0_2 l0_2.length c0_2) := (Z4 BK253.out 2).trans rfl; have hfz21_0 := Z8 BK253.out 0; have hfz21_1 := Z8 BK253.out 1; have hfz21_2 := Z8 BK253.out 2))
 have n0_ := Z0 (Y5 BK253.out)
 have n1_ := Z0 (below_drew1 HB.out)
 clear BK253
 clear HB
 have BK253 := n0_
 have HB := n1_
 clear n0_ n1_
 have p255 : 0 ≤ ((ji14) : Int) := of_decide_eq_true V3
 have q255 : (ji14) < (l0_2.length : Int) := of_decide_eq_true V3
 obtain ⟨ad255, A255_1, c255_1, e255, hx255_0, hx255_1, hl255_1, hi255_1⟩ := at_T46 HR0_2.out (ji14) p255 q255
 have hw255_1 := hx255_1
 have hw255_0 := hx255_0
 cases e255
 replace hx255_0 := hz HB.out hx255_0
 replace hx255_1 := hz HB.out hx255_1
 have HR255_1 := Z0 hi255_1
 have HC255_1 := Z0 hl255_1
 clear hi255_1 hl255_1
 replace p255 := eq_true p255
 replace q255 := eq_true q255
 refine start_ (n := 11) (S := fun w' => w'.cell? ⟨gb253, 0, none⟩ = some (.int .i64 a0_0) ∧ w'.cell? ⟨gb253, 1, none⟩ = some (.slice A0_1 l0_1.length c0_1) ∧ w'.cell? ⟨gb253, 2, none⟩ = some (.slice (some ad255) l0_2.length c0_2) ∧ w'.cell? (ad255.add (((ji14)).toNat * 2)) = some (.bool ((rd_T46 l0_2 (ji14)).f0)) ∧ w'.cell? ⟨(ad255.add (((ji14)).toNat * 2)).block, (ad255.add (((ji14)).toNat * 2)).off + 1, none⟩ = some (.slice A255_1 ((rd_T46 l0_2 (ji14)).f1).length c255_1)) (ds := []) #[false, false, false, false, false, false, false, false, false, false, false] (by kernel_rfl) rfl rfl ⟨(Z4 BK253.out 0).trans rfl, (Z4 BK253.out 1).trans rfl, (Z4 BK253.out 2).trans rfl, (hz HB.out hw255_0), (hz HB.out hw255_1)⟩ (fun hHeld => ?_); refine with_tabW table_Row.tab6 table_Row.bits6 (fun HT_ HW_ => ?_)
 generalize w20.drew = w22 at BK253 HB HR255_1 hx255_0 hx255_1 hHeld ⊢
 refine pz 0 21 #[true, false, false, false, false, false, false, false, false, false, false] HT_ ?_
 refine pz 2 23 #[true, false, true, false, false, false, false, false, false, false, false] HT_ ?_
 refine pz 4 25 #[true, false, true, false, true, false, false, false, false, false, false] HT_ ?_
 refine pz 5 26 #[true, false, true, false, true, true, false, false, false, false, false] HT_ ?_
 refine tz 1 22 #[true, true, true, false, true, true, false, false, false, false, false] HT_ HW_ hHeld ?_
 refine tz 3 24 #[true, true, true, true, true, true, false, false, false, false, false] HT_ HW_ hHeld ?_
 refine pz 6 27 #[true, true, true, true, true, true, true, false, false, false, false] HT_ ?_
 refine tz 7 28 #[true, true, true, true, true, true, true, true, false, false, false] HT_ HW_ hHeld ?_
 refine one_ (i := 8) (N := some 29) #[true, true, true, true, true, true, true, true, true, false, false] rfl rfl (one_of HT_.out (by kernel_rfl)) (by decide) (fun K hK => ?_)
 refine goes_ Tryz.func63 (by kernel_rfl) rfl #[.slice A0_1 l0_1.length c0_1, .agg #[.bool ((rd_T46 l0_2 (ji14)).f0), .slice A255_1 ((rd_T46 l0_2 (ji14)).f1).length c255_1]] (by rfl) rfl rfl (by (try simp only [List.map_toArray, List.map_cons, List.map_nil]); first | done | (simp only [hji14]; rfl) | rfl | (simp only [List.length_drop, List.length_take]; rfl)) ?_
 with_reducible refine (table_row.calls _ _ l0_1 ((rd_T46 l0_2 (ji14)).f0) _ _ ((rd_T46 l0_2 (ji14)).f1) t256 _ ?side1 ?side2 ?side3 ?side4 A17.out).mono ?_
 (case side1 => repeat (first | exact (Kd.C_below HR0_1.out HB.out) | (with_reducible refine Kd.C_alloc ?_ _) | (with_reducible refine Kd.C_drewN ?_ _) | (with_reducible refine Kd.C_drew ?_)))
 (case side2 => exact HC0_1.out)
 (case side3 => repeat (first | exact (Kd.C_below HR255_1.out HB.out) | (with_reducible refine Kd.C_alloc ?_ _) | (with_reducible refine Kd.C_drewN ?_ _) | (with_reducible refine Kd.C_drew ?_)))
 (case side4 => exact HC255_1.out)
 rintro e w23 ⟨v257, rfl, ho0, hb⟩
 refine ⟨_, rfl, ?_⟩
 have n0_ := Z0 (Kd.R_lower ho0 (below_size HB.out))
 have n1_ := Z0 (Z2 BK253.out hb)
 have n2_ := Z0 (Z1 HB.out hb)
 clear BK253
 clear HB
 have HO258 := n0_
 have BK253 := n1_
 have HB := n2_
 clear n0_ n1_ n2_
 refine hK.out _ _ ⟨(Z4 BK253.out 0).trans rfl, (Z4 BK253.out 1).trans rfl, (Z4 BK253.out 2).trans rfl, (hz HB.out hw255_0), (hz HB.out hw255_1)⟩ (fun hHeld => ?_)
 clear hK K
 refine norm_ (a' := ?_) ?_ ?_
 rotate_left
 ·show Act.put _ (some 29) _ = _
  simp only [Act.put, Z3, Z6, Z7, i64_w, i32_w]
  rfl
 refine pz 9 4 #[true, true, true, true, true, true, true, true, true, true, false] HT_ ?_
 refine pz 10 5 #[true, true, true, true, true, true, true, true, true, true, true] HT_ ?_
 refine done_ (done_of HT_.out (by kernel_rfl)) ?_
 try go_wp2
 go_ret2
 exact ⟨_, by first | rfl | (simp [errW_none, errW_some] <;> rfl) | (simp only [← hji14]; first | rfl | (simp [errW_none, errW_some] <;> rfl)) | (simp [*, errW_none, errW_some] <;> rfl), by (with_reducible repeat (first | apply Kd.R_alloc | apply Kd.R_drewN | apply Kd.R_drew)); exact HO258.out, V0⟩
def cabinetryref03_Row.f (k : Nat) (a0_0 : Int) (l0_1 : List (S23)) (l0_2 : List (S46)) (a1 : Int) : Option (List Int × Int) := (cabinetryref03_Validate.f k a0_0 l0_1 l0_2).bind fun t260 => (if t260 = 0 then (if a1 < 1 then (some (([] : List Int), 4)) else (if a1 > (l0_2.length : Int) then (some (([] : List Int), 4)) else (if 0 ≤ (wrap64 (a1 - 1)) then (if (wrap64 (a1 - 1)) < (l0_2.length : Int) then ((cabinetryref03_row.f k l0_1 ((rd_T46 l0_2 (wrap64 (a1 - 1))).f0) ((rd_T46 l0_2 (wrap64 (a1 - 1))).f1)).bind fun t262 => (some (t262, 0))) else (none)) else (none)))) else (some (([] : List Int), t260)))
theorem cabinetryref03_Row.mono : ∀ a0 a1 a2 a3 k, LeO (cabinetryref03_Row.f k a0 a1 a2 a3) (cabinetryref03_Row.f (k + 1) a0 a1 a2 a3) := by
 intro a0 a1 a2 a3 k
 unfold cabinetryref03_Row.f
 repeat' first
   | (with_reducible exact cabinetryref03_Validate.mono _ _ _ _)
   | (with_reducible exact cabinetryref03_row.mono _ _ _ _)
   | (with_reducible exact LeO.refl _)
   | (with_reducible exact LeO.none _)
   | (with_reducible refine LeO.ite ?_ ?_)
   | (with_reducible refine LeO.bind ?_ (fun _ => ?_))
def cabinetryref03_Row.T6 : Bool × List (List Nat × List Nat) := (true, [([], []), ([0], [0]), ([], []), ([2], [2]), ([], []), ([4], [4]), ([3, 5], [3, 5]), ([6], [6]), ([1, 7], [1, 7]), ([8, 8, 0, 1, 2, 3, 4, 5, 6, 7, 8], [8]), ([9, 0, 1, 2, 3, 4, 5, 6, 7, 8, 9], [])])
def cabinetryref03_Row.B6 : List Nat := [0, 1, 0, 4, 0, 16, 60, 124, 255, 511, 1023]
theorem cabinetryref03_Row.tab6 : rtab .any (opsOf Tryz.f22 6) = cabinetryref03_Row.T6 := by kernel_rfl
theorem cabinetryref03_Row.bits6 : waitsOk cabinetryref03_Row.T6.2 cabinetryref03_Row.B6 = true := by kernel_rfl
theorem cabinetryref03_Row.calls (k : Nat) (a0_0 : Int) (A0_1 : Option Addr) (c0_1 : Nat) (l0_1 : List (S23)) (A0_2 : Option Addr) (c0_2 : Nat) (l0_2 : List (S46)) (a1 : Int) (r1 : List Int) (r2 : Int) (w : World) (hr0_1 : Kd.C k23 w A0_1 l0_1.length l0_1) (hc0_1 : l0_1.length ≤ c0_1) (hr0_2 : Kd.C k46 w A0_2 l0_2.length l0_2) (hc0_2 : l0_2.length ≤ c0_2) (h : cabinetryref03_Row.f k a0_0 l0_1 l0_2 a1 = some (r1, r2)) :
  Calls Tryz.prog 22 #[.agg #[.int .i64 a0_0, .slice A0_1 l0_1.length c0_1, .slice A0_2 l0_2.length c0_2], .int .i64 a1] w fun e w' => ∃ v0_ : Value, e = .returned (.tuple #[v0_, .int .i64 r2]) ∧ Kd.R (Kd.int .u8) 5 w' w.heap.size (fun _ => True) v0_ r1 ∧ Below w.heap.size w w' := by
 have hu35 := Tryz.underlying35
 have hu46 := Tryz.underlying46
 have HR0_1 := Z0 hr0_1
 have HC0_1 := Z0 hc0_1
 clear hr0_1 hc0_1
 have HR0_2 := Z0 hr0_2
 have HC0_2 := Z0 hc0_2
 clear hr0_2 hc0_2
 have HB := Z0 (Below.refl w.heap.size w)
 unfold cabinetryref03_Row.f at h
 have H := h
 clear h
 replace H := Option.bind_eq_some_iff.mp H
 obtain ⟨t260, A30, H⟩ := H
 replace H : (if t260 = 0 then (if a1 < 1 then (some (([] : List Int), 4)) else (if a1 > (l0_2.length : Int) then (some (([] : List Int), 4)) else (if 0 ≤ (wrap64 (a1 - 1)) then (if (wrap64 (a1 - 1)) < (l0_2.length : Int) then ((cabinetryref03_row.f k l0_1 ((rd_T46 l0_2 (wrap64 (a1 - 1))).f0) ((rd_T46 l0_2 (wrap64 (a1 - 1))).f1)).bind fun t262 => (some (t262, 0))) else (none)) else (none)))) else (some (([] : List Int), t260))) = some (r1, r2) := H
 have A3 := Z0 A30
 clear A30
 by_cases c4 : t260 = 0
 rotate_left
 ·rw [if_neg c4] at H
  have c4b0 : (t260 == 0) = false := beq_eq_false_iff_ne.mpr c4
  have c4b1 : (t260 != 0) = true := bne_iff_ne.mpr c4
  simp only [Option.some.injEq, Prod.mk.injEq] at H
  obtain ⟨rfl, rfl⟩ := H
  go_enter Tryz.func22, Tryz.ntmps22
  go_wp2_with (first | ((with_reducible refine Z9 (N := 2) rfl ?_); (try (refine gate_guard (by rfl) ?_; dsimp only)); refine box_event ?hg (N := 2) ?hd (cs := #[.int .i64 a0_0, .slice A0_1 l0_1.length c0_1, .slice A0_2 l0_2.length c0_2]) (t := 35) ?hr ?_; (case hd => rfl); (case hg => rfl); (case hr => go_simp; try rfl); intro gb259 hg w24 hbox hb; have BK259 := Z0 hbox; have GE259 := ge hg HB.out; replace HB := Z0 (Z1 HB.out hb); clear hb hbox hg; have hcz25_0 : w24.cell? ⟨gb259, 0, none⟩ = some (.int .i64 a0_0) := (Z4 BK259.out 0).trans rfl; have hcz25_1 : w24.cell? ⟨gb259, 1, none⟩ = some (.slice A0_1 l0_1.length c0_1) := (Z4 BK259.out 1).trans rfl; have hcz25_2 : w24.cell? ⟨gb259, 2, none⟩ = some (.slice A0_2 l0_2.length c0_2) := (Z4 BK259.out 2).trans rfl; have hfz25_0 := Z8 BK259.out 0; have hfz25_1 := Z8 BK259.out 1; have hfz25_2 := Z8 BK259.out 2) | ((with_reducible refine Z5 (f := 35) rfl ?_); refine gl Tryz.func35 (cabinetryref03_Validate.calls k a0_0 _ _ l0_1 _ _ l0_2 t260 _ (kc (Kd.C_below HR0_1.out HB.out)) HC0_1.out (kc (Kd.C_below HR0_2.out HB.out)) HC0_2.out A3.out) ?_; rintro e w26 ⟨rfl, hb⟩; refine ⟨_, rfl, ?_⟩; replace BK259 := Z0 (Z2 BK259.out hb); replace HB := Z0 (Z1 HB.out hb)))
  go_ret2
  exact ⟨_, rfl, by first | exact Kd.R_nil _ _ _ _ _ | exact Kd.N_nil _ _ _ _ _ | exact Kd.V_nil _ _ _ _ _ | exact Kd.Q_nil _ _ _ _ _ | exact Kd.S_nil _ _ _ _ _, V0⟩
 rw [if_pos c4] at H
 have c4b0 : (t260 == 0) = true := beq_iff_eq.mpr c4
 have c4b1 : (t260 != 0) = false := bne_eq_false_iff_eq.mpr c4
 clear c4
 by_cases c5 : a1 < 1
 ·rw [if_pos c5] at H
  have c5b0 : decide (a1 < 1) = true := decide_eq_true c5
  clear c5
  simp only [Option.some.injEq, Prod.mk.injEq] at H
  obtain ⟨rfl, rfl⟩ := H
  go_enter Tryz.func22, Tryz.ntmps22
  go_wp2_with (first | ((with_reducible refine Z9 (N := 2) rfl ?_); (try (refine gate_guard (by rfl) ?_; dsimp only)); refine box_event ?hg (N := 2) ?hd (cs := #[.int .i64 a0_0, .slice A0_1 l0_1.length c0_1, .slice A0_2 l0_2.length c0_2]) (t := 35) ?hr ?_; (case hd => rfl); (case hg => rfl); (case hr => go_simp; try rfl); intro gb259 hg w6 hbox hb; have BK259 := Z0 hbox; have GE259 := ge hg HB.out; replace HB := Z0 (Z1 HB.out hb); clear hb hbox hg; have hcz7_0 : w6.cell? ⟨gb259, 0, none⟩ = some (.int .i64 a0_0) := (Z4 BK259.out 0).trans rfl; have hcz7_1 : w6.cell? ⟨gb259, 1, none⟩ = some (.slice A0_1 l0_1.length c0_1) := (Z4 BK259.out 1).trans rfl; have hcz7_2 : w6.cell? ⟨gb259, 2, none⟩ = some (.slice A0_2 l0_2.length c0_2) := (Z4 BK259.out 2).trans rfl; have hfz7_0 := Z8 BK259.out 0; have hfz7_1 := Z8 BK259.out 1; have hfz7_2 := Z8 BK259.out 2) | ((with_reducible refine Z5 (f := 35) rfl ?_); refine gl Tryz.func35 (cabinetryref03_Validate.calls k a0_0 _ _ l0_1 _ _ l0_2 t260 _ (kc (Kd.C_below HR0_1.out HB.out)) HC0_1.out (kc (Kd.C_below HR0_2.out HB.out)) HC0_2.out A3.out) ?_; rintro e w8 ⟨rfl, hb⟩; refine ⟨_, rfl, ?_⟩; replace BK259 := Z0 (Z2 BK259.out hb); replace HB := Z0 (Z1 HB.out hb)))
  go_ret2
  exact ⟨_, rfl, by first | exact Kd.R_nil _ _ _ _ _ | exact Kd.N_nil _ _ _ _ _ | exact Kd.V_nil _ _ _ _ _ | exact Kd.Q_nil _ _ _ _ _ | exact Kd.S_nil _ _ _ _ _, V0⟩
 rw [if_neg c5] at H
 have c5b0 : decide (a1 < 1) = false := decide_eq_false c5
 clear c5
 by_cases c9 : a1 > (l0_2.length : Int)
 ·rw [if_pos c9] at H
  have c9b0 : decide ((l0_2.length : Int) < a1) = true := decide_eq_true c9
  clear c9
  simp only [Option.some.injEq, Prod.mk.injEq] at H
  obtain ⟨rfl, rfl⟩ := H
  go_enter Tryz.func22, Tryz.ntmps22
  go_wp2_with (first | ((with_reducible refine Z9 (N := 2) rfl ?_); (try (refine gate_guard (by rfl) ?_; dsimp only)); refine box_event ?hg (N := 2) ?hd (cs := #[.int .i64 a0_0, .slice A0_1 l0_1.length c0_1, .slice A0_2 l0_2.length c0_2]) (t := 35) ?hr ?_; (case hd => rfl); (case hg => rfl); (case hr => go_simp; try rfl); intro gb259 hg w10 hbox hb; have BK259 := Z0 hbox; have GE259 := ge hg HB.out; replace HB := Z0 (Z1 HB.out hb); clear hb hbox hg; have hcz11_0 : w10.cell? ⟨gb259, 0, none⟩ = some (.int .i64 a0_0) := (Z4 BK259.out 0).trans rfl; have hcz11_1 : w10.cell? ⟨gb259, 1, none⟩ = some (.slice A0_1 l0_1.length c0_1) := (Z4 BK259.out 1).trans rfl; have hcz11_2 : w10.cell? ⟨gb259, 2, none⟩ = some (.slice A0_2 l0_2.length c0_2) := (Z4 BK259.out 2).trans rfl; have hfz11_0 := Z8 BK259.out 0; have hfz11_1 := Z8 BK259.out 1; have hfz11_2 := Z8 BK259.out 2) | ((with_reducible refine Z5 (f := 35) rfl ?_); refine gl Tryz.func35 (cabinetryref03_Validate.calls k a0_0 _ _ l0_1 _ _ l0_2 t260 _ (kc (Kd.C_below HR0_1.out HB.out)) HC0_1.out (kc (Kd.C_below HR0_2.out HB.out)) HC0_2.out A3.out) ?_; rintro e w12 ⟨rfl, hb⟩; refine ⟨_, rfl, ?_⟩; replace BK259 := Z0 (Z2 BK259.out hb); replace HB := Z0 (Z1 HB.out hb); have hcz13_0 : w12.cell? ⟨gb259, 0, none⟩ = some (.int .i64 a0_0) := (Z4 BK259.out 0).trans rfl; have hcz13_1 : w12.cell? ⟨gb259, 1, none⟩ = some (.slice A0_1 l0_1.length c0_1) := (Z4 BK259.out 1).trans rfl; have hcz13_2 : w12.cell? ⟨gb259, 2, none⟩ = some (.slice A0_2 l0_2.length c0_2) := (Z4 BK259.out 2).trans rfl; have hfz13_0 := Z8 BK259.out 0; have hfz13_1 := Z8 BK259.out 1; have hfz13_2 := Z8 BK259.out 2))
  go_ret2
  exact ⟨_, rfl, by first | exact Kd.R_nil _ _ _ _ _ | exact Kd.N_nil _ _ _ _ _ | exact Kd.V_nil _ _ _ _ _ | exact Kd.Q_nil _ _ _ _ _ | exact Kd.S_nil _ _ _ _ _, V0⟩
 rw [if_neg c9] at H
 have c9b0 : decide ((l0_2.length : Int) < a1) = false := decide_eq_false c9
 clear c9
 obtain ⟨ji14, hji14⟩ : ∃ j_ : Int, (wrap64 (a1 - 1)) = j_ := ⟨_, rfl⟩
 replace H : (if 0 ≤ (ji14) then (if (ji14) < (l0_2.length : Int) then ((cabinetryref03_row.f k l0_1 ((rd_T46 l0_2 (ji14)).f0) ((rd_T46 l0_2 (ji14)).f1)).bind fun t262 => (some (t262, 0))) else (none)) else (none)) = some (r1, r2) := by first | (rw [hji14] at H; exact H) | (simp only [hji14] at H ⊢; exact H)
 (try rw [hji14] at A3)
 have hji14w : (IntKind.i64.wrap (a1 - 1)) = ji14 := (i64_w _).trans hji14
 by_cases c15 : 0 ≤ (ji14)
 rotate_left
 ·rw [if_neg c15] at H
  exact absurd H (by simp)
 rw [if_pos c15] at H
 have c15b0 : decide (0 ≤ (ji14)) = true := decide_eq_true c15
 clear c15
 by_cases c16 : (ji14) < (l0_2.length : Int)
 rotate_left
 ·rw [if_neg c16] at H
  exact absurd H (by simp)
 rw [if_pos c16] at H
 have c16b0 : decide ((ji14) < (l0_2.length : Int)) = true := decide_eq_true c16
 clear c16
 replace H := Option.bind_eq_some_iff.mp H
 obtain ⟨t262, A170, H⟩ := H
 replace H : (some (t262, 0)) = some (r1, r2) := H
 have A17 := Z0 A170
 clear A170
 simp only [Option.some.injEq, Prod.mk.injEq] at H
 obtain ⟨rfl, rfl⟩ := H
 go_enter Tryz.func22, Tryz.ntmps22
 try go_wp2_with (first | ((with_reducible refine Z9 (N := 2) rfl ?_); (try (refine gate_guard (by rfl) ?_; dsimp only)); refine box_event ?hg (N := 2) ?hd (cs := #[.int .i64 a0_0, .slice A0_1 l0_1.length c0_1, .slice A0_2 l0_2.length c0_2]) (t := 35) ?hr ?_; (case hd => rfl); (case hg => rfl); (case hr => go_simp; try rfl); intro gb259 hg w18 hbox hb; have BK259 := Z0 hbox; have GE259 := ge hg HB.out; replace HB := Z0 (Z1 HB.out hb); clear hb hbox hg; have hcz19_0 : w18.cell? ⟨gb259, 0, none⟩ = some (.int .i64 a0_0) := (Z4 BK259.out 0).trans rfl; have hcz19_1 : w18.cell? ⟨gb259, 1, none⟩ = some (.slice A0_1 l0_1.length c0_1) := (Z4 BK259.out 1).trans rfl; have hcz19_2 : w18.cell? ⟨gb259, 2, none⟩ = some (.slice A0_2 l0_2.length c0_2) := (Z4 BK259.out 2).trans rfl; have hfz19_0 := Z8 BK259.out 0; have hfz19_1 := Z8 BK259.out 1; have hfz19_2 := Z8 BK259.out 2) | ((with_reducible refine Z5 (f := 35) rfl ?_); refine gl Tryz.func35 (cabinetryref03_Validate.calls k a0_0 _ _ l0_1 _ _ l0_2 t260 _ (kc (Kd.C_below HR0_1.out HB.out)) HC0_1.out (kc (Kd.C_below HR0_2.out HB.out)) HC0_2.out A3.out) ?_; rintro e w20 ⟨rfl, hb⟩; refine ⟨_, rfl, ?_⟩; replace BK259 := Z0 (Z2 BK259.out hb); replace HB := Z0 (Z1 HB.out hb); have hcz21_0 : w20.cell? ⟨gb259, 0, none⟩ = some (.int .i64 a0_0) := (Z4 BK259.out 0).trans rfl; have hcz21_1 : w20.cell? ⟨gb259, 1, none⟩ = some (.slice A0_1 l0_1.length c0_1) := (Z4 BK259.out 1).trans rfl; have hcz21_2 : w20.cell? ⟨gb259, 2, none⟩ = some (.slice A0_2 l0_2.length c0_2) := (Z4 BK259.out 2).trans rfl; have hfz21_0 := Z8 BK259.out 0; have hfz21_1 := Z8 BK259.out 1; have hfz21_2 := Z8 BK259.out 2))
 have n0_ := Z0 (Y5 BK259.out)
 have n1_ := Z0 (below_drew1 HB.out)
 clear BK259
 clear HB
 have BK259 := n0_
 have HB := n1_
 clear n0_ n1_
 have p261 : 0 ≤ ((ji14) : Int) := of_decide_eq_true V3
 have q261 : (ji14) < (l0_2.length : Int) := of_decide_eq_true V3
 obtain ⟨ad261, A261_1, c261_1, e261, hx261_0, hx261_1, hl261_1, hi261_1⟩ := at_T46 HR0_2.out (ji14) p261 q261
 have hw261_1 := hx261_1
 have hw261_0 := hx261_0
 cases e261
 replace hx261_0 := hz HB.out hx261_0
 replace hx261_1 := hz HB.out hx261_1
 have HR261_1 := Z0 hi261_1
 have HC261_1 := Z0 hl261_1
 clear hi261_1 hl261_1
 replace p261 := eq_true p261
 replace q261 := eq_true q261
 refine start_ (n := 11) (S := fun w' => w'.cell? ⟨gb259, 0, none⟩ = some (.int .i64 a0_0) ∧ w'.cell? ⟨gb259, 1, none⟩ = some (.slice A0_1 l0_1.length c0_1) ∧ w'.cell? ⟨gb259, 2, none⟩ = some (.slice (some ad261) l0_2.length c0_2) ∧ w'.cell? (ad261.add (((ji14)).toNat * 2)) = some (.bool ((rd_T46 l0_2 (ji14)).f0)) ∧ w'.cell? ⟨(ad261.add (((ji14)).toNat * 2)).block, (ad261.add (((ji14)).toNat * 2)).off + 1, none⟩ = some (.slice A261_1 ((rd_T46 l0_2 (ji14)).f1).length c261_1)) (ds := []) #[false, false, false, false, false, false, false, false, false, false, false] (by kernel_rfl) rfl rfl ⟨(Z4 BK259.out 0).trans rfl, (Z4 BK259.out 1).trans rfl, (Z4 BK259.out 2).trans rfl, (hz HB.out hw261_0), (hz HB.out hw261_1)⟩ (fun hHeld => ?_); refine with_tabW cabinetryref03_Row.tab6 cabinetryref03_Row.bits6 (fun HT_ HW_ => ?_)
 generalize w20.drew = w22 at BK259 HB HR261_1 hx261_0 hx261_1 hHeld ⊢
 refine pz 0 21 #[true, false, false, false, false, false, false, false, false, false, false] HT_ ?_
 refine pz 2 23 #[true, false, true, false, false, false, false, false, false, false, false] HT_ ?_
 refine pz 4 25 #[true, false, true, false, true, false, false, false, false, false, false] HT_ ?_
 refine pz 5 26 #[true, false, true, false, true, true, false, false, false, false, false] HT_ ?_
 refine tz 1 22 #[true, true, true, false, true, true, false, false, false, false, false] HT_ HW_ hHeld ?_
 refine tz 3 24 #[true, true, true, true, true, true, false, false, false, false, false] HT_ HW_ hHeld ?_
 refine pz 6 27 #[true, true, true, true, true, true, true, false, false, false, false] HT_ ?_
 refine tz 7 28 #[true, true, true, true, true, true, true, true, false, false, false] HT_ HW_ hHeld ?_
 refine one_ (i := 8) (N := some 29) #[true, true, true, true, true, true, true, true, true, false, false] rfl rfl (one_of HT_.out (by kernel_rfl)) (by decide) (fun K hK => ?_)
 refine goes_ Tryz.func61 (by kernel_rfl) rfl #[.slice A0_1 l0_1.length c0_1, .agg #[.bool ((rd_T46 l0_2 (ji14)).f0), .slice A261_1 ((rd_T46 l0_2 (ji14)).f1).length c261_1]] (by rfl) rfl rfl (by (try simp only [List.map_toArray, List.map_cons, List.map_nil]); first | done | (simp only [hji14]; rfl) | rfl | (simp only [List.length_drop, List.length_take]; rfl)) ?_
 with_reducible refine (cabinetryref03_row.calls k _ _ l0_1 ((rd_T46 l0_2 (ji14)).f0) _ _ ((rd_T46 l0_2 (ji14)).f1) t262 _ ?side1 ?side2 ?side3 ?side4 A17.out).mono ?_
 (case side1 => repeat (first | exact (Kd.C_below HR0_1.out HB.out) | (with_reducible refine Kd.C_alloc ?_ _) | (with_reducible refine Kd.C_drewN ?_ _) | (with_reducible refine Kd.C_drew ?_)))
 (case side2 => exact HC0_1.out)
 (case side3 => repeat (first | exact (Kd.C_below HR261_1.out HB.out) | (with_reducible refine Kd.C_alloc ?_ _) | (with_reducible refine Kd.C_drewN ?_ _) | (with_reducible refine Kd.C_drew ?_)))
 (case side4 => exact HC261_1.out)
 rintro e w23 ⟨v263, rfl, ho0, hb⟩
 refine ⟨_, rfl, ?_⟩
 have n0_ := Z0 (Kd.R_lower ho0 (below_size HB.out))
 have n1_ := Z0 (Z2 BK259.out hb)
 have n2_ := Z0 (Z1 HB.out hb)
 clear BK259
 clear HB
 have HO264 := n0_
 have BK259 := n1_
 have HB := n2_
 clear n0_ n1_ n2_
 refine hK.out _ _ ⟨(Z4 BK259.out 0).trans rfl, (Z4 BK259.out 1).trans rfl, (Z4 BK259.out 2).trans rfl, (hz HB.out hw261_0), (hz HB.out hw261_1)⟩ (fun hHeld => ?_)
 clear hK K
 refine norm_ (a' := ?_) ?_ ?_
 rotate_left
 ·show Act.put _ (some 29) _ = _
  simp only [Act.put, Z3, Z6, Z7, i64_w, i32_w]
  rfl
 refine pz 9 4 #[true, true, true, true, true, true, true, true, true, true, false] HT_ ?_
 refine pz 10 5 #[true, true, true, true, true, true, true, true, true, true, true] HT_ ?_
 refine done_ (done_of HT_.out (by kernel_rfl)) ?_
 try go_wp2
 go_ret2
 exact ⟨_, by first | rfl | (simp [errW_none, errW_some] <;> rfl) | (simp only [← hji14]; first | rfl | (simp [errW_none, errW_some] <;> rfl)) | (simp [*, errW_none, errW_some] <;> rfl), by (with_reducible repeat (first | apply Kd.R_alloc | apply Kd.R_drewN | apply Kd.R_drew)); exact HO264.out, V0⟩
def cabinetrylaw03_same.f (l0 : List Int) (l1 : List Int) : Option (Bool) := some ((strOfNums l0).toList == (strOfNums l1).toList)
theorem cabinetrylaw03_same.calls (A0 : Option Addr) (c0 : Nat) (l0 : List Int) (A1 : Option Addr) (c1 : Nat) (l1 : List Int) (r : Bool) (w : World) (hr0 : Kd.C (Kd.int .u8) w A0 l0.length l0) (hc0 : l0.length ≤ c0) (hr1 : Kd.C (Kd.int .u8) w A1 l1.length l1) (hc1 : l1.length ≤ c1) (h : cabinetrylaw03_same.f l0 l1 = some r) :
  Calls Tryz.prog 23 #[.slice A0 l0.length c0, .slice A1 l1.length c1] w fun e w' => e = .returned (.bool r) ∧ Drawn0 w w' := by
 have HR0 := Z0 hr0
 have HC0 := Z0 hc0
 clear hr0 hc0
 have HR1 := Z0 hr1
 have HC1 := Z0 hc1
 clear hr1 hc1
 have H : (some ((strOfNums l0).toList == (strOfNums l1).toList)) = some r := h
 clear h
 obtain rfl := Option.some.inj H
 have hcv3 := Kd.C_string (P := Tryz.prog) (A := A0) (c := c0) Tryz.underlying37 Tryz.underlying5 Tryz.underlying9 HR0.out
 have hcv4 := Kd.C_string (P := Tryz.prog) (A := A1) (c := c1) Tryz.underlying37 Tryz.underlying5 Tryz.underlying9 HR1.out
 go_enter Tryz.func23, Tryz.ntmps23
 go_wp2
 go_ret
 exact ⟨V2, by repeat (first | exact Y4 _ | apply Y0)⟩
end
end Go.Proofs.YtldpdidlfbphcaaGreatDoor.P
end
section
namespace Go.Proofs.YtldpdidlfbphcaaGreatDoor.P
open Go.RowKit Go.Proofs.YtldpdidlfbphcaaGreatDoorW.PrintWords Go.Proofs.YtldpdidlfbphcaaGreatDoorW.PrintLast Go.Proofs.YtldpdidlfbphcaaGreatDoorW.PrintMore
theorem k46_mkF (W : World) (ok : Nat → Prop) (x : S46) {A1 : Option Addr} {c1 : Nat} (l1 : x.f1.length ≤ c1) (g1 : Kd.F k25 W ok A1 x.f1.length x.f1) : Kd.FK k46 W ok x [.bool x.f0, .slice A1 x.f1.length c1] := fun W2 hW => k46_mk W2 x l1 (g1 W2 hW)
attribute [local go_sem] max2_int min2_int max_two min_two max_three min_three max_four min_four
def known.f0 (k : Nat)  : Option (Bool) := (some (([(⟨(⟨#[65]⟩ : ByteArray), 4, 3, false⟩ : S23)] : List (S23)) : List (S23))).bind fun y212 => ((cabinetryref01_Text.f (⟨#[97, 98]⟩ : ByteArray)).bind fun bt215 => ((some (([(⟨false, (([(⟨bt215.1, bt215.2.1, bt215.2.2⟩ : S25)] : List (S25)))⟩ : S46)] : List (S46)) : List (S46))).bind fun y221 => ((table_Header.f k 0 y212 y221).bind fun bt225 => ((table_Row.f k 0 y212 y221 1).bind fun bt229 => ((cabinetryref01_Text.f (⟨#[97, 98, 32]⟩ : ByteArray)).bind fun bt233 => ((table_Fit.f (⟨#[65]⟩ : ByteArray) 4 2 false 0 bt233.1 bt233.2.1 bt233.2.2).bind fun bt236 => (if bt225.2 = 0 then (if (bt225.1.length : Int) = 29 then (if bt229.2 = 0 then (if (strOfNums bt229.1).toList = ([32, 97, 98, 32] : List UInt8) then (if bt236.2.2.2 = 0 then (some (bt236.2.2.1.toList == ([97, 98] : List UInt8))) else (some false)) else (some false)) else (some false)) else (some false)) else (some false))))))))
theorem known_size : (Tryz.prog.info? 25).map (·.size) = some 3 := by kernel_rfl
theorem known_calls (k : Nat) (w : World) (h : known.f0 k = some true) :
  Calls Tryz.prog 12 #[] w fun e w' => e = .returned (.bool true) ∧ Below w.heap.size w w' := by
 have hu23 := Tryz.underlying23
 have hu46 := Tryz.underlying46
 have hu35 := Tryz.underlying35
 have hu25 := Tryz.underlying25
 have HB := Z0 (Below.refl w.heap.size w)
 have H : ((some (([(⟨(⟨#[65]⟩ : ByteArray), 4, 3, false⟩ : S23)] : List (S23)) : List (S23))).bind fun y212 => ((cabinetryref01_Text.f (⟨#[97, 98]⟩ : ByteArray)).bind fun bt215 => ((some (([(⟨false, (([(⟨bt215.1, bt215.2.1, bt215.2.2⟩ : S25)] : List (S25)))⟩ : S46)] : List (S46)) : List (S46))).bind fun y221 => ((table_Header.f k 0 y212 y221).bind fun bt225 => ((table_Row.f k 0 y212 y221 1).bind fun bt229 => ((cabinetryref01_Text.f (⟨#[97, 98, 32]⟩ : ByteArray)).bind fun bt233 => ((table_Fit.f (⟨#[65]⟩ : ByteArray) 4 2 false 0 bt233.1 bt233.2.1 bt233.2.2).bind fun bt236 => (if bt225.2 = 0 then (if (bt225.1.length : Int) = 29 then (if bt229.2 = 0 then (if (strOfNums bt229.1).toList = ([32, 97, 98, 32] : List UInt8) then (if bt236.2.2.2 = 0 then (some (bt236.2.2.1.toList == ([97, 98] : List UInt8))) else (some false)) else (some false)) else (some false)) else (some false)) else (some false))))))))) = some true := h
 clear h
 obtain ⟨y212, hy212⟩ : ∃ y_ : List (S23), y_ = (([(⟨(⟨#[65]⟩ : ByteArray), 4, 3, false⟩ : S23)] : List (S23))) := ⟨_, rfl⟩
 replace H : ((cabinetryref01_Text.f (⟨#[97, 98]⟩ : ByteArray)).bind fun bt215 => ((some (([(⟨false, (([(⟨bt215.1, bt215.2.1, bt215.2.2⟩ : S25)] : List (S25)))⟩ : S46)] : List (S46)) : List (S46))).bind fun y221 => ((table_Header.f k 0 y212 y221).bind fun bt225 => ((table_Row.f k 0 y212 y221 1).bind fun bt229 => ((cabinetryref01_Text.f (⟨#[97, 98, 32]⟩ : ByteArray)).bind fun bt233 => ((table_Fit.f (⟨#[65]⟩ : ByteArray) 4 2 false 0 bt233.1 bt233.2.1 bt233.2.2).bind fun bt236 => (if bt225.2 = 0 then (if (bt225.1.length : Int) = 29 then (if bt229.2 = 0 then (if (strOfNums bt229.1).toList = ([32, 97, 98, 32] : List UInt8) then (if bt236.2.2.2 = 0 then (some (bt236.2.2.1.toList == ([97, 98] : List UInt8))) else (some false)) else (some false)) else (some false)) else (some false)) else (some false)))))))) = some true := by rw [hy212]; exact H
 have Ny212 := Z0 hy212
 clear hy212
 replace H := Option.bind_eq_some_iff.mp H
 obtain ⟨⟨t215, t216, t217⟩, A10, H⟩ := H
 replace H : ((some (([(⟨false, (([(⟨t215, t216, t217⟩ : S25)] : List (S25)))⟩ : S46)] : List (S46)) : List (S46))).bind fun y221 => ((table_Header.f k 0 y212 y221).bind fun bt225 => ((table_Row.f k 0 y212 y221 1).bind fun bt229 => ((cabinetryref01_Text.f (⟨#[97, 98, 32]⟩ : ByteArray)).bind fun bt233 => ((table_Fit.f (⟨#[65]⟩ : ByteArray) 4 2 false 0 bt233.1 bt233.2.1 bt233.2.2).bind fun bt236 => (if bt225.2 = 0 then (if (bt225.1.length : Int) = 29 then (if bt229.2 = 0 then (if (strOfNums bt229.1).toList = ([32, 97, 98, 32] : List UInt8) then (if bt236.2.2.2 = 0 then (some (bt236.2.2.1.toList == ([97, 98] : List UInt8))) else (some false)) else (some false)) else (some false)) else (some false)) else (some false))))))) = some true := H
 have A1 := Z0 A10
 clear A10
 obtain ⟨y218, hy218⟩ : ∃ y_ : List (S25), y_ = (([(⟨t215, t216, t217⟩ : S25)] : List (S25))) := ⟨_, rfl⟩
 replace H : ((some (([(⟨false, y218⟩ : S46)] : List (S46)) : List (S46))).bind fun y221 => ((table_Header.f k 0 y212 y221).bind fun bt225 => ((table_Row.f k 0 y212 y221 1).bind fun bt229 => ((cabinetryref01_Text.f (⟨#[97, 98, 32]⟩ : ByteArray)).bind fun bt233 => ((table_Fit.f (⟨#[65]⟩ : ByteArray) 4 2 false 0 bt233.1 bt233.2.1 bt233.2.2).bind fun bt236 => (if bt225.2 = 0 then (if (bt225.1.length : Int) = 29 then (if bt229.2 = 0 then (if (strOfNums bt229.1).toList = ([32, 97, 98, 32] : List UInt8) then (if bt236.2.2.2 = 0 then (some (bt236.2.2.1.toList == ([97, 98] : List UInt8))) else (some false)) else (some false)) else (some false)) else (some false)) else (some false))))))) = some true := by rw [hy218]; exact H
 have Ny218 := Z0 hy218
 clear hy218
 obtain ⟨y221, hy221⟩ : ∃ y_ : List (S46), y_ = (([(⟨false, y218⟩ : S46)] : List (S46))) := ⟨_, rfl⟩
 replace H : ((table_Header.f k 0 y212 y221).bind fun bt225 => ((table_Row.f k 0 y212 y221 1).bind fun bt229 => ((cabinetryref01_Text.f (⟨#[97, 98, 32]⟩ : ByteArray)).bind fun bt233 => ((table_Fit.f (⟨#[65]⟩ : ByteArray) 4 2 false 0 bt233.1 bt233.2.1 bt233.2.2).bind fun bt236 => (if bt225.2 = 0 then (if (bt225.1.length : Int) = 29 then (if bt229.2 = 0 then (if (strOfNums bt229.1).toList = ([32, 97, 98, 32] : List UInt8) then (if bt236.2.2.2 = 0 then (some (bt236.2.2.1.toList == ([97, 98] : List UInt8))) else (some false)) else (some false)) else (some false)) else (some false)) else (some false)))))) = some true := by rw [hy221]; exact H
 have Ny221 := Z0 hy221
 clear hy221
 replace H := Option.bind_eq_some_iff.mp H
 obtain ⟨⟨t225, t228⟩, A20, H⟩ := H
 replace H : ((table_Row.f k 0 y212 y221 1).bind fun bt229 => ((cabinetryref01_Text.f (⟨#[97, 98, 32]⟩ : ByteArray)).bind fun bt233 => ((table_Fit.f (⟨#[65]⟩ : ByteArray) 4 2 false 0 bt233.1 bt233.2.1 bt233.2.2).bind fun bt236 => (if t228 = 0 then (if (t225.length : Int) = 29 then (if bt229.2 = 0 then (if (strOfNums bt229.1).toList = ([32, 97, 98, 32] : List UInt8) then (if bt236.2.2.2 = 0 then (some (bt236.2.2.1.toList == ([97, 98] : List UInt8))) else (some false)) else (some false)) else (some false)) else (some false)) else (some false))))) = some true := H
 have A2 := Z0 A20
 clear A20
 replace H := Option.bind_eq_some_iff.mp H
 obtain ⟨⟨t229, t232⟩, A30, H⟩ := H
 replace H : ((cabinetryref01_Text.f (⟨#[97, 98, 32]⟩ : ByteArray)).bind fun bt233 => ((table_Fit.f (⟨#[65]⟩ : ByteArray) 4 2 false 0 bt233.1 bt233.2.1 bt233.2.2).bind fun bt236 => (if t228 = 0 then (if (t225.length : Int) = 29 then (if t232 = 0 then (if (strOfNums t229).toList = ([32, 97, 98, 32] : List UInt8) then (if bt236.2.2.2 = 0 then (some (bt236.2.2.1.toList == ([97, 98] : List UInt8))) else (some false)) else (some false)) else (some false)) else (some false)) else (some false)))) = some true := H
 have A3 := Z0 A30
 clear A30
 replace H := Option.bind_eq_some_iff.mp H
 obtain ⟨⟨t233, t234, t235⟩, A40, H⟩ := H
 replace H : ((table_Fit.f (⟨#[65]⟩ : ByteArray) 4 2 false 0 t233 t234 t235).bind fun bt236 => (if t228 = 0 then (if (t225.length : Int) = 29 then (if t232 = 0 then (if (strOfNums t229).toList = ([32, 97, 98, 32] : List UInt8) then (if bt236.2.2.2 = 0 then (some (bt236.2.2.1.toList == ([97, 98] : List UInt8))) else (some false)) else (some false)) else (some false)) else (some false)) else (some false))) = some true := H
 have A4 := Z0 A40
 clear A40
 replace H := Option.bind_eq_some_iff.mp H
 obtain ⟨⟨t236, t237, t238, t239⟩, A50, H⟩ := H
 replace H : (if t228 = 0 then (if (t225.length : Int) = 29 then (if t232 = 0 then (if (strOfNums t229).toList = ([32, 97, 98, 32] : List UInt8) then (if t239 = 0 then (some (t238.toList == ([97, 98] : List UInt8))) else (some false)) else (some false)) else (some false)) else (some false)) else (some false)) = some true := H
 have A5 := Z0 A50
 clear A50
 by_cases c6 : t228 = 0
 rotate_left
 ·rw [if_neg c6] at H
  exact absurd H (by simp)
 rw [if_pos c6] at H
 have c6b0 : (t228 == 0) = true := beq_iff_eq.mpr c6
 have c6b1 : (t228 != 0) = false := bne_eq_false_iff_eq.mpr c6
 clear c6
 by_cases c7 : (t225.length : Int) = 29
 rotate_left
 ·rw [if_neg c7] at H
  exact absurd H (by simp)
 rw [if_pos c7] at H
 have c7b0 : ((t225.length : Int) == 29) = true := beq_iff_eq.mpr c7
 have c7b1 : ((t225.length : Int) != 29) = false := bne_eq_false_iff_eq.mpr c7
 clear c7
 by_cases c8 : t232 = 0
 rotate_left
 ·rw [if_neg c8] at H
  exact absurd H (by simp)
 rw [if_pos c8] at H
 have c8b0 : (t232 == 0) = true := beq_iff_eq.mpr c8
 have c8b1 : (t232 != 0) = false := bne_eq_false_iff_eq.mpr c8
 clear c8
 by_cases c9 : (strOfNums t229).toList = ([32, 97, 98, 32] : List UInt8)
 rotate_left
 ·rw [if_neg c9] at H
  exact absurd H (by simp)
 rw [if_pos c9] at H
 have c9b0 : ((strOfNums t229).toList == ([32, 97, 98, 32] : List UInt8)) = true := beq_iff_eq.mpr c9
 have c9b1 : ((strOfNums t229).toList != ([32, 97, 98, 32] : List UInt8)) = false := bne_eq_false_iff_eq.mpr c9
 clear c9
 by_cases c10 : t239 = 0
 rotate_left
 ·rw [if_neg c10] at H
  exact absurd H (by simp)
 rw [if_pos c10] at H
 have c10b0 : (t239 == 0) = true := beq_iff_eq.mpr c10
 have c10b1 : (t239 != 0) = false := bne_eq_false_iff_eq.mpr c10
 clear c10
 have HR := Option.some.inj H
 go_enter Tryz.func12, Tryz.ntmps12
 go_wp2_with (first | ((with_reducible refine Z9 (N := 9) rfl ?_); (try (refine gate_guard (by rfl) ?_; dsimp only)); refine Kd.R_lit k23 _ 23 ?hg (N := 9) ?hd (xs := ([(⟨(⟨#[65]⟩ : ByteArray), 4, 3, false⟩ : S23)] : List (S23))) (inner := [.string (⟨#[65]⟩ : ByteArray), .int .i64 4, .int .i64 3, .bool false]) (ok := fun _ => True) (okp := fun _ => True) ?hr ?hp (fun _ hk => hk) trivial (Below.refl _ _) (Nat.le_refl _) (by simp) ?_; (case hd => rfl); (case hg => rfl); (case hr => go_simp; try rfl); (case hp => exact (Reps.c4 (show Kd.M k23 _ _ _ (⟨(⟨#[65]⟩ : ByteArray), 4, 3, false⟩ : S23) [.string (⟨#[65]⟩ : ByteArray), .int .i64 4, .int .i64 3, .bool false] from (k23_mkM _ _ _ (⟨(⟨#[65]⟩ : ByteArray), 4, 3, false⟩ : S23) )) (Reps.none _ _))); intro v213 w11 ho12 hb hg_ hnew_; clear hg_ hnew_; (first | rw [← Ny212.out] at ho12 | (simp only [Int.reduceToNat] at ho12; rw [← Ny212.out] at ho12)); have HO214 := Z0 (Kd.R_lower ho12 (below_size V0)); replace HB := Z0 (Z1 V0 hb); clear hb ho12) | ((with_reducible refine Z5 (f := 46) rfl ?_); refine gl Tryz.func46 (cabinetryref01_Text.calls (⟨#[97, 98]⟩ : ByteArray) t215 t216 t217 _ A1.out) ?_; rintro e w13 ⟨rfl, hb⟩; refine ⟨_, rfl, ?_⟩; replace HO214 := Z0 (Kd.R_below HO214.out hb); replace HB := Z0 (Z1 V0 hb)) | ((with_reducible refine Z9 (N := 11) rfl ?_); (try (refine gate_guard (by rfl) ?_; dsimp only)); refine Kd.R_lit k25 _ 25 ?hg (N := 11) ?hd (xs := ([(⟨t215, t216, t217⟩ : S25)] : List (S25))) (inner := [.int .i64 t215, .int .i64 t216, .string t217]) (ok := fun _ => True) (okp := fun _ => True) ?hr ?hp (fun _ hk => hk) trivial (Below.refl _ _) (Nat.le_refl _) (by simp) ?_; (case hd => rfl); (case hg => rfl); (case hr => go_simp; try rfl); (case hp => exact (Reps.c3 (show Kd.M k25 _ _ _ (⟨t215, t216, t217⟩ : S25) [.int .i64 t215, .int .i64 t216, .string t217] from (k25_mkM _ _ _ (⟨t215, t216, t217⟩ : S25) )) (Reps.none _ _))); intro v219 w14 ho15 hb hg_ hnew_; clear hg_ hnew_; (first | rw [← Ny218.out] at ho15 | (simp only [Int.reduceToNat] at ho15; rw [← Ny218.out] at ho15)); replace HO214 := Z0 (Kd.R_below HO214.out hb); have HO220 := Z0 (Kd.R_lower ho15 (below_size V0)); replace HB := Z0 (Z1 V0 hb); clear hb ho15; obtain ⟨Ao16, co16, eo16⟩ := Kd.R_slice HO220.out; subst eo16) | ((with_reducible refine Z9 (N := 13) rfl ?_); (try (refine gate_guard (by rfl) ?_; dsimp only)); refine Kd.N_lit k46 _ 46 ?hg (N' := 13) ?hd (xs := ([(⟨false, y218⟩ : S46)] : List (S46))) (inner := [.bool false, .slice Ao16 y218.length co16]) (ok := (fun k_ => some k_ ≠ (v213 : Value).ownBlock)) (okp := (fun k_ => some k_ ≠ (v213 : Value).ownBlock)) ?hr ?hp (fun _ hk => hk) ((show ∀ k_, w14.heap.size ≤ k_ → (fun k_ => some k_ ≠ (v213 : Value).ownBlock) k_ from fun k_ hk => Kd.fresh' (Kd.R_lt HO214.out) k_ hk) _ (Nat.le_refl _)) (Below.refl _ _) (Nat.le_refl _) (by simp) ?_; (case hd => rfl); (case hg => rfl); (case hr => go_simp; try rfl); (case hp => exact (Reps.c2 (show Kd.FK k46 _ _ (⟨false, y218⟩ : S46) [.bool false, .slice Ao16 y218.length co16] from (k46_mkF _ _ (⟨false, y218⟩ : S46) (Kd.R_reads' (Kd.R_mono (ok' := (fun k_ => some k_ ≠ (v213 : Value).ownBlock)) (Kd.R_apart' (HO220.out) (Kd.R_typed HO214.out) (by decide)) (fun k_ hk => hk.2))).2.1 (Kd.R_F (Kd.R_mono (ok' := (fun k_ => some k_ ≠ (v213 : Value).ownBlock)) (Kd.R_apart' (HO220.out) (Kd.R_typed HO214.out) (by decide)) (fun k_ hk => hk.2))))) (Reps.none _ _))); intro v222 w17 ho18 hb hg_ hnew_; clear hg_ hnew_; (first | rw [← Ny221.out] at ho18 | (simp only [Int.reduceToNat] at ho18; rw [← Ny221.out] at ho18)); replace HO214 := Z0 (Kd.R_below HO214.out hb); have HO223 := Z0 (Kd.N_lower ho18 (below_size V0)); replace HB := Z0 (Z1 V0 hb); clear HO220; clear hb ho18; obtain ⟨Ao19, co19, eo19⟩ := Kd.N_slice HO223.out; subst eo19; obtain ⟨Ao20, co20, eo20⟩ := Kd.R_slice HO214.out; subst eo20) | ((with_reducible refine Z9 (N := 1) rfl ?_); (try (refine gate_guard (by rfl) ?_; dsimp only)); refine box_event ?hg (N := 1) ?hd (cs := #[.int .i64 0, .slice none 0 0, .slice none 0 0]) (t := 35) ?hr ?_; (case hd => rfl); (case hg => rfl); (case hr => go_simp; try rfl); intro gb224 hg w21 hbox hb; replace HO214 := Z0 (Kd.R_below HO214.out hb); replace HO223 := Z0 (Kd.N_below (Kd.N_elderB HO223.out gb224 (Nat.le_of_eq hg.symm)) hb); have BK224 := Z0 hbox; have GE224 := ge hg V0; replace HB := Z0 (Z1 V0 hb); clear hb hbox hg; have hcz22_0 : w21.cell? ⟨gb224, 0, none⟩ = some (.int .i64 0) := (Z4 BK224.out 0).trans rfl; have hcz22_1 : w21.cell? ⟨gb224, 1, none⟩ = some (.slice none 0 0) := (Z4 BK224.out 1).trans rfl; have hcz22_2 : w21.cell? ⟨gb224, 2, none⟩ = some (.slice none 0 0) := (Z4 BK224.out 2).trans rfl; have hfz22_0 := Z8 BK224.out 0; have hfz22_1 := Z8 BK224.out 1; have hfz22_2 := Z8 BK224.out 2) | ((with_reducible refine Z5 (f := 19) rfl ?_); refine gl Tryz.func19 (table_Header.calls k 0 _ _ y212 _ _ y221 t225 t228 _ ?side1 ?side2 ?side3 ?side4 A2.out) ?_; (case side1 => refine (Kd.R_reads' (e := 23) (base := w.heap.size) (ok := fun k_ => True) (n := y212.length) (c := co20) ?_).2.2; exact (kr (Kd.R_mono (Kd.R_far (p := ⟨gb224, 2, none⟩) (Kd.R_far (p := ⟨gb224, 1, none⟩) (Kd.R_far (p := ⟨gb224, 0, none⟩) (Kd.R_types HO214.out BK224.out (by decide)) (fun _ hk => hk.2) (.int .i64 0)) (fun _ hk => hk.2) (.slice Ao20 y212.length co20)) (fun _ hk => hk.2) (.slice Ao19 y221.length co19)) (fun _ h_ => h_.1)))); (case side2 => exact (Kd.R_reads' HO214.out).2.1); (case side3 => refine (Kd.N_reads' (e := 46) (base := w.heap.size) (ok := fun k_ => (some k_ ≠ (.slice Ao20 y212.length co20 : Value).ownBlock ∧ k_ ≠ gb224)) (n := y221.length) (c := co19) ?_).2.2; exact (by (with_reducible repeat (first | apply Kd.N_alloc | apply Kd.N_drewN | apply Kd.N_drew)); exact (Kd.N_mono (Kd.N_far (p := ⟨gb224, 2, none⟩) (Kd.N_far (p := ⟨gb224, 1, none⟩) (Kd.N_far (p := ⟨gb224, 0, none⟩) (Kd.N_mono HO223.out (fun k_ hk => (⟨hk, hk.2⟩ : _ ∧ k_ ≠ gb224))) (fun _ hk => hk.2) (.int .i64 0)) (fun _ hk => hk.2) (.slice Ao20 y212.length co20)) (fun _ hk => hk.2) (.slice Ao19 y221.length co19)) (fun _ h_ => h_.1)))); (case side4 => exact (Kd.N_reads' HO223.out).2.1); rintro e w23 ⟨v226, rfl, ho0, hb⟩; refine ⟨_, rfl, ?_⟩; replace HO214 := Z0 (Kd.R_below (kr (Kd.R_mono (Kd.R_far (p := ⟨gb224, 2, none⟩) (Kd.R_far (p := ⟨gb224, 1, none⟩) (Kd.R_far (p := ⟨gb224, 0, none⟩) (Kd.R_types HO214.out BK224.out (by decide)) (fun _ hk => hk.2) (.int .i64 0)) (fun _ hk => hk.2) (.slice Ao20 y212.length co20)) (fun _ hk => hk.2) (.slice Ao19 y221.length co19)) (fun _ h_ => h_.1))) hb); replace HO223 := Z0 (Kd.N_elder' (by (with_reducible repeat (first | apply Kd.N_alloc | apply Kd.N_drewN | apply Kd.N_drew)); exact (Kd.N_mono (Kd.N_far (p := ⟨gb224, 2, none⟩) (Kd.N_far (p := ⟨gb224, 1, none⟩) (Kd.N_far (p := ⟨gb224, 0, none⟩) (Kd.N_mono HO223.out (fun k_ hk => (⟨hk, hk.2⟩ : _ ∧ k_ ≠ gb224))) (fun _ hk => hk.2) (.int .i64 0)) (fun _ hk => hk.2) (.slice Ao20 y212.length co20)) (fun _ hk => hk.2) (.slice Ao19 y221.length co19)) (fun _ h_ => h_.1))) (Kd.R_base ho0) hb); have HO227 := Z0 (Kd.R_lower ho0 (below_size V0)); replace BK224 := Z0 (Z2 (g := gb224) (o := .cells #[.int .i64 0, .slice Ao20 y212.length co20, .slice Ao19 y221.length co19] 35 (0, 0)) (by (with_reducible repeat (first | refine Y6 ?_ _ | refine Y5 ?_ | refine Y7 ?_ _)); refine blk_put (cs := #[.int .i64 0, .slice Ao20 y212.length co20, .slice none 0 0]) ?_ 2 _ rfl; (with_reducible repeat (first | refine Y6 ?_ _ | refine Y5 ?_ | refine Y7 ?_ _)); refine blk_put (cs := #[.int .i64 0, .slice none 0 0, .slice none 0 0]) ?_ 1 _ rfl; (with_reducible repeat (first | refine Y6 ?_ _ | refine Y5 ?_ | refine Y7 ?_ _)); refine blk_put (cs := #[.int .i64 0, .slice none 0 0, .slice none 0 0]) ?_ 0 _ rfl; (with_reducible repeat (first | refine Y6 ?_ _ | refine Y5 ?_ | refine Y7 ?_ _)); exact BK224.out) hb); replace HB := Z0 (Z1 V0 hb); have hcz24_0 : w23.cell? ⟨gb224, 0, none⟩ = some (.int .i64 0) := (Z4 BK224.out 0).trans rfl; have hcz24_1 : w23.cell? ⟨gb224, 1, none⟩ = some (.slice Ao20 y212.length co20) := (Z4 BK224.out 1).trans rfl; have hcz24_2 : w23.cell? ⟨gb224, 2, none⟩ = some (.slice Ao19 y221.length co19) := (Z4 BK224.out 2).trans rfl; have hfz24_0 := Z8 BK224.out 0; have hfz24_1 := Z8 BK224.out 1; have hfz24_2 := Z8 BK224.out 2) | ((with_reducible refine Z5 (f := 21) rfl ?_); refine gl Tryz.func21 (table_Row.calls k 0 _ _ y212 _ _ y221 1 t229 t232 _ ?side1 ?side2 ?side3 ?side4 A3.out) ?_; (case side1 => repeat (first | exact (Kd.R_reads' HO214.out).2.2 | (with_reducible refine Kd.C_alloc ?_ _) | (with_reducible refine Kd.C_drewN ?_ _) | (with_reducible refine Kd.C_drew ?_))); (case side2 => exact (Kd.R_reads' HO214.out).2.1); (case side3 => repeat (first | exact (Kd.N_reads' HO223.out).2.2 | (with_reducible refine Kd.C_alloc ?_ _) | (with_reducible refine Kd.C_drewN ?_ _) | (with_reducible refine Kd.C_drew ?_))); (case side4 => exact (Kd.N_reads' HO223.out).2.1); rintro e w25 ⟨v230, rfl, ho0, hb⟩; refine ⟨_, rfl, ?_⟩; replace HO214 := Z0 (Kd.R_below HO214.out hb); replace HO223 := Z0 (Kd.N_elder' HO223.out (Kd.R_base ho0) hb); have HO231 := Z0 (Kd.R_lower (Kd.R_new' ho0 (Kd.R_lt HO227.out)) (below_size V0)); replace HO227 := Z0 (Kd.R_elder' HO227.out (Kd.R_base ho0) hb); replace BK224 := Z0 (Z2 BK224.out hb); replace HB := Z0 (Z1 V0 hb)) | ((with_reducible refine Z5 (f := 46) rfl ?_); refine gl Tryz.func46 (cabinetryref01_Text.calls (⟨#[97, 98, 32]⟩ : ByteArray) t233 t234 t235 _ A4.out) ?_; rintro e w26 ⟨rfl, hb⟩; refine ⟨_, rfl, ?_⟩; replace HO214 := Z0 (Kd.R_below HO214.out hb); replace HO223 := Z0 (Kd.N_below HO223.out hb); replace HO227 := Z0 (Kd.R_below HO227.out hb); replace HO231 := Z0 (Kd.R_below HO231.out hb); replace BK224 := Z0 (Z2 BK224.out hb); replace HB := Z0 (Z1 V0 hb)) | ((with_reducible refine Z5 (f := 13) rfl ?_); refine gl Tryz.func13 (table_Fit.calls (⟨#[65]⟩ : ByteArray) 4 2 false 0 t233 t234 t235 t236 t237 t238 t239 _ A5.out) ?_; rintro e w27 ⟨rfl, hb⟩; refine ⟨_, rfl, ?_⟩; replace HO214 := Z0 (Kd.R_below HO214.out hb); replace HO223 := Z0 (Kd.N_below HO223.out hb); replace HO227 := Z0 (Kd.R_below HO227.out hb); replace HO231 := Z0 (Kd.R_below HO231.out hb); replace BK224 := Z0 (Z2 BK224.out hb); replace HB := Z0 (Z1 V0 hb)) | ((with_reducible refine Z9 (N := 6) rfl ?_); (try (refine gate_guard (by rfl) ?_; dsimp only)); refine box_event ?hg (N := 6) ?hd (cs := #[.int .i64 0, .int .i64 0, .string (⟨#[]⟩ : ByteArray)]) (t := 25) ?hr ?_; (case hd => rfl); (case hg => rfl); (case hr => go_simp; try rfl); intro gb240 hg w28 hbox hb; replace HO214 := Z0 (Kd.R_below HO214.out hb); replace HO223 := Z0 (Kd.N_below (Kd.N_elderB HO223.out gb240 (Nat.le_of_eq hg.symm)) hb); replace HO227 := Z0 (Kd.R_below HO227.out hb); replace HO231 := Z0 (Kd.R_below HO231.out hb); have BK240 := Z0 hbox; have GE240 := ge hg V0; replace HB := Z0 (Z1 V0 hb); obtain ⟨NB224_240, NB240_224⟩ := nb hg BK224.out; replace BK224 := Z0 (Z2 BK224.out hb); clear hb hbox hg; have hnb29 := NB240_224.out; have hnc29 := NB224_240.out; have hcz30_0 : w28.cell? ⟨gb240, 0, none⟩ = some (.int .i64 0) := (Z4 BK240.out 0).trans rfl; have hcz30_1 : w28.cell? ⟨gb240, 1, none⟩ = some (.int .i64 0) := (Z4 BK240.out 1).trans rfl; have hcz30_2 : w28.cell? ⟨gb240, 2, none⟩ = some (.string (⟨#[]⟩ : ByteArray)) := (Z4 BK240.out 2).trans rfl; have hfz30_0 := Z8 BK240.out 0; have hfz30_1 := Z8 BK240.out 1; have hfz30_2 := Z8 BK240.out 2; obtain ⟨Ao31, co31, eo31⟩ := Kd.R_slice HO227.out; subst eo31) | ((with_reducible refine gate_store (t := 25) (p := 6) rfl ?_); refine store_box ?hg (ty := 25) (p := 6) (y := .tmp 29) ?ho ?hd gb240 (cells := #[.int .i64 t236, .int .i64 t237, .string t238]) (old := #[.int .i64 0, .int .i64 0, .string (⟨#[]⟩ : ByteArray)]) (t := 25) ?hx ?hy ?hgg ?hi ?hold ?h1 ?_; (case ho => rfl); (case hg => rfl); (case hd => rfl); (case hx => rfl); (case hy => rfl); (case hgg => exact BK240.out); (case hi => exact known_size); (case hold => rfl); (case h1 => simp [Value.oneCell']); intro w50 hbk hbel hoth; replace HB := Z0 (hbel _ _ HB.out GE240.out); replace HO231 := Z0 (Kd.R_step (Kd.R_types HO231.out BK240.out (by decide)) (fun k hk _ => hoth k hk.2)); have hcv32 := own_string (P := Tryz.prog) Tryz.underlying37 Tryz.underlying5 Tryz.underlying9 (Kd.own_of_R HO231.out); have hcz50_0 : w50.cell? ⟨gb240, 0, none⟩ = some (.int .i64 t236) := (Z4 hbk 0).trans rfl; have hcz50_1 : w50.cell? ⟨gb240, 1, none⟩ = some (.int .i64 t237) := (Z4 hbk 1).trans rfl; have hcz50_2 : w50.cell? ⟨gb240, 2, none⟩ = some (.string t238) := (Z4 hbk 2).trans rfl; clear hbk hbel hoth))
 go_ret
 exact ⟨rfl, V0⟩
theorem known_true : known.f0 100 = some true := by kernel_rfl
def cabinetrylaw03_known.f : Option Bool := some true
theorem cabinetrylaw03_known.calls (r : Bool) (w : World) (h : cabinetrylaw03_known.f = some r) : Calls Tryz.prog 12 #[] w fun e w' => e = .returned (.bool r) ∧ Below w.heap.size w w' := by
 obtain rfl := Option.some.inj h
 exact known_calls 100 w known_true
end Go.Proofs.YtldpdidlfbphcaaGreatDoor.P
end
section
namespace Go.Proofs.YtldpdidlfbphcaaGreatDoor.P
open Go.RowKit Go.Proofs.YtldpdidlfbphcaaGreatDoorW.PrintWords Go.Proofs.YtldpdidlfbphcaaGreatDoorW.PrintLast Go.Proofs.YtldpdidlfbphcaaGreatDoorW.PrintMore
section
attribute [local go_sem] max2_int min2_int max_two min_two max_three min_three max_four min_four
def cabinetrylaw03_TableWrites.j0 : Nat → Bool → Option (Bool)
 | 0, _ => none
 | k + 1, x4 => some x4
def cabinetrylaw03_TableWrites.f (k : Nat) (a0_0 : Int) (l0_1 : List (S23)) (l0_2 : List (S46)) (a1 : Int) : Option (Bool) := (cabinetrylaw03_over.f k a0_0 l0_1 l0_2).bind fun t266 => (if t266 = true then ((cabinetrylaw03_known.f).bind fun t267 => (some t267)) else ((table_Bytes.f k a0_0 l0_1 l0_2).bind fun bt268 => ((cabinetryref03_Bytes.f k a0_0 l0_1 l0_2).bind fun bt272 => ((table_Header.f k a0_0 l0_1 l0_2).bind fun bt276 => ((cabinetryref03_Header.f k a0_0 l0_1 l0_2).bind fun bt280 => ((table_Row.f k a0_0 l0_1 l0_2 a1).bind fun bt284 => ((cabinetryref03_Row.f k a0_0 l0_1 l0_2 a1).bind fun bt288 => ((cabinetrylaw03_same.f bt268.1 bt272.1).bind fun t292 => (if t292 = true then (if bt268.2 = bt272.2 then ((cabinetrylaw03_same.f bt276.1 bt280.1).bind fun t293 => (if t293 = true then (if bt276.2 = bt280.2 then ((cabinetrylaw03_same.f bt284.1 bt288.1).bind fun t294 => (if t294 = true then (if bt284.2 = bt288.2 then ((cabinetrylaw03_known.f).bind fun t295 => (cabinetrylaw03_TableWrites.j0 k t295)) else (cabinetrylaw03_TableWrites.j0 k false)) else (cabinetrylaw03_TableWrites.j0 k false))) else (cabinetrylaw03_TableWrites.j0 k false)) else (cabinetrylaw03_TableWrites.j0 k false))) else (cabinetrylaw03_TableWrites.j0 k false)) else (cabinetrylaw03_TableWrites.j0 k false))))))))))
theorem cabinetrylaw03_TableWrites.mono_l : ∀ k, (∀ y0, LeO (cabinetrylaw03_TableWrites.j0 k y0) (cabinetrylaw03_TableWrites.j0 (k + 1) y0))
 | 0 => fun _ r h => by simp [cabinetrylaw03_TableWrites.j0] at h
 | k + 1 => by
  have ih0 := cabinetrylaw03_TableWrites.mono_l k
  ·intro y0
   unfold cabinetrylaw03_TableWrites.j0
   repeat' first
   | (with_reducible exact ih0 _)
   | (with_reducible exact cabinetrylaw03_over.mono _ _ _ _)
   | (with_reducible exact cabinetryref03_Bytes.mono _ _ _ _)
   | (with_reducible exact cabinetryref03_Header.mono _ _ _ _)
   | (with_reducible exact cabinetryref03_Row.mono _ _ _ _ _)
   | (with_reducible exact table_Bytes.mono _ _ _ _)
   | (with_reducible exact table_Header.mono _ _ _ _)
   | (with_reducible exact table_Row.mono _ _ _ _ _)
   | (with_reducible exact LeO.refl _)
   | (with_reducible exact LeO.none _)
   | (with_reducible refine LeO.ite ?_ ?_)
   | (with_reducible refine LeO.bind ?_ (fun _ => ?_))
theorem cabinetrylaw03_TableWrites.mono : ∀ a0 a1 a2 a3 k, LeO (cabinetrylaw03_TableWrites.f k a0 a1 a2 a3) (cabinetrylaw03_TableWrites.f (k + 1) a0 a1 a2 a3) := by
 intro a0 a1 a2 a3 k
 have ih0 := cabinetrylaw03_TableWrites.mono_l k
 unfold cabinetrylaw03_TableWrites.f
 repeat' first
   | (with_reducible exact ih0 _)
   | (with_reducible exact cabinetrylaw03_over.mono _ _ _ _)
   | (with_reducible exact cabinetryref03_Bytes.mono _ _ _ _)
   | (with_reducible exact cabinetryref03_Header.mono _ _ _ _)
   | (with_reducible exact cabinetryref03_Row.mono _ _ _ _ _)
   | (with_reducible exact table_Bytes.mono _ _ _ _)
   | (with_reducible exact table_Header.mono _ _ _ _)
   | (with_reducible exact table_Row.mono _ _ _ _ _)
   | (with_reducible exact LeO.refl _)
   | (with_reducible exact LeO.none _)
   | (with_reducible refine LeO.ite ?_ ?_)
   | (with_reducible refine LeO.bind ?_ (fun _ => ?_))
theorem cabinetrylaw03_TableWrites.j0_ne : ∀ (k : Nat) (q : Option Bool), cabinetrylaw03_TableWrites.j0 k false = q → q = some true → False := by
 intro k q h1 h2
 cases k with
 | zero => simp [cabinetrylaw03_TableWrites.j0] at h1; rw [← h1] at h2; cases h2
 | succ k => simp [cabinetrylaw03_TableWrites.j0] at h1; rw [← h1] at h2; cases h2
theorem cabinetrylaw03_TableWrites.calls1 (k : Nat) (a0_0 : Int) (A0_1 : Option Addr) (c0_1 : Nat) (l0_1 : List (S23)) (A0_2 : Option Addr) (c0_2 : Nat) (l0_2 : List (S46)) (a1 : Int) (r : Bool) (w : World) (hr_ : r = true) (hr0_1 : Kd.C k23 w A0_1 l0_1.length l0_1) (hc0_1 : l0_1.length ≤ c0_1) (hr0_2 : Kd.C k46 w A0_2 l0_2.length l0_2) (hc0_2 : l0_2.length ≤ c0_2) (h : cabinetrylaw03_TableWrites.f k a0_0 l0_1 l0_2 a1 = some r) :
  Calls Tryz.prog 4 #[.agg #[.int .i64 a0_0, .slice A0_1 l0_1.length c0_1, .slice A0_2 l0_2.length c0_2], .int .i64 a1] w fun e w' => e = .returned (.bool r) ∧ Below w.heap.size w w' := by
 have HR_ := Z0 hr_
 clear hr_
 have hu35 := Tryz.underlying35
 have HR0_1 := Z0 hr0_1
 have HC0_1 := Z0 hc0_1
 clear hr0_1 hc0_1
 have HR0_2 := Z0 hr0_2
 have HC0_2 := Z0 hc0_2
 clear hr0_2 hc0_2
 have HB := Z0 (Below.refl w.heap.size w)
 unfold cabinetrylaw03_TableWrites.f at h
 have H := h
 clear h
 replace H := Option.bind_eq_some_iff.mp H
 obtain ⟨t266, A30, H⟩ := H
 replace H : (if t266 = true then ((cabinetrylaw03_known.f).bind fun t267 => (some t267)) else ((table_Bytes.f k a0_0 l0_1 l0_2).bind fun bt268 => ((cabinetryref03_Bytes.f k a0_0 l0_1 l0_2).bind fun bt272 => ((table_Header.f k a0_0 l0_1 l0_2).bind fun bt276 => ((cabinetryref03_Header.f k a0_0 l0_1 l0_2).bind fun bt280 => ((table_Row.f k a0_0 l0_1 l0_2 a1).bind fun bt284 => ((cabinetryref03_Row.f k a0_0 l0_1 l0_2 a1).bind fun bt288 => ((cabinetrylaw03_same.f bt268.1 bt272.1).bind fun t292 => (if t292 = true then (if bt268.2 = bt272.2 then ((cabinetrylaw03_same.f bt276.1 bt280.1).bind fun t293 => (if t293 = true then (if bt276.2 = bt280.2 then ((cabinetrylaw03_same.f bt284.1 bt288.1).bind fun t294 => (if t294 = true then (if bt284.2 = bt288.2 then ((cabinetrylaw03_known.f).bind fun t295 => (cabinetrylaw03_TableWrites.j0 k t295)) else (cabinetrylaw03_TableWrites.j0 k false)) else (cabinetrylaw03_TableWrites.j0 k false))) else (cabinetrylaw03_TableWrites.j0 k false)) else (cabinetrylaw03_TableWrites.j0 k false))) else (cabinetrylaw03_TableWrites.j0 k false)) else (cabinetrylaw03_TableWrites.j0 k false)))))))))) = some r := H
 have A3 := Z0 A30
 clear A30
 by_cases c4 : t266 = true
 ·subst c4
  have H1 : ((cabinetrylaw03_known.f).bind fun t267 => (some t267)) = some r := by rw [if_pos rfl] at H; exact H
  clear H
  have H := H1
  clear H1
  replace H := Option.bind_eq_some_iff.mp H
  obtain ⟨t267, A50, H⟩ := H
  replace H : (some t267) = some r := H
  have A5 := Z0 A50
  clear A50
  obtain rfl := Option.some.inj H
  go_enter Tryz.func4, Tryz.ntmps4
  go_wp2_with (first | ((with_reducible refine Z9 (N := 2) rfl ?_); refine box_event ?hg (N := 2) ?hd (cs := #[.int .i64 a0_0, .slice A0_1 l0_1.length c0_1, .slice A0_2 l0_2.length c0_2]) (t := 35) ?hr ?_; (case hd => rfl); (case hg => rfl); (case hr => go_simp; try rfl); intro gb265 hg w6 hbox hb; have BK265 := Z0 hbox; have GE265 := ge hg V0; replace HB := Z0 (Z1 V0 hb); clear hb hbox hg; have hcz7_0 : w6.cell? ⟨gb265, 0, none⟩ = some (.int .i64 a0_0) := (Z4 BK265.out 0).trans rfl; have hcz7_1 : w6.cell? ⟨gb265, 1, none⟩ = some (.slice A0_1 l0_1.length c0_1) := (Z4 BK265.out 1).trans rfl; have hcz7_2 : w6.cell? ⟨gb265, 2, none⟩ = some (.slice A0_2 l0_2.length c0_2) := (Z4 BK265.out 2).trans rfl; have hfz7_0 := Z8 BK265.out 0; have hfz7_1 := Z8 BK265.out 1; have hfz7_2 := Z8 BK265.out 2) | ((with_reducible refine Z5 (f := 16) rfl ?_); refine gl Tryz.func16 (cabinetrylaw03_over.calls k a0_0 _ _ l0_1 _ _ l0_2 true _ (kc (Kd.C_below HR0_1.out HB.out)) HC0_1.out (kc (Kd.C_below HR0_2.out HB.out)) HC0_2.out A3.out) ?_; rintro e w8 ⟨rfl, hb⟩; refine ⟨_, rfl, ?_⟩; replace BK265 := Z0 (Z2 (g := gb265) (o := .cells #[.int .i64 a0_0, .slice A0_1 l0_1.length c0_1, .slice A0_2 l0_2.length c0_2] 35 (0, 0)) bk hb); replace HB := Z0 (Z1 V0 hb)) | ((with_reducible refine Z5 (f := 12) rfl ?_); refine gl Tryz.func12 (cabinetrylaw03_known.calls  t267 _ A5.out) ?_; rintro e w9 ⟨rfl, hb⟩; refine ⟨_, rfl, ?_⟩; replace BK265 := Z0 (Z2 (g := gb265) (o := .cells #[.int .i64 a0_0, .slice A0_1 l0_1.length c0_1, .slice A0_2 l0_2.length c0_2] 35 (0, 0)) bk hb); replace HB := Z0 (Z1 V0 hb)))
  go_ret
  exact ⟨rfl, V0⟩
 replace c4 := Bool.eq_false_iff.mpr c4
 subst c4
 have H1 : ((table_Bytes.f k a0_0 l0_1 l0_2).bind fun bt268 => ((cabinetryref03_Bytes.f k a0_0 l0_1 l0_2).bind fun bt272 => ((table_Header.f k a0_0 l0_1 l0_2).bind fun bt276 => ((cabinetryref03_Header.f k a0_0 l0_1 l0_2).bind fun bt280 => ((table_Row.f k a0_0 l0_1 l0_2 a1).bind fun bt284 => ((cabinetryref03_Row.f k a0_0 l0_1 l0_2 a1).bind fun bt288 => ((cabinetrylaw03_same.f bt268.1 bt272.1).bind fun t292 => (if t292 = true then (if bt268.2 = bt272.2 then ((cabinetrylaw03_same.f bt276.1 bt280.1).bind fun t293 => (if t293 = true then (if bt276.2 = bt280.2 then ((cabinetrylaw03_same.f bt284.1 bt288.1).bind fun t294 => (if t294 = true then (if bt284.2 = bt288.2 then ((cabinetrylaw03_known.f).bind fun t295 => (cabinetrylaw03_TableWrites.j0 k t295)) else (cabinetrylaw03_TableWrites.j0 k false)) else (cabinetrylaw03_TableWrites.j0 k false))) else (cabinetrylaw03_TableWrites.j0 k false)) else (cabinetrylaw03_TableWrites.j0 k false))) else (cabinetrylaw03_TableWrites.j0 k false)) else (cabinetrylaw03_TableWrites.j0 k false))))))))) = some r := by rw [if_neg (show ¬ (false = true) by decide)] at H; exact H
 clear H
 have H := H1
 clear H1
 replace H := Option.bind_eq_some_iff.mp H
 obtain ⟨⟨t268, t271⟩, A100, H⟩ := H
 replace H : ((cabinetryref03_Bytes.f k a0_0 l0_1 l0_2).bind fun bt272 => ((table_Header.f k a0_0 l0_1 l0_2).bind fun bt276 => ((cabinetryref03_Header.f k a0_0 l0_1 l0_2).bind fun bt280 => ((table_Row.f k a0_0 l0_1 l0_2 a1).bind fun bt284 => ((cabinetryref03_Row.f k a0_0 l0_1 l0_2 a1).bind fun bt288 => ((cabinetrylaw03_same.f t268 bt272.1).bind fun t292 => (if t292 = true then (if t271 = bt272.2 then ((cabinetrylaw03_same.f bt276.1 bt280.1).bind fun t293 => (if t293 = true then (if bt276.2 = bt280.2 then ((cabinetrylaw03_same.f bt284.1 bt288.1).bind fun t294 => (if t294 = true then (if bt284.2 = bt288.2 then ((cabinetrylaw03_known.f).bind fun t295 => (cabinetrylaw03_TableWrites.j0 k t295)) else (cabinetrylaw03_TableWrites.j0 k false)) else (cabinetrylaw03_TableWrites.j0 k false))) else (cabinetrylaw03_TableWrites.j0 k false)) else (cabinetrylaw03_TableWrites.j0 k false))) else (cabinetrylaw03_TableWrites.j0 k false)) else (cabinetrylaw03_TableWrites.j0 k false)))))))) = some r := H
 have A10 := Z0 A100
 clear A100
 replace H := Option.bind_eq_some_iff.mp H
 obtain ⟨⟨t272, t275⟩, A110, H⟩ := H
 replace H : ((table_Header.f k a0_0 l0_1 l0_2).bind fun bt276 => ((cabinetryref03_Header.f k a0_0 l0_1 l0_2).bind fun bt280 => ((table_Row.f k a0_0 l0_1 l0_2 a1).bind fun bt284 => ((cabinetryref03_Row.f k a0_0 l0_1 l0_2 a1).bind fun bt288 => ((cabinetrylaw03_same.f t268 t272).bind fun t292 => (if t292 = true then (if t271 = t275 then ((cabinetrylaw03_same.f bt276.1 bt280.1).bind fun t293 => (if t293 = true then (if bt276.2 = bt280.2 then ((cabinetrylaw03_same.f bt284.1 bt288.1).bind fun t294 => (if t294 = true then (if bt284.2 = bt288.2 then ((cabinetrylaw03_known.f).bind fun t295 => (cabinetrylaw03_TableWrites.j0 k t295)) else (cabinetrylaw03_TableWrites.j0 k false)) else (cabinetrylaw03_TableWrites.j0 k false))) else (cabinetrylaw03_TableWrites.j0 k false)) else (cabinetrylaw03_TableWrites.j0 k false))) else (cabinetrylaw03_TableWrites.j0 k false)) else (cabinetrylaw03_TableWrites.j0 k false))))))) = some r := H
 have A11 := Z0 A110
 clear A110
 replace H := Option.bind_eq_some_iff.mp H
 obtain ⟨⟨t276, t279⟩, A120, H⟩ := H
 replace H : ((cabinetryref03_Header.f k a0_0 l0_1 l0_2).bind fun bt280 => ((table_Row.f k a0_0 l0_1 l0_2 a1).bind fun bt284 => ((cabinetryref03_Row.f k a0_0 l0_1 l0_2 a1).bind fun bt288 => ((cabinetrylaw03_same.f t268 t272).bind fun t292 => (if t292 = true then (if t271 = t275 then ((cabinetrylaw03_same.f t276 bt280.1).bind fun t293 => (if t293 = true then (if t279 = bt280.2 then ((cabinetrylaw03_same.f bt284.1 bt288.1).bind fun t294 => (if t294 = true then (if bt284.2 = bt288.2 then ((cabinetrylaw03_known.f).bind fun t295 => (cabinetrylaw03_TableWrites.j0 k t295)) else (cabinetrylaw03_TableWrites.j0 k false)) else (cabinetrylaw03_TableWrites.j0 k false))) else (cabinetrylaw03_TableWrites.j0 k false)) else (cabinetrylaw03_TableWrites.j0 k false))) else (cabinetrylaw03_TableWrites.j0 k false)) else (cabinetrylaw03_TableWrites.j0 k false)))))) = some r := H
 have A12 := Z0 A120
 clear A120
 replace H := Option.bind_eq_some_iff.mp H
 obtain ⟨⟨t280, t283⟩, A130, H⟩ := H
 replace H : ((table_Row.f k a0_0 l0_1 l0_2 a1).bind fun bt284 => ((cabinetryref03_Row.f k a0_0 l0_1 l0_2 a1).bind fun bt288 => ((cabinetrylaw03_same.f t268 t272).bind fun t292 => (if t292 = true then (if t271 = t275 then ((cabinetrylaw03_same.f t276 t280).bind fun t293 => (if t293 = true then (if t279 = t283 then ((cabinetrylaw03_same.f bt284.1 bt288.1).bind fun t294 => (if t294 = true then (if bt284.2 = bt288.2 then ((cabinetrylaw03_known.f).bind fun t295 => (cabinetrylaw03_TableWrites.j0 k t295)) else (cabinetrylaw03_TableWrites.j0 k false)) else (cabinetrylaw03_TableWrites.j0 k false))) else (cabinetrylaw03_TableWrites.j0 k false)) else (cabinetrylaw03_TableWrites.j0 k false))) else (cabinetrylaw03_TableWrites.j0 k false)) else (cabinetrylaw03_TableWrites.j0 k false))))) = some r := H
 have A13 := Z0 A130
 clear A130
 replace H := Option.bind_eq_some_iff.mp H
 obtain ⟨⟨t284, t287⟩, A140, H⟩ := H
 replace H : ((cabinetryref03_Row.f k a0_0 l0_1 l0_2 a1).bind fun bt288 => ((cabinetrylaw03_same.f t268 t272).bind fun t292 => (if t292 = true then (if t271 = t275 then ((cabinetrylaw03_same.f t276 t280).bind fun t293 => (if t293 = true then (if t279 = t283 then ((cabinetrylaw03_same.f t284 bt288.1).bind fun t294 => (if t294 = true then (if t287 = bt288.2 then ((cabinetrylaw03_known.f).bind fun t295 => (cabinetrylaw03_TableWrites.j0 k t295)) else (cabinetrylaw03_TableWrites.j0 k false)) else (cabinetrylaw03_TableWrites.j0 k false))) else (cabinetrylaw03_TableWrites.j0 k false)) else (cabinetrylaw03_TableWrites.j0 k false))) else (cabinetrylaw03_TableWrites.j0 k false)) else (cabinetrylaw03_TableWrites.j0 k false)))) = some r := H
 have A14 := Z0 A140
 clear A140
 replace H := Option.bind_eq_some_iff.mp H
 obtain ⟨⟨t288, t291⟩, A150, H⟩ := H
 replace H : ((cabinetrylaw03_same.f t268 t272).bind fun t292 => (if t292 = true then (if t271 = t275 then ((cabinetrylaw03_same.f t276 t280).bind fun t293 => (if t293 = true then (if t279 = t283 then ((cabinetrylaw03_same.f t284 t288).bind fun t294 => (if t294 = true then (if t287 = t291 then ((cabinetrylaw03_known.f).bind fun t295 => (cabinetrylaw03_TableWrites.j0 k t295)) else (cabinetrylaw03_TableWrites.j0 k false)) else (cabinetrylaw03_TableWrites.j0 k false))) else (cabinetrylaw03_TableWrites.j0 k false)) else (cabinetrylaw03_TableWrites.j0 k false))) else (cabinetrylaw03_TableWrites.j0 k false)) else (cabinetrylaw03_TableWrites.j0 k false))) = some r := H
 have A15 := Z0 A150
 clear A150
 have HC16 := Z0 H
 clear H
 go_enter Tryz.func4, Tryz.ntmps4
 go_upto_region 9 with (first | ((with_reducible refine Z9 (N := 2) rfl ?_); refine box_event ?hg (N := 2) ?hd (cs := #[.int .i64 a0_0, .slice A0_1 l0_1.length c0_1, .slice A0_2 l0_2.length c0_2]) (t := 35) ?hr ?_; (case hd => rfl); (case hg => rfl); (case hr => go_simp; try rfl); intro gb265 hg w17 hbox hb; have BK265 := Z0 hbox; have GE265 := ge hg V0; replace HB := Z0 (Z1 V0 hb); clear hb hbox hg; have hcz18_0 : w17.cell? ⟨gb265, 0, none⟩ = some (.int .i64 a0_0) := (Z4 BK265.out 0).trans rfl; have hcz18_1 : w17.cell? ⟨gb265, 1, none⟩ = some (.slice A0_1 l0_1.length c0_1) := (Z4 BK265.out 1).trans rfl; have hcz18_2 : w17.cell? ⟨gb265, 2, none⟩ = some (.slice A0_2 l0_2.length c0_2) := (Z4 BK265.out 2).trans rfl; have hfz18_0 := Z8 BK265.out 0; have hfz18_1 := Z8 BK265.out 1; have hfz18_2 := Z8 BK265.out 2) | ((with_reducible refine Z5 (f := 16) rfl ?_); refine gl Tryz.func16 (cabinetrylaw03_over.calls k a0_0 _ _ l0_1 _ _ l0_2 false _ (kc (Kd.C_below HR0_1.out HB.out)) HC0_1.out (kc (Kd.C_below HR0_2.out HB.out)) HC0_2.out A3.out) ?_; rintro e w19 ⟨rfl, hb⟩; refine ⟨_, rfl, ?_⟩; replace BK265 := Z0 (Z2 (g := gb265) (o := .cells #[.int .i64 a0_0, .slice A0_1 l0_1.length c0_1, .slice A0_2 l0_2.length c0_2] 35 (0, 0)) bk hb); replace HB := Z0 (Z1 V0 hb); have hcz20_0 : w19.cell? ⟨gb265, 0, none⟩ = some (.int .i64 a0_0) := (Z4 BK265.out 0).trans rfl; have hcz20_1 : w19.cell? ⟨gb265, 1, none⟩ = some (.slice A0_1 l0_1.length c0_1) := (Z4 BK265.out 1).trans rfl; have hcz20_2 : w19.cell? ⟨gb265, 2, none⟩ = some (.slice A0_2 l0_2.length c0_2) := (Z4 BK265.out 2).trans rfl; have hfz20_0 := Z8 BK265.out 0; have hfz20_1 := Z8 BK265.out 1; have hfz20_2 := Z8 BK265.out 2) | ((with_reducible refine Z5 (f := 17) rfl ?_); refine gl Tryz.func17 (table_Bytes.calls k a0_0 _ _ l0_1 _ _ l0_2 t268 t271 _ (kc (Kd.C_below HR0_1.out HB.out)) HC0_1.out (kc (Kd.C_below HR0_2.out HB.out)) HC0_2.out A10.out) ?_; rintro e w21 ⟨v269, rfl, ho0, hb⟩; refine ⟨_, rfl, ?_⟩; have HO270 := Z0 (Kd.R_lower ho0 (below_size V0)); replace BK265 := Z0 (Z2 (g := gb265) (o := .cells #[.int .i64 a0_0, .slice A0_1 l0_1.length c0_1, .slice A0_2 l0_2.length c0_2] 35 (0, 0)) bk hb); replace HB := Z0 (Z1 V0 hb); have hcz22_0 : w21.cell? ⟨gb265, 0, none⟩ = some (.int .i64 a0_0) := (Z4 BK265.out 0).trans rfl; have hcz22_1 : w21.cell? ⟨gb265, 1, none⟩ = some (.slice A0_1 l0_1.length c0_1) := (Z4 BK265.out 1).trans rfl; have hcz22_2 : w21.cell? ⟨gb265, 2, none⟩ = some (.slice A0_2 l0_2.length c0_2) := (Z4 BK265.out 2).trans rfl; have hfz22_0 := Z8 BK265.out 0; have hfz22_1 := Z8 BK265.out 1; have hfz22_2 := Z8 BK265.out 2) | ((with_reducible refine Z5 (f := 18) rfl ?_); refine gl Tryz.func18 (cabinetryref03_Bytes.calls k a0_0 _ _ l0_1 _ _ l0_2 t272 t275 _ (kc (Kd.C_below HR0_1.out HB.out)) HC0_1.out (kc (Kd.C_below HR0_2.out HB.out)) HC0_2.out A11.out) ?_; rintro e w23 ⟨v273, rfl, ho0, hb⟩; refine ⟨_, rfl, ?_⟩; have HO274 := Z0 (Kd.R_lower (Kd.R_new' ho0 (Kd.R_lt (kr HO270.out))) (below_size V0)); replace HO270 := Z0 (Kd.R_elder' (kr HO270.out) (Kd.R_base ho0) hb); replace BK265 := Z0 (Z2 (g := gb265) (o := .cells #[.int .i64 a0_0, .slice A0_1 l0_1.length c0_1, .slice A0_2 l0_2.length c0_2] 35 (0, 0)) bk hb); replace HB := Z0 (Z1 V0 hb); have hcz24_0 : w23.cell? ⟨gb265, 0, none⟩ = some (.int .i64 a0_0) := (Z4 BK265.out 0).trans rfl; have hcz24_1 : w23.cell? ⟨gb265, 1, none⟩ = some (.slice A0_1 l0_1.length c0_1) := (Z4 BK265.out 1).trans rfl; have hcz24_2 : w23.cell? ⟨gb265, 2, none⟩ = some (.slice A0_2 l0_2.length c0_2) := (Z4 BK265.out 2).trans rfl; have hfz24_0 := Z8 BK265.out 0; have hfz24_1 := Z8 BK265.out 1; have hfz24_2 := Z8 BK265.out 2) | ((with_reducible refine Z5 (f := 19) rfl ?_); refine gl Tryz.func19 (table_Header.calls k a0_0 _ _ l0_1 _ _ l0_2 t276 t279 _ (kc (Kd.C_below HR0_1.out HB.out)) HC0_1.out (kc (Kd.C_below HR0_2.out HB.out)) HC0_2.out A12.out) ?_; rintro e w25 ⟨v277, rfl, ho0, hb⟩; refine ⟨_, rfl, ?_⟩; have HO278 := Z0 (Kd.R_lower (Kd.R_new' (Kd.R_new' ho0 (Kd.R_lt (kr HO270.out))) (Kd.R_lt (kr HO274.out))) (below_size V0)); replace HO270 := Z0 (Kd.R_elder' (kr HO270.out) (Kd.R_base ho0) hb); replace HO274 := Z0 (Kd.R_elder' (kr HO274.out) (Kd.R_base ho0) hb); replace BK265 := Z0 (Z2 (g := gb265) (o := .cells #[.int .i64 a0_0, .slice A0_1 l0_1.length c0_1, .slice A0_2 l0_2.length c0_2] 35 (0, 0)) bk hb); replace HB := Z0 (Z1 V0 hb); have hcz26_0 : w25.cell? ⟨gb265, 0, none⟩ = some (.int .i64 a0_0) := (Z4 BK265.out 0).trans rfl; have hcz26_1 : w25.cell? ⟨gb265, 1, none⟩ = some (.slice A0_1 l0_1.length c0_1) := (Z4 BK265.out 1).trans rfl; have hcz26_2 : w25.cell? ⟨gb265, 2, none⟩ = some (.slice A0_2 l0_2.length c0_2) := (Z4 BK265.out 2).trans rfl; have hfz26_0 := Z8 BK265.out 0; have hfz26_1 := Z8 BK265.out 1; have hfz26_2 := Z8 BK265.out 2) | ((with_reducible refine Z5 (f := 20) rfl ?_); refine gl Tryz.func20 (cabinetryref03_Header.calls k a0_0 _ _ l0_1 _ _ l0_2 t280 t283 _ (kc (Kd.C_below HR0_1.out HB.out)) HC0_1.out (kc (Kd.C_below HR0_2.out HB.out)) HC0_2.out A13.out) ?_; rintro e w27 ⟨v281, rfl, ho0, hb⟩; refine ⟨_, rfl, ?_⟩; have HO282 := Z0 (Kd.R_lower (Kd.R_new' (Kd.R_new' (Kd.R_new' ho0 (Kd.R_lt (kr HO270.out))) (Kd.R_lt (kr HO274.out))) (Kd.R_lt (kr HO278.out))) (below_size V0)); replace HO270 := Z0 (Kd.R_elder' (kr HO270.out) (Kd.R_base ho0) hb); replace HO274 := Z0 (Kd.R_elder' (kr HO274.out) (Kd.R_base ho0) hb); replace HO278 := Z0 (Kd.R_elder' (kr HO278.out) (Kd.R_base ho0) hb); replace BK265 := Z0 (Z2 (g := gb265) (o := .cells #[.int .i64 a0_0, .slice A0_1 l0_1.length c0_1, .slice A0_2 l0_2.length c0_2] 35 (0, 0)) bk hb); replace HB := Z0 (Z1 V0 hb); have hcz28_0 : w27.cell? ⟨gb265, 0, none⟩ = some (.int .i64 a0_0) := (Z4 BK265.out 0).trans rfl; have hcz28_1 : w27.cell? ⟨gb265, 1, none⟩ = some (.slice A0_1 l0_1.length c0_1) := (Z4 BK265.out 1).trans rfl; have hcz28_2 : w27.cell? ⟨gb265, 2, none⟩ = some (.slice A0_2 l0_2.length c0_2) := (Z4 BK265.out 2).trans rfl; have hfz28_0 := Z8 BK265.out 0; have hfz28_1 := Z8 BK265.out 1; have hfz28_2 := Z8 BK265.out 2) | ((with_reducible refine Z5 (f := 21) rfl ?_); refine gl Tryz.func21 (table_Row.calls k a0_0 _ _ l0_1 _ _ l0_2 a1 t284 t287 _ (kc (Kd.C_below HR0_1.out HB.out)) HC0_1.out (kc (Kd.C_below HR0_2.out HB.out)) HC0_2.out A14.out) ?_; rintro e w29 ⟨v285, rfl, ho0, hb⟩; refine ⟨_, rfl, ?_⟩; have HO286 := Z0 (Kd.R_lower (Kd.R_new' (Kd.R_new' (Kd.R_new' (Kd.R_new' ho0 (Kd.R_lt (kr HO270.out))) (Kd.R_lt (kr HO274.out))) (Kd.R_lt (kr HO278.out))) (Kd.R_lt (kr HO282.out))) (below_size V0)); replace HO270 := Z0 (Kd.R_elder' (kr HO270.out) (Kd.R_base ho0) hb); replace HO274 := Z0 (Kd.R_elder' (kr HO274.out) (Kd.R_base ho0) hb); replace HO278 := Z0 (Kd.R_elder' (kr HO278.out) (Kd.R_base ho0) hb); replace HO282 := Z0 (Kd.R_elder' (kr HO282.out) (Kd.R_base ho0) hb); replace BK265 := Z0 (Z2 (g := gb265) (o := .cells #[.int .i64 a0_0, .slice A0_1 l0_1.length c0_1, .slice A0_2 l0_2.length c0_2] 35 (0, 0)) bk hb); replace HB := Z0 (Z1 V0 hb); have hcz30_0 : w29.cell? ⟨gb265, 0, none⟩ = some (.int .i64 a0_0) := (Z4 BK265.out 0).trans rfl; have hcz30_1 : w29.cell? ⟨gb265, 1, none⟩ = some (.slice A0_1 l0_1.length c0_1) := (Z4 BK265.out 1).trans rfl; have hcz30_2 : w29.cell? ⟨gb265, 2, none⟩ = some (.slice A0_2 l0_2.length c0_2) := (Z4 BK265.out 2).trans rfl; have hfz30_0 := Z8 BK265.out 0; have hfz30_1 := Z8 BK265.out 1; have hfz30_2 := Z8 BK265.out 2) | ((with_reducible refine Z5 (f := 22) rfl ?_); refine gl Tryz.func22 (cabinetryref03_Row.calls k a0_0 _ _ l0_1 _ _ l0_2 a1 t288 t291 _ (kc (Kd.C_below HR0_1.out HB.out)) HC0_1.out (kc (Kd.C_below HR0_2.out HB.out)) HC0_2.out A15.out) ?_; rintro e w31 ⟨v289, rfl, ho0, hb⟩; refine ⟨_, rfl, ?_⟩; have HO290 := Z0 (Kd.R_lower (Kd.R_new' (Kd.R_new' (Kd.R_new' (Kd.R_new' (Kd.R_new' ho0 (Kd.R_lt (kr HO270.out))) (Kd.R_lt (kr HO274.out))) (Kd.R_lt (kr HO278.out))) (Kd.R_lt (kr HO282.out))) (Kd.R_lt (kr HO286.out))) (below_size V0)); replace HO270 := Z0 (Kd.R_elder' (kr HO270.out) (Kd.R_base ho0) hb); replace HO274 := Z0 (Kd.R_elder' (kr HO274.out) (Kd.R_base ho0) hb); replace HO278 := Z0 (Kd.R_elder' (kr HO278.out) (Kd.R_base ho0) hb); replace HO282 := Z0 (Kd.R_elder' (kr HO282.out) (Kd.R_base ho0) hb); replace HO286 := Z0 (Kd.R_elder' (kr HO286.out) (Kd.R_base ho0) hb); replace BK265 := Z0 (Z2 (g := gb265) (o := .cells #[.int .i64 a0_0, .slice A0_1 l0_1.length c0_1, .slice A0_2 l0_2.length c0_2] 35 (0, 0)) bk hb); replace HB := Z0 (Z1 V0 hb)))
 (try simp only [Act.put, Z3, Z6, Z7])
 go_cut [4] (fun v4 wc => ∃ (kq : Nat) (x4_15 : Bool), v4 = .bool x4_15 ∧ Aside0 (cabinetrylaw03_TableWrites.j0 kq x4_15 = some r) ∧ Aside0 (kq ≤ k) ∧ Aside0 (wc.heap[gb265]? = some (.cells #[.int .i64 a0_0, (.slice A0_1 l0_1.length c0_1), (.slice A0_2 l0_2.length c0_2)] 35 (0, 0))) ∧ Aside0 (Below w.heap.size w wc))
 case first =>
  have H := HC16.out
  clear HC16
  replace H := Option.bind_eq_some_iff.mp H
  obtain ⟨t292, A320, H⟩ := H
  replace H : (if t292 = true then (if t271 = t275 then ((cabinetrylaw03_same.f t276 t280).bind fun t293 => (if t293 = true then (if t279 = t283 then ((cabinetrylaw03_same.f t284 t288).bind fun t294 => (if t294 = true then (if t287 = t291 then ((cabinetrylaw03_known.f).bind fun t295 => (cabinetrylaw03_TableWrites.j0 k t295)) else (cabinetrylaw03_TableWrites.j0 k false)) else (cabinetrylaw03_TableWrites.j0 k false))) else (cabinetrylaw03_TableWrites.j0 k false)) else (cabinetrylaw03_TableWrites.j0 k false))) else (cabinetrylaw03_TableWrites.j0 k false)) else (cabinetrylaw03_TableWrites.j0 k false)) = some r := H
  have A32 := Z0 A320
  clear A320
  by_cases c33 : t292 = true
  rotate_left
  ·replace c33 := Bool.eq_false_iff.mpr c33
   subst c33
   have H1 : (cabinetrylaw03_TableWrites.j0 k false) = some r := by rw [if_neg (show ¬ (false = true) by decide)] at H; exact H
   clear H
   have H := H1
   clear H1
   have H' := Z0 H
   clear H
   obtain ⟨Ao71, co71, eo71⟩ := Kd.R_slice HO270.out
   subst eo71
   obtain ⟨Ao72, co72, eo72⟩ := Kd.R_slice HO274.out
   subst eo72
   go_wp2_with (first | ((with_reducible refine Z5 (f := 23) rfl ?_); refine gl Tryz.func23 (cabinetrylaw03_same.calls _ _ t268 _ _ t272 false _ ?side1 ?side2 ?side3 ?side4 A32.out) ?_; (case side1 => repeat (first | exact (Kd.R_reads' HO270.out).2.2 | (with_reducible refine Kd.C_alloc ?_ _) | (with_reducible refine Kd.C_drewN ?_ _) | (with_reducible refine Kd.C_drew ?_))); (case side2 => exact (Kd.R_reads' HO270.out).2.1); (case side3 => repeat (first | exact (Kd.R_reads' HO274.out).2.2 | (with_reducible refine Kd.C_alloc ?_ _) | (with_reducible refine Kd.C_drewN ?_ _) | (with_reducible refine Kd.C_drew ?_))); (case side4 => exact (Kd.R_reads' HO274.out).2.1); rintro e w' ⟨rfl, ⟨nd, rfl⟩⟩; refine ⟨_, rfl, ?_⟩))
   go_meet
   case rel => exact ⟨_, (false), V2, H', ⟨by first | omega | exact Nat.le_refl _⟩, ⟨bk⟩, ⟨V0⟩⟩
  subst c33
  have H1 : (if t271 = t275 then ((cabinetrylaw03_same.f t276 t280).bind fun t293 => (if t293 = true then (if t279 = t283 then ((cabinetrylaw03_same.f t284 t288).bind fun t294 => (if t294 = true then (if t287 = t291 then ((cabinetrylaw03_known.f).bind fun t295 => (cabinetrylaw03_TableWrites.j0 k t295)) else (cabinetrylaw03_TableWrites.j0 k false)) else (cabinetrylaw03_TableWrites.j0 k false))) else (cabinetrylaw03_TableWrites.j0 k false)) else (cabinetrylaw03_TableWrites.j0 k false))) else (cabinetrylaw03_TableWrites.j0 k false)) = some r := by rw [if_pos rfl] at H; exact H
  clear H
  have H := H1
  clear H1
  by_cases c34 : t271 = t275
  rotate_left
  ·rw [if_neg c34] at H
   first | (exact absurd (H.trans (congrArg some HR_.out)) (by simp)) | (exact (cabinetrylaw03_TableWrites.j0_ne _ _ H (congrArg some HR_.out)).elim)
  rw [if_pos c34] at H
  have c34b0 : (t271 == t275) = true := beq_iff_eq.mpr c34
  have c34b1 : (t271 != t275) = false := bne_eq_false_iff_eq.mpr c34
  clear c34
  (first | rw [c34b0] | (simp only [i64_w, i32_w]; rw [c34b0]) | skip)
  replace H := Option.bind_eq_some_iff.mp H
  obtain ⟨t293, A350, H⟩ := H
  replace H : (if t293 = true then (if t279 = t283 then ((cabinetrylaw03_same.f t284 t288).bind fun t294 => (if t294 = true then (if t287 = t291 then ((cabinetrylaw03_known.f).bind fun t295 => (cabinetrylaw03_TableWrites.j0 k t295)) else (cabinetrylaw03_TableWrites.j0 k false)) else (cabinetrylaw03_TableWrites.j0 k false))) else (cabinetrylaw03_TableWrites.j0 k false)) else (cabinetrylaw03_TableWrites.j0 k false)) = some r := H
  have A35 := Z0 A350
  clear A350
  by_cases c36 : t293 = true
  rotate_left
  ·replace c36 := Bool.eq_false_iff.mpr c36
   subst c36
   have H1 : (cabinetrylaw03_TableWrites.j0 k false) = some r := by rw [if_neg (show ¬ (false = true) by decide)] at H; exact H
   clear H
   have H := H1
   clear H1
   have H' := Z0 H
   clear H
   obtain ⟨Ao65, co65, eo65⟩ := Kd.R_slice HO270.out
   subst eo65
   obtain ⟨Ao66, co66, eo66⟩ := Kd.R_slice HO274.out
   subst eo66
   go_wp2_with (first | ((with_reducible refine Z5 (f := 23) rfl ?_); refine gl Tryz.func23 (cabinetrylaw03_same.calls _ _ t268 _ _ t272 true _ ?side1 ?side2 ?side3 ?side4 A32.out) ?_; (case side1 => repeat (first | exact (Kd.R_reads' HO270.out).2.2 | (with_reducible refine Kd.C_alloc ?_ _) | (with_reducible refine Kd.C_drewN ?_ _) | (with_reducible refine Kd.C_drew ?_))); (case side2 => exact (Kd.R_reads' HO270.out).2.1); (case side3 => repeat (first | exact (Kd.R_reads' HO274.out).2.2 | (with_reducible refine Kd.C_alloc ?_ _) | (with_reducible refine Kd.C_drewN ?_ _) | (with_reducible refine Kd.C_drew ?_))); (case side4 => exact (Kd.R_reads' HO274.out).2.1); rintro e w' ⟨rfl, ⟨nd, rfl⟩⟩; refine ⟨_, rfl, ?_⟩; obtain ⟨Ao67, co67, eo67⟩ := Kd.R_slice HO278.out; subst eo67; obtain ⟨Ao68, co68, eo68⟩ := Kd.R_slice HO282.out; subst eo68) | (go_at_call 23; (with_reducible refine (cabinetrylaw03_same.calls _ _ t276 _ _ t280 false _ ?side1 ?side2 ?side3 ?side4 A35.out).mono ?_); (case side1 => repeat (first | exact (Kd.R_reads' HO278.out).2.2 | (with_reducible refine Kd.C_alloc ?_ _) | (with_reducible refine Kd.C_drewN ?_ _) | (with_reducible refine Kd.C_drew ?_))); (case side2 => exact (Kd.R_reads' HO278.out).2.1); (case side3 => repeat (first | exact (Kd.R_reads' HO282.out).2.2 | (with_reducible refine Kd.C_alloc ?_ _) | (with_reducible refine Kd.C_drewN ?_ _) | (with_reducible refine Kd.C_drew ?_))); (case side4 => exact (Kd.R_reads' HO282.out).2.1); rintro e w' ⟨rfl, ⟨nd, rfl⟩⟩))
   go_meet
   case rel => exact ⟨_, (false), V2, H', ⟨by first | omega | exact Nat.le_refl _⟩, ⟨bk⟩, ⟨V0⟩⟩
  subst c36
  have H1 : (if t279 = t283 then ((cabinetrylaw03_same.f t284 t288).bind fun t294 => (if t294 = true then (if t287 = t291 then ((cabinetrylaw03_known.f).bind fun t295 => (cabinetrylaw03_TableWrites.j0 k t295)) else (cabinetrylaw03_TableWrites.j0 k false)) else (cabinetrylaw03_TableWrites.j0 k false))) else (cabinetrylaw03_TableWrites.j0 k false)) = some r := by rw [if_pos rfl] at H; exact H
  clear H
  have H := H1
  clear H1
  by_cases c37 : t279 = t283
  rotate_left
  ·rw [if_neg c37] at H
   first | (exact absurd (H.trans (congrArg some HR_.out)) (by simp)) | (exact (cabinetrylaw03_TableWrites.j0_ne _ _ H (congrArg some HR_.out)).elim)
  rw [if_pos c37] at H
  have c37b0 : (t279 == t283) = true := beq_iff_eq.mpr c37
  have c37b1 : (t279 != t283) = false := bne_eq_false_iff_eq.mpr c37
  clear c37
  replace H := Option.bind_eq_some_iff.mp H
  obtain ⟨t294, A380, H⟩ := H
  replace H : (if t294 = true then (if t287 = t291 then ((cabinetrylaw03_known.f).bind fun t295 => (cabinetrylaw03_TableWrites.j0 k t295)) else (cabinetrylaw03_TableWrites.j0 k false)) else (cabinetrylaw03_TableWrites.j0 k false)) = some r := H
  have A38 := Z0 A380
  clear A380
  by_cases c39 : t294 = true
  rotate_left
  ·replace c39 := Bool.eq_false_iff.mpr c39
   subst c39
   have H1 : (cabinetrylaw03_TableWrites.j0 k false) = some r := by rw [if_neg (show ¬ (false = true) by decide)] at H; exact H
   clear H
   have H := H1
   clear H1
   have H' := Z0 H
   clear H
   obtain ⟨Ao55, co55, eo55⟩ := Kd.R_slice HO270.out
   subst eo55
   obtain ⟨Ao56, co56, eo56⟩ := Kd.R_slice HO274.out
   subst eo56
   go_wp2_with (first | ((with_reducible refine Z5 (f := 23) rfl ?_); refine gl Tryz.func23 (cabinetrylaw03_same.calls _ _ t268 _ _ t272 true _ ?side1 ?side2 ?side3 ?side4 A32.out) ?_; (case side1 => repeat (first | exact (Kd.R_reads' HO270.out).2.2 | (with_reducible refine Kd.C_alloc ?_ _) | (with_reducible refine Kd.C_drewN ?_ _) | (with_reducible refine Kd.C_drew ?_))); (case side2 => exact (Kd.R_reads' HO270.out).2.1); (case side3 => repeat (first | exact (Kd.R_reads' HO274.out).2.2 | (with_reducible refine Kd.C_alloc ?_ _) | (with_reducible refine Kd.C_drewN ?_ _) | (with_reducible refine Kd.C_drew ?_))); (case side4 => exact (Kd.R_reads' HO274.out).2.1); rintro e w' ⟨rfl, ⟨nd, rfl⟩⟩; refine ⟨_, rfl, ?_⟩; obtain ⟨Ao57, co57, eo57⟩ := Kd.R_slice HO278.out; subst eo57; obtain ⟨Ao58, co58, eo58⟩ := Kd.R_slice HO282.out; subst eo58) | (go_at_call 23; (with_reducible refine (cabinetrylaw03_same.calls _ _ t276 _ _ t280 true _ ?side1 ?side2 ?side3 ?side4 A35.out).mono ?_); (case side1 => repeat (first | exact (Kd.R_reads' HO278.out).2.2 | (with_reducible refine Kd.C_alloc ?_ _) | (with_reducible refine Kd.C_drewN ?_ _) | (with_reducible refine Kd.C_drew ?_))); (case side2 => exact (Kd.R_reads' HO278.out).2.1); (case side3 => repeat (first | exact (Kd.R_reads' HO282.out).2.2 | (with_reducible refine Kd.C_alloc ?_ _) | (with_reducible refine Kd.C_drewN ?_ _) | (with_reducible refine Kd.C_drew ?_))); (case side4 => exact (Kd.R_reads' HO282.out).2.1); rintro e w' ⟨rfl, ⟨nd, rfl⟩⟩; obtain ⟨Ao59, co59, eo59⟩ := Kd.R_slice HO286.out; subst eo59; obtain ⟨Ao60, co60, eo60⟩ := Kd.R_slice HO290.out; subst eo60) | (go_at_call 23; (with_reducible refine (cabinetrylaw03_same.calls _ _ t284 _ _ t288 false _ ?side1 ?side2 ?side3 ?side4 A38.out).mono ?_); (case side1 => repeat (first | exact (Kd.R_reads' HO286.out).2.2 | (with_reducible refine Kd.C_alloc ?_ _) | (with_reducible refine Kd.C_drewN ?_ _) | (with_reducible refine Kd.C_drew ?_))); (case side2 => exact (Kd.R_reads' HO286.out).2.1); (case side3 => repeat (first | exact (Kd.R_reads' HO290.out).2.2 | (with_reducible refine Kd.C_alloc ?_ _) | (with_reducible refine Kd.C_drewN ?_ _) | (with_reducible refine Kd.C_drew ?_))); (case side4 => exact (Kd.R_reads' HO290.out).2.1); rintro e w' ⟨rfl, ⟨nd, rfl⟩⟩))
   go_meet
   case rel => exact ⟨_, (false), V2, H', ⟨by first | omega | exact Nat.le_refl _⟩, ⟨bk⟩, ⟨V0⟩⟩
  subst c39
  have H1 : (if t287 = t291 then ((cabinetrylaw03_known.f).bind fun t295 => (cabinetrylaw03_TableWrites.j0 k t295)) else (cabinetrylaw03_TableWrites.j0 k false)) = some r := by rw [if_pos rfl] at H; exact H
  clear H
  have H := H1
  clear H1
  by_cases c40 : t287 = t291
  rotate_left
  ·rw [if_neg c40] at H
   first | (exact absurd (H.trans (congrArg some HR_.out)) (by simp)) | (exact (cabinetrylaw03_TableWrites.j0_ne _ _ H (congrArg some HR_.out)).elim)
  rw [if_pos c40] at H
  have c40b0 : (t287 == t291) = true := beq_iff_eq.mpr c40
  have c40b1 : (t287 != t291) = false := bne_eq_false_iff_eq.mpr c40
  clear c40
  replace H := Option.bind_eq_some_iff.mp H
  obtain ⟨t295, A410, H⟩ := H
  replace H : (cabinetrylaw03_TableWrites.j0 k t295) = some r := H
  have A41 := Z0 A410
  clear A410
  have H' := Z0 H
  clear H
  obtain ⟨Ao42, co42, eo42⟩ := Kd.R_slice HO270.out
  subst eo42
  obtain ⟨Ao43, co43, eo43⟩ := Kd.R_slice HO274.out
  subst eo43
  go_wp2_with (first | ((with_reducible refine Z5 (f := 23) rfl ?_); refine gl Tryz.func23 (cabinetrylaw03_same.calls _ _ t268 _ _ t272 true _ ?side1 ?side2 ?side3 ?side4 A32.out) ?_; (case side1 => repeat (first | exact (Kd.R_reads' HO270.out).2.2 | (with_reducible refine Kd.C_alloc ?_ _) | (with_reducible refine Kd.C_drewN ?_ _) | (with_reducible refine Kd.C_drew ?_))); (case side2 => exact (Kd.R_reads' HO270.out).2.1); (case side3 => repeat (first | exact (Kd.R_reads' HO274.out).2.2 | (with_reducible refine Kd.C_alloc ?_ _) | (with_reducible refine Kd.C_drewN ?_ _) | (with_reducible refine Kd.C_drew ?_))); (case side4 => exact (Kd.R_reads' HO274.out).2.1); rintro e w' ⟨rfl, ⟨nd, rfl⟩⟩; refine ⟨_, rfl, ?_⟩; obtain ⟨Ao44, co44, eo44⟩ := Kd.R_slice HO278.out; subst eo44; obtain ⟨Ao45, co45, eo45⟩ := Kd.R_slice HO282.out; subst eo45) | (go_at_call 23; (with_reducible refine (cabinetrylaw03_same.calls _ _ t276 _ _ t280 true _ ?side1 ?side2 ?side3 ?side4 A35.out).mono ?_); (case side1 => repeat (first | exact (Kd.R_reads' HO278.out).2.2 | (with_reducible refine Kd.C_alloc ?_ _) | (with_reducible refine Kd.C_drewN ?_ _) | (with_reducible refine Kd.C_drew ?_))); (case side2 => exact (Kd.R_reads' HO278.out).2.1); (case side3 => repeat (first | exact (Kd.R_reads' HO282.out).2.2 | (with_reducible refine Kd.C_alloc ?_ _) | (with_reducible refine Kd.C_drewN ?_ _) | (with_reducible refine Kd.C_drew ?_))); (case side4 => exact (Kd.R_reads' HO282.out).2.1); rintro e w' ⟨rfl, ⟨nd, rfl⟩⟩; obtain ⟨Ao46, co46, eo46⟩ := Kd.R_slice HO286.out; subst eo46; obtain ⟨Ao47, co47, eo47⟩ := Kd.R_slice HO290.out; subst eo47) | (go_at_call 23; (with_reducible refine (cabinetrylaw03_same.calls _ _ t284 _ _ t288 true _ ?side1 ?side2 ?side3 ?side4 A38.out).mono ?_); (case side1 => repeat (first | exact (Kd.R_reads' HO286.out).2.2 | (with_reducible refine Kd.C_alloc ?_ _) | (with_reducible refine Kd.C_drewN ?_ _) | (with_reducible refine Kd.C_drew ?_))); (case side2 => exact (Kd.R_reads' HO286.out).2.1); (case side3 => repeat (first | exact (Kd.R_reads' HO290.out).2.2 | (with_reducible refine Kd.C_alloc ?_ _) | (with_reducible refine Kd.C_drewN ?_ _) | (with_reducible refine Kd.C_drew ?_))); (case side4 => exact (Kd.R_reads' HO290.out).2.1); rintro e w' ⟨rfl, ⟨nd, rfl⟩⟩) | (go_at_call 12; (with_reducible refine (cabinetrylaw03_known.calls  t295 _ A41.out).mono ?_); rintro e w48 ⟨rfl, hb⟩; replace HO270 := Z0 (Kd.R_below (kr HO270.out) hb); replace HO274 := Z0 (Kd.R_below (kr HO274.out) hb); replace HO278 := Z0 (Kd.R_below (kr HO278.out) hb); replace HO282 := Z0 (Kd.R_below (kr HO282.out) hb); replace HO286 := Z0 (Kd.R_below (kr HO286.out) hb); replace HO290 := Z0 (Kd.R_below (kr HO290.out) hb); replace BK265 := Z0 (Z2 (g := gb265) (o := .cells #[.int .i64 a0_0, .slice A0_1 l0_1.length c0_1, .slice A0_2 l0_2.length c0_2] 35 (0, 0)) bk hb); replace HB := Z0 (Z1 V0 hb)))
  go_meet
  case rel => exact ⟨_, (t295), V2, H', ⟨by first | omega | exact Nat.le_refl _⟩, ⟨bk⟩, ⟨V0⟩⟩
 case rest =>
  clear HC16
  obtain ⟨kq, x4_15, rfl, HA, HJ15, BK265, HB⟩ := hcut
  cases kq with
  | zero => exact absurd HA.out (by simp [cabinetrylaw03_TableWrites.j0])
  | succ kj15 =>
   have H := HA.out
   clear HA
   simp only [cabinetrylaw03_TableWrites.j0] at H
   obtain rfl := Option.some.inj H
   go_wp2
   go_ret
   exact ⟨rfl, V0⟩
end
theorem wideN_nn : ∀ l : List S23, l.all fS = true → 0 ≤ wideN l
 | [], _ => Int.le_refl _
 | x :: r, h => by
  simp only [List.all_cons, Bool.and_eq_true] at h
  have := wideN_nn r h.2
  have := field_kinds h.1
  simp only [wideN]
  omega
theorem tableV_zero {p : Int} {fs : List S23} {rs : List S46} (h : tableV p fs rs = 0) : vfS fs = 0 ∧ fs ≠ [] ∧ rs.length ≤ 300 ∧ recsV fs p rs = 0 := by
 unfold tableV at h
 split at h
 rotate_left
 ·omega
 split at h
 rotate_left
 ·omega
 rename_i _ hv
 split at h
 ·omega
 refine ⟨hv, fun e => ?_, by omega, h⟩
 subst e
 simp [vfS] at hv
theorem tables_is (p : Int) (fs : List S23) (rs : List S46) (h : tableV p fs rs = 0) : ∃ B : List Int, ∃ K, ∀ k, K ≤ k → table_written.f k p fs rs = some B ∧ (cabinetryref03_header.f k p fs rs).bind (fun t => cabinetryref03_Bytes.l0 k t 0 p fs rs) = some (B, 0) ∧ table_header.f k p fs rs = some (headL p fs rs) ∧ cabinetryref03_header.f k p fs rs = some (headL p fs rs) := by
 obtain ⟨hv, hne, hr3, hrec⟩ := tableV_zero h
 obtain ⟨hf, hL, hlen⟩ := vfS_all hv
 have hw := wideN_nn fs hf
 have hl0 : 0 ≤ lenS fs := by unfold lenS; omega
 obtain ⟨Z, z1, K, z2⟩ := recs_go p p fs rs hL hne hf hr3 rs 0 List.drop_zero hrec
 have hh : (headL p fs rs).length ≤ 1000000 := by
  unfold headL
  have : (fs.flatMap descL).length ≤ 16 * fs.length := by
   clear hv hne hrec hlen hw hl0 z1 z2 hL h
   induction fs with
   | nil => simp
   | cons x r ih =>
    simp only [List.all_cons, Bool.and_eq_true] at hf
    have := ih hf.2
    rw [List.flatMap_cons, List.length_append, descL_len x hf.1, List.length_cons]
    omega
  simp only [List.length_append, lowL_len, List.length_cons, List.length_nil]
  omega
 refine ⟨headL p fs rs ++ Z ++ [26], K + 2001, fun k hk => ?_⟩
 obtain ⟨h1, h2⟩ := header_is p fs rs hf hL hl0 hlen hr3 k (by omega)
 obtain ⟨y1, y2⟩ := z2 k (by omega) (headL p fs rs) (by omega)
 refine ⟨?_, ?_, h1, h2⟩
 rotate_left
 ·rw [h2]
  exact y2
 unfold table_written.f
 rw [h1]
 exact y1
theorem recsV_drop {fs : List S23} {pg : Int} : ∀ (l : List S46) (i : Nat), recsV fs pg l = 0 → recsV fs pg (l.drop i) = 0
 | l, 0, h => h
 | [], i + 1, h => rfl
 | x :: r, i + 1, h => recsV_drop r i (recsV_cons h).2.2
theorem TableWrites_pure0 (p : Int) (fs : List S23) (rs : List S46) (a1 : Int) (h : smallF fs) (hr : smallR rs) : ∃ k, cabinetrylaw03_TableWrites.f k p fs rs a1 = some true := by
 obtain ⟨K2, hK2⟩ := refValidateT_is p fs rs h
 have same : ∀ l : List Int, cabinetrylaw03_same.f l l = some true := fun l => by unfold cabinetrylaw03_same.f; simp
 have key : ∃ K, ∀ k, K ≤ k → ∃ b1 b2 b3 : List Int × Int, table_Bytes.f k p fs rs = some b1 ∧ cabinetryref03_Bytes.f k p fs rs = some b1 ∧ table_Header.f k p fs rs = some b2 ∧ cabinetryref03_Header.f k p fs rs = some b2 ∧ table_Row.f k p fs rs a1 = some b3 ∧ cabinetryref03_Row.f k p fs rs a1 = some b3 := by
  by_cases hz : tableV p fs rs = 0
  rotate_left
  ·refine ⟨K2 + 8000, fun k hk => ⟨([], tableV p fs rs), ([], tableV p fs rs), ([], tableV p fs rs), ?_⟩⟩
   have t1 := validate_is p fs rs h.1 k (by omega)
   have t2 : cabinetryref03_Validate.f k p fs rs = some (tableV p fs rs) := hK2 k (by omega)
   unfold table_Bytes.f cabinetryref03_Bytes.f table_Header.f cabinetryref03_Header.f table_Row.f cabinetryref03_Row.f
   rw [t1, t2]
   simp only [Option.bind_some]
   rw [if_neg hz, if_neg hz, if_neg hz, if_neg hz, if_neg hz, if_neg hz]
   exact ⟨rfl, rfl, rfl, rfl, rfl, rfl⟩
  obtain ⟨B, K, hB⟩ := tables_is p fs rs hz
  obtain ⟨hv, hne, hr3, hrec⟩ := tableV_zero hz
  obtain ⟨hf, hL, hlen⟩ := vfS_all hv
  have hrow : ∃ b3 : List Int × Int, ∃ K3, ∀ k, K3 ≤ k → table_Row.f k p fs rs a1 = some b3 ∧ cabinetryref03_Row.f k p fs rs a1 = some b3 := by
   by_cases c1 : a1 < 1
   ·refine ⟨([], 4), K2 + 8000, fun k hk => ?_⟩
    have t1 := validate_is p fs rs h.1 k (by omega)
    have t2 : cabinetryref03_Validate.f k p fs rs = some (tableV p fs rs) := hK2 k (by omega)
    unfold table_Row.f cabinetryref03_Row.f
    rw [t1, t2, hz]
    simp only [Option.bind_some, if_true, if_pos c1]
    exact ⟨trivial, trivial⟩
   by_cases c2 : a1 > (rs.length : Int)
   ·refine ⟨([], 4), K2 + 8000, fun k hk => ?_⟩
    have t1 := validate_is p fs rs h.1 k (by omega)
    have t2 : cabinetryref03_Validate.f k p fs rs = some (tableV p fs rs) := hK2 k (by omega)
    unfold table_Row.f cabinetryref03_Row.f
    rw [t1, t2, hz]
    simp only [Option.bind_some, if_true, if_neg c1, if_pos c2]
    exact ⟨trivial, trivial⟩
   obtain ⟨j, hj⟩ : ∃ j : Nat, a1 - 1 = (j : Int) := ⟨(a1 - 1).toNat, by omega⟩
   have hjl : j < rs.length := by omega
   have hd : rs.drop j = rs[j] :: rs.drop (j + 1) := List.drop_eq_getElem_cons hjl
   obtain ⟨_, a2, _⟩ := rd46_drop hd
   have hv2 := recsV_drop rs j hrec
   rw [hd] at hv2
   obtain ⟨v1, v2, _⟩ := recsV_cons hv2
   obtain ⟨R, r1, _, K1, r3⟩ := row_is p fs rs[j].f1 rs[j].f0 hL hne v1.symm hf v2
   refine ⟨(R, 0), K1 + K2 + 8000, fun k hk => ?_⟩
   have t1 := validate_is p fs rs h.1 k (by omega)
   have t2 : cabinetryref03_Validate.f k p fs rs = some (tableV p fs rs) := hK2 k (by omega)
   have q : cabinetryref03_row.f k fs rs[j].f0 rs[j].f1 = some R := r3 k (by omega)
   unfold table_Row.f cabinetryref03_Row.f
   rw [t1, t2, hz, hj, wr64 (j : Int) (by omega)]
   simp only [Option.bind_some, if_true, if_neg c1, if_neg c2]
   rw [if_pos (by omega), if_pos (by omega), if_pos (by omega), if_pos (by omega), a2, r1, q]
   exact ⟨rfl, rfl⟩
  obtain ⟨b3, K3, h3⟩ := hrow
  refine ⟨K + K2 + K3 + 8000, fun k hk => ⟨(B, 0), (headL p fs rs, 0), b3, ?_, ?_, ?_, ?_, (h3 k (by omega)).1, (h3 k (by omega)).2⟩⟩
  all_goals obtain ⟨q1, q2, q3, q4⟩ := hB k (by omega)
  all_goals have t1 := validate_is p fs rs h.1 k (by omega)
  all_goals have t2 : cabinetryref03_Validate.f k p fs rs = some (tableV p fs rs) := hK2 k (by omega)
  ·unfold table_Bytes.f
   rw [t1, hz]
   simp only [Option.bind_some, if_true]
   rw [q1]
   rfl
  ·unfold cabinetryref03_Bytes.f
   rw [t2, hz]
   simp only [Option.bind_some, if_true]
   exact q2
  ·unfold table_Header.f
   rw [t1, hz]
   simp only [Option.bind_some, if_true]
   rw [q3]
   rfl
  unfold cabinetryref03_Header.f
  rw [t2, hz]
  simp only [Option.bind_some, if_true]
  rw [q4]
  rfl
 obtain ⟨K, hk⟩ := key
 obtain ⟨m, hm1, hm2⟩ : ∃ m : Nat, K ≤ m ∧ 3200001 ≤ m := ⟨K + 3200001, by omega, by omega⟩
 refine ⟨m + 1, ?_⟩
 obtain ⟨b1, b2, b3, e1, e2, e3, e4, e5, e6⟩ := hk (m + 1) (by omega)
 obtain ⟨w, hw⟩ := weight_some p fs rs h.1 hr (m + 1) (by omega)
 unfold cabinetrylaw03_TableWrites.f cabinetrylaw03_over.f
 rw [hw]
 simp only [Option.bind_some]
 split
 ·rfl
 rw [e1, e2, e3, e4, e5, e6]
 simp only [Option.bind_some, same, if_true]
 rfl
theorem TableWrites_pure (p : Int) (fs : List S23) (rs : List S46) (a1 : Int) (h : smallF fs) (hr : smallR rs) (_ : ∀ y ∈ rs, ∀ v ∈ y.f1, v.f2.size ≤ 1048576) : ∃ k, cabinetrylaw03_TableWrites.f k p fs rs a1 = some true := TableWrites_pure0 p fs rs a1 h hr
end Go.Proofs.YtldpdidlfbphcaaGreatDoor.P
end
section
namespace Go.Proofs.YtldpdidlfbphcaaGreatDoor.tableWrites
open Go.ChangeShapes Go.WideShapes Go.ChangeAt Go.RowKit
open Go.ChangeMaps (open_string shut_string)
def zargs : Array Value := #[.agg #[.int .i64 0, .slice none 0 0, .slice none 0 0], .int .i64 0]
theorem laid_met (os : Os) : laidMet Tryz.prog Rows.tableWritesUptoRow.laid ((R.laidWorld os).forCall (fun _ _ => 0) ⟨#[], zargs, []⟩).memory :=
 laidMet_of_run' 8 (by kernel_rfl) (by kernel_rfl)
theorem reads (os : Os) {H : Type} (enc : TypeId × Value → H) : ∃ places, DataW.whole enc Tryz.prog ((R.laidWorld os).forCall (fun _ _ => 0) ⟨#[], zargs, []⟩).memory Tryz.f4.params.toList Rows.tableWritesSpec.vars false zargs.toList 8 = some ([.agg [.lit (.int .i64 0), .nil, .nil], .lit (.int .i64 0)], [], places) :=
 ⟨[], by kernel_rfl⟩
theorem contract (H : Type) (enc : TypeId × Value → H) (W : World) (base : Nat) (args : Array Value) (ds gs : List (DataW H)) (before : List MemPlace)
  (hval : ∀ (j : Nat) t v, Tryz.f4.params[j]? = some t → args[j]? = some v → Value.okWide Tryz.prog W .any base t v)
  (hW : DataW.Whole enc Tryz.prog Tryz.f4.params.toList Rows.tableWritesSpec.vars false W args.toList ds gs before) (hk : Rows.uptoSmall H (ds ++ gs) = true) :
  Calls Tryz.prog 4 args W fun e W' => ∃ v, e = .returned v ∧ Rows.tableWritesSpec.post enc Tryz.prog Tryz.f4 false true false false W args v W' := by
 have hbk : Rows.uptoBulkAll (ds ++ gs) ≤ 1048576 := of_decide_eq_true hk
 clear hk
 have hW' := hW
 obtain ⟨p, q, hA0, hV, rfl, hfz, hnd⟩ := hW
 have hA : DataW.TrodAll enc Tryz.prog W 0 (fun _ => true) true Tryz.f4.params.toList args.toList ds p := hA0
 rw [Tryz.params4] at hA hval
 obtain ⟨v0, vs0, d0, ds0, p0, q0, hargs, rfl, rfl, h0, r0⟩ := trodAll_cons hA
 obtain ⟨v1, vs1, d1, ds1, p1, q1, rfl, rfl, rfl, h1, r1⟩ := trodAll_cons r0
 obtain ⟨rfl, rfl, rfl⟩ := trodAll_nil r1
 obtain rfl : args = #[v0, v1] := by cases args; simp_all
 obtain ⟨rfl, rfl⟩ := trodVars_none hV
 rw [List.append_nil] at hbk
 simp only [Rows.uptoBulkAll] at hbk
 have lt0 : ∀ x ∈ p0, x.block < W.heap.size := by obtain ⟨m, hm⟩ := h0; exact DataW.trod_lt m _ _ _ hm
 have k0 := h0
 have lt1 : ∀ x ∈ p1, x.block < W.heap.size := by obtain ⟨m, hm⟩ := h1; exact DataW.trod_lt m _ _ _ hm
 have k1 := h1
 obtain ⟨pg0, A0, c0, l0, B0, e0, m0, rfl, hc0, hC0, he0, hE0, hb0⟩ := R.open_table (hval 0 35 v0 rfl rfl) h0
 have sm0 := R.small_fields (xs := l0) (by omega)
 have sn0 := R.small_recs (ys := m0) (by omega)
 obtain ⟨a1, rfl, rfl, rfl, w1⟩ := open_int Tryz.underlying3 (hval 1 3 v1 rfl rfl) h1
 obtain ⟨k, hk⟩ := P.TableWrites_pure pg0 l0 m0 a1 sm0 sn0.1 sn0.2
 refine (P.cabinetrylaw03_TableWrites.calls1 k pg0 _ _ l0 _ _ m0 a1 true W rfl hC0 hc0 hE0 he0 hk).mono fun e W' ⟨he, bel⟩ => ?_
 subst he
 exact ⟨_, rfl, _, _, _, [], _, [], hW', trodAll_mk1 (shut_bool Tryz.underlying4 _), (trodAll_cons_mk (Below.trod R.laidOut (by kernel_rfl) (of_decide_eq_true (by kernel_rfl)) k0 bel lt0) (trodAll_cons_mk (Below.trod R.laidOut (by kernel_rfl) (of_decide_eq_true (by kernel_rfl)) k1 bel lt1) trodAll_mk0)), rfl, bel.frame _, fun h => by cases h⟩
theorem lifted (os : Os) (started : os.Started) (H : Type) (enc : TypeId × Value → H) (F : Stop.Interp) :
  ReturnsInHanded {} Tryz.checked os 4 .any ((Rows.OpenSpec.upto Rows.tableWritesSpec).preRow enc Tryz.prog Tryz.f4 Rows.tableWritesUptoRow.domain false Rows.tableWritesUptoRow.laid) (((Rows.OpenSpec.upto Rows.tableWritesSpec).at F).post enc Tryz.prog Tryz.f4 false true false false) := by
 obtain ⟨places, hx⟩ := reads os enc
 refine returnsInHanded_of_row (C := Tryz.checked) (s := Rows.OpenSpec.upto Rows.tableWritesSpec) R.own started (by kernel_rfl) Tryz.func4
  (witness_row_at (enc := enc) (C := Tryz.checked) false (R.laidWorld os) zargs rfl (by kernel_rfl) (by kernel_rfl) (by kernel_rfl)
   (OpenSpec.preRow_of_cond 8 hx (by kernel_rfl) (fun k hk => by cases hk; kernel_rfl) (by kernel_rfl) (laid_met os))) ?_
 intro W base args ds gs before hval hW _ hcond _ hL _ _
 exact contract H enc W base args ds gs before hval hW (hcond _ rfl)
theorem said : Rows.TableWritesUptoSaid :=
 OpenClaim.holds_of_cond 4 Tryz.f4 rfl rfl rfl rfl rfl rfl rfl ⟨rfl, rfl, rfl, rfl, rfl⟩ rfl rfl rfl rfl rfl (by kernel_rfl) Tryz.func4 (by kernel_rfl)
  (of_decide_eq_true (by kernel_rfl)) (by unfold Func.isWrapper; first | (rw [if_pos (by decide +kernel)]; kernel_rfl) | (rw [if_neg (by decide +kernel)]; exact ⟨rfl, rfl⟩))
  (fun os started H enc _ F => by rw [OpenClaim.pre_eq_preRow]; exact lifted os started H enc F)
theorem plain (f : FuncId) (fn : Func) (hf : Tryz.pinned.checked.prog.funcNamed "cabinetry/cabinetrylaw03.TableWrites" = some f) (hfn : Tryz.pinned.checked.prog.funcs[f]? = some fn) :
  false = Tryz.pinned.checked.prog.looks [] ∧ ∀ (j : Nat) t, fn.params[j]? = some t → Tryz.pinned.checked.prog.wantsStandIn t = false := by
 obtain rfl : f = 4 := Option.some.inj ((show Tryz.prog.funcNamed "cabinetry/cabinetrylaw03.TableWrites" = some 4 by kernel_rfl).symm.trans hf) |>.symm
 obtain rfl : fn = Tryz.f4 := (Option.some.inj (Tryz.func4.symm.trans hfn)).symm
 refine ⟨by kernel_rfl, fun j t ht => ?_⟩
 rw [Tryz.params4] at ht
 have hm := Array.mem_of_getElem? ht
 simp only [List.mem_toArray, List.mem_cons, List.not_mem_nil, or_false] at hm
 have hall : ∀ t, t = 3 ∨ t = 35 → Tryz.prog.wantsStandIn t = false := by
  intro t h
  rcases h with rfl | rfl
  ·kernel_rfl
  kernel_rfl
 rcases hm with rfl | rfl
 ·exact hall _ (by simp)
 exact hall _ (by simp)
theorem card : Rows.TableWritesUptoCardSaid :=
 Claim7.holds_tied_plain_at .later [] _ _ _ _ said (fun _ h => by cases h) (by kernel_rfl) (fun _ h => by cases h) tableWritesUpto_row_tie rfl ⟨rfl, rfl⟩ (by kernel_rfl) rfl plain (by kernel_rfl)
#print axioms card
end Go.Proofs.YtldpdidlfbphcaaGreatDoor.tableWrites
namespace Go.Proofs.YtldpdidlfbphcaaGreatDoor
theorem tableWrites_card_holds : Rows.TableWritesUptoCardSaid := tableWrites.card
end Go.Proofs.YtldpdidlfbphcaaGreatDoor
end
