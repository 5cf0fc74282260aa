/- Part 3 of this proof: what the last part leans on. -/
import Derived.Test.YtldpdidlfbphcaaGreatDoorBWrites2
import Derived.Laws.EntriesVeiled
set_option linter.unusedVariables false
set_option linter.unusedSimpArgs false
set_option maxHeartbeats 8000000
set_option maxRecDepth 100000
section
namespace Go.Proofs.YtldpdidlfbphcaaGreatDoor.P
open Go.RowKit Go.Proofs.YtldpdidlfbphcaaGreatDoorW.PrintWords Go.Proofs.YtldpdidlfbphcaaGreatDoorW.PrintLast Go.Proofs.YtldpdidlfbphcaaGreatDoorW.PrintMore
section
attribute [local go_sem] max2_int min2_int max_two min_two max_three min_three max_four min_four
def cabinetryref03_Fitted.j0 : Nat → Int → Int → ByteArray → Int → Int → Bool → Int → Int → ByteArray → Option (Int × Int × ByteArray × Int)
 | 0, _, _, _, _, _, _, _, _, _ => none
 | k + 1, x1, x8, x120000, x120001, x120002, x120003, x121000, x121001, x121002 => if x121000 = x8 then (if x120001 = 4 then (if 0 ≤ (mn (x121002.size : Int) x120002) then (if (mn (x121002.size : Int) x120002) ≤ (x121002.size : Int) then ((cabinetryref01_Bare.f k (x121002.extract 0 ((mn (x121002.size : Int) x120002) : Int).toNat)).bind fun t122 => ((cabinetryref03_written.f k t122 x1).bind fun t123 => (if t123 = true then ((cabinetryref01_Text.f t122).bind fun bt124 => (some (bt124.1, bt124.2.1, bt124.2.2, 0))) else (some (0, 0, (⟨#[]⟩ : ByteArray), 10))))) else (none)) else (none)) else ((cabinetryref03_fits.f k x120000 x120001 x120002 x120003 x1 x121000 x121001 x121002).bind fun t127 => (if t127 = true then (some (x121000, x121001, x121002, 0)) else (some (0, 0, (⟨#[]⟩ : ByteArray), 10))))) else (some (0, 0, (⟨#[]⟩ : ByteArray), 6))
def cabinetryref03_Fitted.f (k : Nat) (a0_0 : ByteArray) (a0_1 : Int) (a0_2 : Int) (a0_3 : Bool) (a1 : Int) (a2_0 : Int) (a2_1 : Int) (a2_2 : ByteArray) : Option (Int × Int × ByteArray × Int) := if a2_0 = 0 then (if a0_3 = true then (some (a2_0, a2_1, a2_2, 0)) else (some (0, 0, (⟨#[]⟩ : ByteArray), 7))) else (if a0_1 = 5 then (cabinetryref03_Fitted.j0 k a1 2 a0_0 a0_1 a0_2 a0_3 a2_0 a2_1 a2_2) else (cabinetryref03_Fitted.j0 k a1 a0_1 a0_0 a0_1 a0_2 a0_3 a2_0 a2_1 a2_2))
theorem cabinetryref03_Fitted.mono_l : ∀ k, (∀ y0 y1 y2 y3 y4 y5 y6 y7 y8, LeO (cabinetryref03_Fitted.j0 k y0 y1 y2 y3 y4 y5 y6 y7 y8) (cabinetryref03_Fitted.j0 (k + 1) y0 y1 y2 y3 y4 y5 y6 y7 y8))
 | 0 => fun _ _ _ _ _ _ _ _ _ r h => by simp [cabinetryref03_Fitted.j0] at h
 | k + 1 => by
  have ih0 := cabinetryref03_Fitted.mono_l k
  ·intro y0 y1 y2 y3 y4 y5 y6 y7 y8
   unfold cabinetryref03_Fitted.j0
   repeat' first
   | (with_reducible exact ih0 _ _ _ _ _ _ _ _ _)
   | (with_reducible exact cabinetryref01_Bare.mono _ _)
   | (with_reducible exact cabinetryref03_fits.mono _ _ _ _ _ _ _ _ _)
   | (with_reducible exact cabinetryref03_written.mono _ _ _)
   | (with_reducible exact LeO.refl _)
   | (with_reducible exact LeO.none _)
   | (with_reducible refine LeO.ite ?_ ?_)
   | (with_reducible refine LeO.bind ?_ (fun _ => ?_))
theorem cabinetryref03_Fitted.mono : ∀ a0 a1 a2 a3 a4 a5 a6 a7 k, LeO (cabinetryref03_Fitted.f k a0 a1 a2 a3 a4 a5 a6 a7) (cabinetryref03_Fitted.f (k + 1) a0 a1 a2 a3 a4 a5 a6 a7) := by
 intro a0 a1 a2 a3 a4 a5 a6 a7 k
 have ih0 := cabinetryref03_Fitted.mono_l k
 unfold cabinetryref03_Fitted.f
 repeat' first
   | (with_reducible exact ih0 _ _ _ _ _ _ _ _ _)
   | (with_reducible exact cabinetryref01_Bare.mono _ _)
   | (with_reducible exact cabinetryref03_fits.mono _ _ _ _ _ _ _ _ _)
   | (with_reducible exact cabinetryref03_written.mono _ _ _)
   | (with_reducible exact LeO.refl _)
   | (with_reducible exact LeO.none _)
   | (with_reducible refine LeO.ite ?_ ?_)
   | (with_reducible refine LeO.bind ?_ (fun _ => ?_))
theorem cabinetryref03_Fitted.calls (k : Nat) (a0_0 : ByteArray) (a0_1 : Int) (a0_2 : Int) (a0_3 : Bool) (a1 : Int) (a2_0 : Int) (a2_1 : Int) (a2_2 : ByteArray) (r1 : Int) (r2 : Int) (r3 : ByteArray) (r4 : Int) (w : World) (h : cabinetryref03_Fitted.f k a0_0 a0_1 a0_2 a0_3 a1 a2_0 a2_1 a2_2 = some (r1, r2, r3, r4)) :
  Calls Tryz.prog 58 #[.agg #[.string a0_0, .int .i64 a0_1, .int .i64 a0_2, .bool a0_3], .int .i64 a1, .agg #[.int .i64 a2_0, .int .i64 a2_1, .string a2_2]] w fun e w' => e = .returned (.tuple #[.agg #[.int .i64 r1, .int .i64 r2, .string r3], .int .i64 r4]) ∧ Below w.heap.size w w' := by
 have hu23 := Tryz.underlying23
 have hu25 := Tryz.underlying25
 have HB := Z0 (Below.refl w.heap.size w)
 unfold cabinetryref03_Fitted.f at h
 have H := h
 clear h
 by_cases c4 : a2_0 = 0
 ·rw [if_pos c4] at H
  have c4b0 : (a2_0 == 0) = true := beq_iff_eq.mpr c4
  have c4b1 : (a2_0 != 0) = false := bne_eq_false_iff_eq.mpr c4
  clear c4
  by_cases c5 : a0_3 = true
  ·subst c5
   have H1 : (some (a2_0, a2_1, a2_2, 0)) = some (r1, r2, r3, r4) := by rw [if_pos rfl] at H; exact H
   clear H
   have H := H1
   clear H1
   simp only [Option.some.injEq, Prod.mk.injEq] at H
   obtain ⟨rfl, rfl, rfl, rfl⟩ := H
   go_enter Tryz.func58, Tryz.ntmps58
   go_wp2_with (first | ((with_reducible refine Z9 (N := 3) rfl ?_); refine bx (N := 3) (cs := #[.string a0_0, .int .i64 a0_1, .int .i64 a0_2, .bool true]) (t := 23) ?_; intro gb119 hg w6 hbox hb; have BK119 := Z0 hbox; have GE119 := ge hg V0; replace HB := Z0 (Z1 V0 hb); clear hb hbox hg) | ((with_reducible refine Z9 (N := 5) rfl ?_); refine bx (N := 5) (cs := #[.int .i64 a2_0, .int .i64 a2_1, .string a2_2]) (t := 25) ?_; intro gb120 hg w7 hbox hb; have BK120 := Z0 hbox; have GE120 := ge hg V0; replace HB := Z0 (Z1 V0 hb); obtain ⟨NB119_120, NB120_119⟩ := nb hg BK119.out; replace BK119 := Z0 (Z2 BK119.out hb); clear hb hbox hg) | ((with_reducible refine Z9 (N := 6) rfl ?_); refine bx (N := 6) (cs := #[.int .i64 0, .int .i64 0, .string (⟨#[]⟩ : ByteArray)]) (t := 25) ?_; intro gb121 hg w8 hbox hb; have BK121 := Z0 hbox; have GE121 := ge hg V0; replace HB := Z0 (Z1 V0 hb); obtain ⟨NB119_121, NB121_119⟩ := nb hg BK119.out; replace BK119 := Z0 (Z2 BK119.out hb); obtain ⟨NB120_121, NB121_120⟩ := nb hg BK120.out; replace BK120 := Z0 (Z2 BK120.out hb); clear hb hbox hg; have hnb9 := NB120_119.out; have hnc9 := NB119_120.out; have hnb10 := NB120_121.out; have hnc10 := NB121_120.out; obtain ⟨hcz11_0, hcz11_1, hcz11_2⟩ := bc3 BK120.out; obtain ⟨hfz11_0, hfz11_1, hfz11_2⟩ := bf3 BK120.out; have hnb12 := NB119_121.out; have hnc12 := NB121_119.out; obtain ⟨hcz13_0, hcz13_1, hcz13_2, hcz13_3⟩ := bc4 BK119.out; obtain ⟨hfz13_0, hfz13_1, hfz13_2, hfz13_3⟩ := bf4 BK119.out; obtain ⟨hcz14_0, hcz14_1, hcz14_2⟩ := bc3 BK121.out; obtain ⟨hfz14_0, hfz14_1, hfz14_2⟩ := bf3 BK121.out))
   refine bodyPost_ret (results_ct rfl _ _ gb121 25 #[.int .i64 a2_0, .int .i64 a2_1, .string a2_2] (0, 0) _ rfl (by (with_reducible repeat (first | refine Y6 ?_ _ | refine Y5 ?_ | refine Y7 ?_ _)); refine blk_put (cs := #[.int .i64 a2_0, .int .i64 a2_1, .string (⟨#[]⟩ : ByteArray)]) ?_ 2 _ rfl; (with_reducible repeat (first | refine Y6 ?_ _ | refine Y5 ?_ | refine Y7 ?_ _)); refine blk_put (cs := #[.int .i64 a2_0, .int .i64 0, .string (⟨#[]⟩ : ByteArray)]) ?_ 1 _ rfl; (with_reducible repeat (first | refine Y6 ?_ _ | refine Y5 ?_ | refine Y7 ?_ _)); refine blk_put (cs := #[.int .i64 0, .int .i64 0, .string (⟨#[]⟩ : ByteArray)]) ?_ 0 _ rfl; (with_reducible repeat (first | refine Y6 ?_ _ | refine Y5 ?_ | refine Y7 ?_ _)); exact BK121.out) Tryz.underlying25 rfl (by kernel_rfl)) rfl ?_
   exact ⟨rfl, V0⟩
  replace c5 := Bool.eq_false_iff.mpr c5
  subst c5
  have H1 : (some (0, 0, (⟨#[]⟩ : ByteArray), 7)) = some (r1, r2, r3, r4) := by rw [if_neg (show ¬ (false = true) by decide)] at H; exact H
  clear H
  have H := H1
  clear H1
  simp only [Option.some.injEq, Prod.mk.injEq] at H
  obtain ⟨rfl, rfl, rfl, rfl⟩ := H
  go_enter Tryz.func58, Tryz.ntmps58
  go_wp2_with (first | ((with_reducible refine Z9 (N := 3) rfl ?_); refine bx (N := 3) (cs := #[.string a0_0, .int .i64 a0_1, .int .i64 a0_2, .bool false]) (t := 23) ?_; intro gb119 hg w15 hbox hb; have BK119 := Z0 hbox; have GE119 := ge hg V0; replace HB := Z0 (Z1 V0 hb); clear hb hbox hg) | ((with_reducible refine Z9 (N := 5) rfl ?_); refine bx (N := 5) (cs := #[.int .i64 a2_0, .int .i64 a2_1, .string a2_2]) (t := 25) ?_; intro gb120 hg w16 hbox hb; have BK120 := Z0 hbox; have GE120 := ge hg V0; replace HB := Z0 (Z1 V0 hb); obtain ⟨NB119_120, NB120_119⟩ := nb hg BK119.out; replace BK119 := Z0 (Z2 BK119.out hb); clear hb hbox hg) | ((with_reducible refine Z9 (N := 6) rfl ?_); refine bx (N := 6) (cs := #[.int .i64 0, .int .i64 0, .string (⟨#[]⟩ : ByteArray)]) (t := 25) ?_; intro gb121 hg w17 hbox hb; have BK121 := Z0 hbox; have GE121 := ge hg V0; replace HB := Z0 (Z1 V0 hb); obtain ⟨NB119_121, NB121_119⟩ := nb hg BK119.out; replace BK119 := Z0 (Z2 BK119.out hb); obtain ⟨NB120_121, NB121_120⟩ := nb hg BK120.out; replace BK120 := Z0 (Z2 BK120.out hb); clear hb hbox hg; have hnb18 := NB120_119.out; have hnc18 := NB119_120.out; have hnb19 := NB120_121.out; have hnc19 := NB121_120.out; obtain ⟨hcz20_0, hcz20_1, hcz20_2⟩ := bc3 BK120.out; obtain ⟨hfz20_0, hfz20_1, hfz20_2⟩ := bf3 BK120.out; have hnb21 := NB119_121.out; have hnc21 := NB121_119.out; obtain ⟨hcz22_0, hcz22_1, hcz22_2, hcz22_3⟩ := bc4 BK119.out; obtain ⟨hfz22_0, hfz22_1, hfz22_2, hfz22_3⟩ := bf4 BK119.out; obtain ⟨hcz23_0, hcz23_1, hcz23_2⟩ := bc3 BK121.out; obtain ⟨hfz23_0, hfz23_1, hfz23_2⟩ := bf3 BK121.out))
  refine bodyPost_ret (results_ct rfl _ _ gb121 25 #[.int .i64 0, .int .i64 0, .string (⟨#[]⟩ : ByteArray)] (0, 0) _ rfl (by (with_reducible repeat (first | refine Y6 ?_ _ | refine Y5 ?_ | refine Y7 ?_ _)); refine blk_put (cs := #[.int .i64 0, .int .i64 0, .string (⟨#[]⟩ : ByteArray)]) ?_ 2 _ rfl; (with_reducible repeat (first | refine Y6 ?_ _ | refine Y5 ?_ | refine Y7 ?_ _)); refine blk_put (cs := #[.int .i64 0, .int .i64 0, .string (⟨#[]⟩ : ByteArray)]) ?_ 1 _ rfl; (with_reducible repeat (first | refine Y6 ?_ _ | refine Y5 ?_ | refine Y7 ?_ _)); refine blk_put (cs := #[.int .i64 0, .int .i64 0, .string (⟨#[]⟩ : ByteArray)]) ?_ 0 _ rfl; (with_reducible repeat (first | refine Y6 ?_ _ | refine Y5 ?_ | refine Y7 ?_ _)); exact BK121.out) Tryz.underlying25 rfl (by kernel_rfl)) rfl ?_
  exact ⟨rfl, V0⟩
 rw [if_neg c4] at H
 have c4b0 : (a2_0 == 0) = false := beq_eq_false_iff_ne.mpr c4
 have c4b1 : (a2_0 != 0) = true := bne_iff_ne.mpr c4
 have HC24 := Z0 H
 clear H
 go_enter Tryz.func58, Tryz.ntmps58
 go_upto_if 21 with (first | ((with_reducible refine Z9 (N := 3) rfl ?_); refine bx (N := 3) (cs := #[.string a0_0, .int .i64 a0_1, .int .i64 a0_2, .bool a0_3]) (t := 23) ?_; intro gb119 hg w25 hbox hb; have BK119 := Z0 hbox; have GE119 := ge hg V0; replace HB := Z0 (Z1 V0 hb); clear hb hbox hg) | ((with_reducible refine Z9 (N := 5) rfl ?_); refine bx (N := 5) (cs := #[.int .i64 a2_0, .int .i64 a2_1, .string a2_2]) (t := 25) ?_; intro gb120 hg w26 hbox hb; have BK120 := Z0 hbox; have GE120 := ge hg V0; replace HB := Z0 (Z1 V0 hb); obtain ⟨NB119_120, NB120_119⟩ := nb hg BK119.out; replace BK119 := Z0 (Z2 BK119.out hb); clear hb hbox hg) | ((with_reducible refine Z9 (N := 6) rfl ?_); refine bx (N := 6) (cs := #[.int .i64 0, .int .i64 0, .string (⟨#[]⟩ : ByteArray)]) (t := 25) ?_; intro gb121 hg w27 hbox hb; have BK121 := Z0 hbox; have GE121 := ge hg V0; replace HB := Z0 (Z1 V0 hb); obtain ⟨NB119_121, NB121_119⟩ := nb hg BK119.out; replace BK119 := Z0 (Z2 BK119.out hb); obtain ⟨NB120_121, NB121_120⟩ := nb hg BK120.out; replace BK120 := Z0 (Z2 BK120.out hb); clear hb hbox hg; have hnb28 := NB120_119.out; have hnc28 := NB119_120.out; have hnb29 := NB120_121.out; have hnc29 := NB121_120.out; obtain ⟨hcz30_0, hcz30_1, hcz30_2⟩ := bc3 BK120.out; obtain ⟨hfz30_0, hfz30_1, hfz30_2⟩ := bf3 BK120.out; have hnb31 := NB119_121.out; have hnc31 := NB121_119.out; obtain ⟨hcz32_0, hcz32_1, hcz32_2, hcz32_3⟩ := bc4 BK119.out; obtain ⟨hfz32_0, hfz32_1, hfz32_2, hfz32_3⟩ := bf4 BK119.out))
 (try simp only [Act.put, Z3, Z6, Z7])
 go_cut [8] (fun v8 wc => ∃ (kq : Nat) (x8_23 : Int), v8 = .int .i64 x8_23 ∧ Aside0 (cabinetryref03_Fitted.j0 kq a1 x8_23 a0_0 a0_1 a0_2 a0_3 a2_0 a2_1 a2_2 = some (r1, r2, r3, r4)) ∧ Aside0 (kq ≤ k) ∧ Aside0 (wc.heap[gb119]? = some (.cells #[.string a0_0, .int .i64 a0_1, .int .i64 a0_2, .bool a0_3] 23 (0, 0))) ∧ Aside0 (wc.heap[gb120]? = some (.cells #[.int .i64 a2_0, .int .i64 a2_1, .string a2_2] 25 (0, 0))) ∧ Aside0 (wc.heap[gb121]? = some (.cells #[.int .i64 0, .int .i64 0, .string (⟨#[]⟩ : ByteArray)] 25 (0, 0))) ∧ Aside0 (Below w.heap.size w wc))
 case first =>
  have H := HC24.out
  clear HC24
  by_cases c33 : a0_1 = 5
  ·rw [if_pos c33] at H
   have c33b0 : (a0_1 == 5) = true := beq_iff_eq.mpr c33
   have c33b1 : (a0_1 != 5) = false := bne_eq_false_iff_eq.mpr c33
   clear c33
   (first | rw [c33b0] | (simp only [i64_w, i32_w]; rw [c33b0]) | skip)
   have H' := Z0 H
   clear H
   go_wp2
   go_meet
   case rel => exact ⟨_, (2), V2, H', ⟨by first | omega | exact Nat.le_refl _⟩, ⟨kb BK119.out⟩, ⟨kb BK120.out⟩, ⟨kb BK121.out⟩, ⟨V0⟩⟩
  rw [if_neg c33] at H
  have c33b0 : (a0_1 == 5) = false := beq_eq_false_iff_ne.mpr c33
  have c33b1 : (a0_1 != 5) = true := bne_iff_ne.mpr c33
  (first | rw [c33b0] | (simp only [i64_w, i32_w]; rw [c33b0]) | skip)
  have H' := Z0 H
  clear H
  go_wp2
  go_meet
  case rel => exact ⟨_, (a0_1), V2, H', ⟨by first | omega | exact Nat.le_refl _⟩, ⟨kb BK119.out⟩, ⟨kb BK120.out⟩, ⟨kb BK121.out⟩, ⟨V0⟩⟩
 case rest =>
  clear HC24
  obtain ⟨kq, x8_23, rfl, HA, HJ23, BK119, BK120, BK121, HB⟩ := hcut
  cases kq with
  | zero => exact absurd HA.out (by simp [cabinetryref03_Fitted.j0])
  | succ kj23 =>
   have H := HA.out
   clear HA
   simp only [cabinetryref03_Fitted.j0] at H
   by_cases c34 : a2_0 = x8_23
   rotate_left
   ·rw [if_neg c34] at H
    have c34b0 : (a2_0 == x8_23) = false := beq_eq_false_iff_ne.mpr c34
    have c34b1 : (a2_0 != x8_23) = true := bne_iff_ne.mpr c34
    simp only [Option.some.injEq, Prod.mk.injEq] at H
    obtain ⟨rfl, rfl, rfl, rfl⟩ := H
    have hnb73 := NB120_119.out
    have hnc73 := NB119_120.out
    have hnb74 := NB120_121.out
    have hnc74 := NB121_120.out
    obtain ⟨hcz75_0, hcz75_1, hcz75_2⟩ := bc3 BK120.out
    obtain ⟨hfz75_0, hfz75_1, hfz75_2⟩ := bf3 BK120.out
    have hnb76 := NB121_119.out
    have hnc76 := NB119_121.out
    obtain ⟨hcz77_0, hcz77_1, hcz77_2⟩ := bc3 BK121.out
    obtain ⟨hfz77_0, hfz77_1, hfz77_2⟩ := bf3 BK121.out
    go_wp2
    refine bodyPost_ret (results_ct rfl _ _ gb121 25 #[.int .i64 0, .int .i64 0, .string (⟨#[]⟩ : ByteArray)] (0, 0) _ rfl (by (with_reducible repeat (first | refine Y6 ?_ _ | refine Y5 ?_ | refine Y7 ?_ _)); refine blk_put (cs := #[.int .i64 0, .int .i64 0, .string (⟨#[]⟩ : ByteArray)]) ?_ 2 _ rfl; (with_reducible repeat (first | refine Y6 ?_ _ | refine Y5 ?_ | refine Y7 ?_ _)); refine blk_put (cs := #[.int .i64 0, .int .i64 0, .string (⟨#[]⟩ : ByteArray)]) ?_ 1 _ rfl; (with_reducible repeat (first | refine Y6 ?_ _ | refine Y5 ?_ | refine Y7 ?_ _)); refine blk_put (cs := #[.int .i64 0, .int .i64 0, .string (⟨#[]⟩ : ByteArray)]) ?_ 0 _ rfl; (with_reducible repeat (first | refine Y6 ?_ _ | refine Y5 ?_ | refine Y7 ?_ _)); exact BK121.out) Tryz.underlying25 rfl (by kernel_rfl)) rfl ?_
    exact ⟨rfl, V0⟩
   rw [if_pos c34] at H
   have c34b0 : (a2_0 == x8_23) = true := beq_iff_eq.mpr c34
   have c34b1 : (a2_0 != x8_23) = false := bne_eq_false_iff_eq.mpr c34
   clear c34
   by_cases c35 : a0_1 = 4
   rotate_left
   ·rw [if_neg c35] at H
    have c35b0 : (a0_1 == 4) = false := beq_eq_false_iff_ne.mpr c35
    have c35b1 : (a0_1 != 4) = true := bne_iff_ne.mpr c35
    replace H := Option.bind_eq_some_iff.mp H
    obtain ⟨t127, A560, H⟩ := H
    replace H : (if t127 = true then (some (a2_0, a2_1, a2_2, 0)) else (some (0, 0, (⟨#[]⟩ : ByteArray), 10))) = some (r1, r2, r3, r4) := H
    have A56 := Z0 A560
    clear A560
    by_cases c57 : t127 = true
    ·subst c57
     have H1 : (some (a2_0, a2_1, a2_2, 0)) = some (r1, r2, r3, r4) := by rw [if_pos rfl] at H; exact H
     clear H
     have H := H1
     clear H1
     simp only [Option.some.injEq, Prod.mk.injEq] at H
     obtain ⟨rfl, rfl, rfl, rfl⟩ := H
     have hnb58 := NB120_119.out
     have hnc58 := NB119_120.out
     have hnb59 := NB120_121.out
     have hnc59 := NB121_120.out
     obtain ⟨hcz60_0, hcz60_1, hcz60_2⟩ := bc3 BK120.out
     obtain ⟨hfz60_0, hfz60_1, hfz60_2⟩ := bf3 BK120.out
     have hnb61 := NB119_121.out
     have hnc61 := NB121_119.out
     obtain ⟨hcz62_0, hcz62_1, hcz62_2, hcz62_3⟩ := bc4 BK119.out
     obtain ⟨hfz62_0, hfz62_1, hfz62_2, hfz62_3⟩ := bf4 BK119.out
     go_wp2_with (first | ((with_reducible refine Z5 (f := 105) rfl ?_); refine gl Tryz.func105 (cabinetryref03_fits.calls kj23 a0_0 a0_1 a0_2 a0_3 a1 a2_0 a2_1 a2_2 true _ A56.out) ?_; rintro e w63 ⟨rfl, hb⟩; refine ⟨_, rfl, ?_⟩; replace BK119 := Z0 (Z2 BK119.out hb); replace BK120 := Z0 (Z2 BK120.out hb); replace BK121 := Z0 (Z2 BK121.out hb); replace HB := Z0 (Z1 V0 hb); obtain ⟨hcz64_0, hcz64_1, hcz64_2⟩ := bc3 BK120.out; obtain ⟨hfz64_0, hfz64_1, hfz64_2⟩ := bf3 BK120.out; obtain ⟨hcz65_0, hcz65_1, hcz65_2⟩ := bc3 BK121.out; obtain ⟨hfz65_0, hfz65_1, hfz65_2⟩ := bf3 BK121.out))
     refine bodyPost_ret (results_ct rfl _ _ gb121 25 #[.int .i64 a2_0, .int .i64 a2_1, .string a2_2] (0, 0) _ rfl (by (with_reducible repeat (first | refine Y6 ?_ _ | refine Y5 ?_ | refine Y7 ?_ _)); refine blk_put (cs := #[.int .i64 a2_0, .int .i64 a2_1, .string (⟨#[]⟩ : ByteArray)]) ?_ 2 _ rfl; (with_reducible repeat (first | refine Y6 ?_ _ | refine Y5 ?_ | refine Y7 ?_ _)); refine blk_put (cs := #[.int .i64 a2_0, .int .i64 0, .string (⟨#[]⟩ : ByteArray)]) ?_ 1 _ rfl; (with_reducible repeat (first | refine Y6 ?_ _ | refine Y5 ?_ | refine Y7 ?_ _)); refine blk_put (cs := #[.int .i64 0, .int .i64 0, .string (⟨#[]⟩ : ByteArray)]) ?_ 0 _ rfl; (with_reducible repeat (first | refine Y6 ?_ _ | refine Y5 ?_ | refine Y7 ?_ _)); exact BK121.out) Tryz.underlying25 rfl (by kernel_rfl)) rfl ?_
     exact ⟨rfl, V0⟩
    replace c57 := Bool.eq_false_iff.mpr c57
    subst c57
    have H1 : (some (0, 0, (⟨#[]⟩ : ByteArray), 10)) = some (r1, r2, r3, r4) := by rw [if_neg (show ¬ (false = true) by decide)] at H; exact H
    clear H
    have H := H1
    clear H1
    simp only [Option.some.injEq, Prod.mk.injEq] at H
    obtain ⟨rfl, rfl, rfl, rfl⟩ := H
    have hnb66 := NB120_119.out
    have hnc66 := NB119_120.out
    have hnb67 := NB120_121.out
    have hnc67 := NB121_120.out
    obtain ⟨hcz68_0, hcz68_1, hcz68_2⟩ := bc3 BK120.out
    obtain ⟨hfz68_0, hfz68_1, hfz68_2⟩ := bf3 BK120.out
    have hnb69 := NB119_121.out
    have hnc69 := NB121_119.out
    obtain ⟨hcz70_0, hcz70_1, hcz70_2, hcz70_3⟩ := bc4 BK119.out
    obtain ⟨hfz70_0, hfz70_1, hfz70_2, hfz70_3⟩ := bf4 BK119.out
    go_wp2_with (first | ((with_reducible refine Z5 (f := 105) rfl ?_); refine gl Tryz.func105 (cabinetryref03_fits.calls kj23 a0_0 a0_1 a0_2 a0_3 a1 a2_0 a2_1 a2_2 false _ A56.out) ?_; rintro e w71 ⟨rfl, hb⟩; refine ⟨_, rfl, ?_⟩; replace BK119 := Z0 (Z2 BK119.out hb); replace BK120 := Z0 (Z2 BK120.out hb); replace BK121 := Z0 (Z2 BK121.out hb); replace HB := Z0 (Z1 V0 hb); obtain ⟨hcz72_0, hcz72_1, hcz72_2⟩ := bc3 BK121.out; obtain ⟨hfz72_0, hfz72_1, hfz72_2⟩ := bf3 BK121.out))
    refine bodyPost_ret (results_ct rfl _ _ gb121 25 #[.int .i64 0, .int .i64 0, .string (⟨#[]⟩ : ByteArray)] (0, 0) _ rfl (by (with_reducible repeat (first | refine Y6 ?_ _ | refine Y5 ?_ | refine Y7 ?_ _)); refine blk_put (cs := #[.int .i64 0, .int .i64 0, .string (⟨#[]⟩ : ByteArray)]) ?_ 2 _ rfl; (with_reducible repeat (first | refine Y6 ?_ _ | refine Y5 ?_ | refine Y7 ?_ _)); refine blk_put (cs := #[.int .i64 0, .int .i64 0, .string (⟨#[]⟩ : ByteArray)]) ?_ 1 _ rfl; (with_reducible repeat (first | refine Y6 ?_ _ | refine Y5 ?_ | refine Y7 ?_ _)); refine blk_put (cs := #[.int .i64 0, .int .i64 0, .string (⟨#[]⟩ : ByteArray)]) ?_ 0 _ rfl; (with_reducible repeat (first | refine Y6 ?_ _ | refine Y5 ?_ | refine Y7 ?_ _)); exact BK121.out) Tryz.underlying25 rfl (by kernel_rfl)) rfl ?_
    exact ⟨rfl, V0⟩
   rw [if_pos c35] at H
   have c35b0 : (a0_1 == 4) = true := beq_iff_eq.mpr c35
   have c35b1 : (a0_1 != 4) = false := bne_eq_false_iff_eq.mpr c35
   clear c35
   obtain ⟨ji36, hji36⟩ : ∃ j_ : Int, (mn (a2_2.size : Int) a0_2) = j_ := ⟨_, rfl⟩
   replace H : (if 0 ≤ (ji36) then (if (ji36) ≤ (a2_2.size : Int) then ((cabinetryref01_Bare.f kj23 (a2_2.extract 0 ((ji36) : Int).toNat)).bind fun t122 => ((cabinetryref03_written.f kj23 t122 a1).bind fun t123 => (if t123 = true then ((cabinetryref01_Text.f t122).bind fun bt124 => (some (bt124.1, bt124.2.1, bt124.2.2, 0))) else (some (0, 0, (⟨#[]⟩ : ByteArray), 10))))) else (none)) else (none)) = some (r1, r2, r3, r4) := by first | (rw [hji36] at H; exact H) | (simp only [hji36] at H ⊢; exact H)
   have hji36_ : (if a0_2 < (a2_2.size : Int) then a0_2 else (a2_2.size : Int)) = ji36 := hji36
   by_cases c37 : 0 ≤ (ji36)
   rotate_left
   ·rw [if_neg c37] at H
    exact absurd H (by simp)
   rw [if_pos c37] at H
   have c37b0 := eq_true c37
   have c37b1 : decide (0 ≤ (ji36)) = true := decide_eq_true c37
   clear c37
   by_cases c38 : (ji36) ≤ (a2_2.size : Int)
   rotate_left
   ·rw [if_neg c38] at H
    exact absurd H (by simp)
   rw [if_pos c38] at H
   have c38b0 := eq_true c38
   have c38b1 : decide ((ji36) ≤ (a2_2.size : Int)) = true := decide_eq_true c38
   clear c38
   replace H := Option.bind_eq_some_iff.mp H
   obtain ⟨t122, A390, H⟩ := H
   replace H : ((cabinetryref03_written.f kj23 t122 a1).bind fun t123 => (if t123 = true then ((cabinetryref01_Text.f t122).bind fun bt124 => (some (bt124.1, bt124.2.1, bt124.2.2, 0))) else (some (0, 0, (⟨#[]⟩ : ByteArray), 10)))) = some (r1, r2, r3, r4) := H
   have A39 := Z0 A390
   clear A390
   replace H := Option.bind_eq_some_iff.mp H
   obtain ⟨t123, A400, H⟩ := H
   replace H : (if t123 = true then ((cabinetryref01_Text.f t122).bind fun bt124 => (some (bt124.1, bt124.2.1, bt124.2.2, 0))) else (some (0, 0, (⟨#[]⟩ : ByteArray), 10))) = some (r1, r2, r3, r4) := H
   have A40 := Z0 A400
   clear A400
   by_cases c41 : t123 = true
   rotate_left
   ·replace c41 := Bool.eq_false_iff.mpr c41
    subst c41
    have H1 : (some (0, 0, (⟨#[]⟩ : ByteArray), 10)) = some (r1, r2, r3, r4) := by rw [if_neg (show ¬ (false = true) by decide)] at H; exact H
    clear H
    have H := H1
    clear H1
    simp only [Option.some.injEq, Prod.mk.injEq] at H
    obtain ⟨rfl, rfl, rfl, rfl⟩ := H
    have hnb50 := NB120_119.out
    have hnc50 := NB119_120.out
    have hnb51 := NB120_121.out
    have hnc51 := NB121_120.out
    obtain ⟨hcz52_0, hcz52_1, hcz52_2⟩ := bc3 BK120.out
    obtain ⟨hfz52_0, hfz52_1, hfz52_2⟩ := bf3 BK120.out
    have hnb53 := NB119_121.out
    have hnc53 := NB121_119.out
    obtain ⟨hcz54_0, hcz54_1, hcz54_2, hcz54_3⟩ := bc4 BK119.out
    obtain ⟨hfz54_0, hfz54_1, hfz54_2, hfz54_3⟩ := bf4 BK119.out
    go_wp2_with (first | ((with_reducible refine Z5 (f := 103) rfl ?_); refine goesL_ (some 39) rfl rfl Tryz.func103 (by kernel_rfl) rfl #[.string (a2_2.extract 0 ((ji36) : Int).toNat)] rfl (by (try simp only [List.map_toArray, List.map_cons, List.map_nil]); first | done | (simp only [hji36]; rfl) | rfl | (simp only [List.length_drop, List.length_take]; rfl)) ?_; (with_reducible refine (cabinetryref01_Bare.calls kj23 (a2_2.extract 0 ((ji36) : Int).toNat) t122 _ A39.out).mono ?_); rintro e w' ⟨rfl, ⟨nd, rfl⟩⟩; refine ⟨_, rfl, ?_⟩; (try (rw [drewN_self wc]; generalize hq_ : World.drewN wc _ = wc; have n0_ : Aside0 (wc.heap[gb119]? = some (.cells #[.string a0_0, .int .i64 a0_1, .int .i64 a0_2, .bool a0_3] 23 (0, 0))) := ⟨by rw [← hq_]; exact BK119.out⟩; have n1_ : Aside0 (wc.heap[gb120]? = some (.cells #[.int .i64 a2_0, .int .i64 a2_1, .string a2_2] 25 (0, 0))) := ⟨by rw [← hq_]; exact BK120.out⟩; have n2_ : Aside0 (wc.heap[gb121]? = some (.cells #[.int .i64 0, .int .i64 0, .string (⟨#[]⟩ : ByteArray)] 25 (0, 0))) := ⟨by rw [← hq_]; exact BK121.out⟩; have n3_ : Aside0 (Below w.heap.size w wc) := ⟨by rw [← hq_]; exact V0⟩; clear BK119 BK120 BK121 HB hq_; have BK119 := n0_; have BK120 := n1_; have BK121 := n2_; have HB := n3_; clear n0_ n1_ n2_ n3_))) | ((with_reducible refine Z5 (f := 104) rfl ?_); refine gl Tryz.func104 (cabinetryref03_written.calls kj23 t122 a1 false _ A40.out) ?_; rintro e w' ⟨rfl, ⟨nd, rfl⟩⟩; refine ⟨_, rfl, ?_⟩; (try (rw [drewN_self wc]; generalize hq_ : World.drewN wc _ = wc; have n0_ : Aside0 (wc.heap[gb119]? = some (.cells #[.string a0_0, .int .i64 a0_1, .int .i64 a0_2, .bool a0_3] 23 (0, 0))) := ⟨by rw [← hq_]; exact BK119.out⟩; have n1_ : Aside0 (wc.heap[gb120]? = some (.cells #[.int .i64 a2_0, .int .i64 a2_1, .string a2_2] 25 (0, 0))) := ⟨by rw [← hq_]; exact BK120.out⟩; have n2_ : Aside0 (wc.heap[gb121]? = some (.cells #[.int .i64 0, .int .i64 0, .string (⟨#[]⟩ : ByteArray)] 25 (0, 0))) := ⟨by rw [← hq_]; exact BK121.out⟩; have n3_ : Aside0 (Below w.heap.size w wc) := ⟨by rw [← hq_]; exact V0⟩; clear BK119 BK120 BK121 HB hq_; have BK119 := n0_; have BK120 := n1_; have BK121 := n2_; have HB := n3_; clear n0_ n1_ n2_ n3_)); obtain ⟨hcz55_0, hcz55_1, hcz55_2⟩ := bc3 BK121.out; obtain ⟨hfz55_0, hfz55_1, hfz55_2⟩ := bf3 BK121.out))
    refine bodyPost_ret (results_ct rfl _ _ gb121 25 #[.int .i64 0, .int .i64 0, .string (⟨#[]⟩ : ByteArray)] (0, 0) _ rfl (by (with_reducible repeat (first | refine Y6 ?_ _ | refine Y5 ?_ | refine Y7 ?_ _)); refine blk_put (cs := #[.int .i64 0, .int .i64 0, .string (⟨#[]⟩ : ByteArray)]) ?_ 2 _ rfl; (with_reducible repeat (first | refine Y6 ?_ _ | refine Y5 ?_ | refine Y7 ?_ _)); refine blk_put (cs := #[.int .i64 0, .int .i64 0, .string (⟨#[]⟩ : ByteArray)]) ?_ 1 _ rfl; (with_reducible repeat (first | refine Y6 ?_ _ | refine Y5 ?_ | refine Y7 ?_ _)); refine blk_put (cs := #[.int .i64 0, .int .i64 0, .string (⟨#[]⟩ : ByteArray)]) ?_ 0 _ rfl; (with_reducible repeat (first | refine Y6 ?_ _ | refine Y5 ?_ | refine Y7 ?_ _)); exact BK121.out) Tryz.underlying25 rfl (by kernel_rfl)) rfl ?_
    exact ⟨by first | rfl | (simp [errW_none, errW_some] <;> rfl) | (simp only [← hji36]; first | rfl | (simp [errW_none, errW_some] <;> rfl)) | (simp [*, errW_none, errW_some] <;> rfl), V0⟩
   subst c41
   have H1 : ((cabinetryref01_Text.f t122).bind fun bt124 => (some (bt124.1, bt124.2.1, bt124.2.2, 0))) = some (r1, r2, r3, r4) := by rw [if_pos rfl] at H; exact H
   clear H
   have H := H1
   clear H1
   replace H := Option.bind_eq_some_iff.mp H
   obtain ⟨⟨t124, t125, t126⟩, A420, H⟩ := H
   replace H : (some (t124, t125, t126, 0)) = some (r1, r2, r3, r4) := H
   have A42 := Z0 A420
   clear A420
   simp only [Option.some.injEq, Prod.mk.injEq] at H
   obtain ⟨rfl, rfl, rfl, rfl⟩ := H
   have hnb43 := NB120_119.out
   have hnc43 := NB119_120.out
   have hnb44 := NB120_121.out
   have hnc44 := NB121_120.out
   obtain ⟨hcz45_0, hcz45_1, hcz45_2⟩ := bc3 BK120.out
   obtain ⟨hfz45_0, hfz45_1, hfz45_2⟩ := bf3 BK120.out
   have hnb46 := NB119_121.out
   have hnc46 := NB121_119.out
   obtain ⟨hcz47_0, hcz47_1, hcz47_2, hcz47_3⟩ := bc4 BK119.out
   obtain ⟨hfz47_0, hfz47_1, hfz47_2, hfz47_3⟩ := bf4 BK119.out
   go_wp2_with (first | ((with_reducible refine Z5 (f := 103) rfl ?_); refine goesL_ (some 39) rfl rfl Tryz.func103 (by kernel_rfl) rfl #[.string (a2_2.extract 0 ((ji36) : Int).toNat)] rfl (by (try simp only [List.map_toArray, List.map_cons, List.map_nil]); first | done | (simp only [hji36]; rfl) | rfl | (simp only [List.length_drop, List.length_take]; rfl)) ?_; (with_reducible refine (cabinetryref01_Bare.calls kj23 (a2_2.extract 0 ((ji36) : Int).toNat) t122 _ A39.out).mono ?_); rintro e w' ⟨rfl, ⟨nd, rfl⟩⟩; refine ⟨_, rfl, ?_⟩; (try (rw [drewN_self wc]; generalize hq_ : World.drewN wc _ = wc; have n0_ : Aside0 (wc.heap[gb119]? = some (.cells #[.string a0_0, .int .i64 a0_1, .int .i64 a0_2, .bool a0_3] 23 (0, 0))) := ⟨by rw [← hq_]; exact BK119.out⟩; have n1_ : Aside0 (wc.heap[gb120]? = some (.cells #[.int .i64 a2_0, .int .i64 a2_1, .string a2_2] 25 (0, 0))) := ⟨by rw [← hq_]; exact BK120.out⟩; have n2_ : Aside0 (wc.heap[gb121]? = some (.cells #[.int .i64 0, .int .i64 0, .string (⟨#[]⟩ : ByteArray)] 25 (0, 0))) := ⟨by rw [← hq_]; exact BK121.out⟩; have n3_ : Aside0 (Below w.heap.size w wc) := ⟨by rw [← hq_]; exact V0⟩; clear BK119 BK120 BK121 HB hq_; have BK119 := n0_; have BK120 := n1_; have BK121 := n2_; have HB := n3_; clear n0_ n1_ n2_ n3_))) | ((with_reducible refine Z5 (f := 104) rfl ?_); refine gl Tryz.func104 (cabinetryref03_written.calls kj23 t122 a1 true _ A40.out) ?_; rintro e w' ⟨rfl, ⟨nd, rfl⟩⟩; refine ⟨_, rfl, ?_⟩; (try (rw [drewN_self wc]; generalize hq_ : World.drewN wc _ = wc; have n0_ : Aside0 (wc.heap[gb119]? = some (.cells #[.string a0_0, .int .i64 a0_1, .int .i64 a0_2, .bool a0_3] 23 (0, 0))) := ⟨by rw [← hq_]; exact BK119.out⟩; have n1_ : Aside0 (wc.heap[gb120]? = some (.cells #[.int .i64 a2_0, .int .i64 a2_1, .string a2_2] 25 (0, 0))) := ⟨by rw [← hq_]; exact BK120.out⟩; have n2_ : Aside0 (wc.heap[gb121]? = some (.cells #[.int .i64 0, .int .i64 0, .string (⟨#[]⟩ : ByteArray)] 25 (0, 0))) := ⟨by rw [← hq_]; exact BK121.out⟩; have n3_ : Aside0 (Below w.heap.size w wc) := ⟨by rw [← hq_]; exact V0⟩; clear BK119 BK120 BK121 HB hq_; have BK119 := n0_; have BK120 := n1_; have BK121 := n2_; have HB := n3_; clear n0_ n1_ n2_ n3_))) | ((with_reducible refine Z5 (f := 46) rfl ?_); refine gl Tryz.func46 (cabinetryref01_Text.calls t122 t124 t125 t126 _ A42.out) ?_; rintro e w48 ⟨rfl, hb⟩; refine ⟨_, rfl, ?_⟩; replace BK119 := Z0 (Z2 BK119.out hb); replace BK120 := Z0 (Z2 BK120.out hb); replace BK121 := Z0 (Z2 BK121.out hb); replace HB := Z0 (Z1 V0 hb); obtain ⟨hcz49_0, hcz49_1, hcz49_2⟩ := bc3 BK121.out; obtain ⟨hfz49_0, hfz49_1, hfz49_2⟩ := bf3 BK121.out))
   refine bodyPost_ret (results_ct rfl _ _ gb121 25 #[.int .i64 t124, .int .i64 t125, .string t126] (0, 0) _ rfl (by (with_reducible repeat (first | refine Y6 ?_ _ | refine Y5 ?_ | refine Y7 ?_ _)); refine blk_put (cs := #[.int .i64 t124, .int .i64 t125, .string (⟨#[]⟩ : ByteArray)]) ?_ 2 _ rfl; (with_reducible repeat (first | refine Y6 ?_ _ | refine Y5 ?_ | refine Y7 ?_ _)); refine blk_put (cs := #[.int .i64 t124, .int .i64 0, .string (⟨#[]⟩ : ByteArray)]) ?_ 1 _ rfl; (with_reducible repeat (first | refine Y6 ?_ _ | refine Y5 ?_ | refine Y7 ?_ _)); refine blk_put (cs := #[.int .i64 0, .int .i64 0, .string (⟨#[]⟩ : ByteArray)]) ?_ 0 _ rfl; (with_reducible repeat (first | refine Y6 ?_ _ | refine Y5 ?_ | refine Y7 ?_ _)); exact BK121.out) Tryz.underlying25 rfl (by kernel_rfl)) rfl ?_
   exact ⟨by first | rfl | (simp [errW_none, errW_some] <;> rfl) | (simp only [← hji36]; first | rfl | (simp [errW_none, errW_some] <;> rfl)) | (simp [*, errW_none, errW_some] <;> rfl), V0⟩
def cabinetryref03_Fit.j0 : Nat → Int → Bool → ByteArray → Int → Int → Bool → Int → Int → ByteArray → Option (Int × Int × ByteArray × Int)
 | 0, _, _, _, _, _, _, _, _, _ => none
 | k + 1, x1, x16, x129000, x129001, x129002, x129003, x130000, x130001, x130002 => if x16 = true then (some (0, 0, (⟨#[]⟩ : ByteArray), 1)) else ((cabinetryref01_Validate.f x130000 x130001 x130002).bind fun t133 => (if t133 = 0 then ((cabinetryref03_Fitted.f k x129000 x129001 x129002 x129003 x1 x130000 x130001 x130002).bind fun bt134 => (some (bt134.1, bt134.2.1, bt134.2.2.1, bt134.2.2.2))) else (some (0, 0, (⟨#[]⟩ : ByteArray), t133))))
def cabinetryref03_Fit.f (k : Nat) (a0_0 : ByteArray) (a0_1 : Int) (a0_2 : Int) (a0_3 : Bool) (a1 : Int) (a2_0 : Int) (a2_1 : Int) (a2_2 : ByteArray) : Option (Int × Int × ByteArray × Int) := (cabinetryref03_isField.f k a0_0 a0_1 a0_2 a0_3).bind fun t131 => (if t131 = true then ((cabinetryref03_isPage.f a1).bind fun t132 => (cabinetryref03_Fit.j0 k a1 (!t132) a0_0 a0_1 a0_2 a0_3 a2_0 a2_1 a2_2)) else (cabinetryref03_Fit.j0 k a1 true a0_0 a0_1 a0_2 a0_3 a2_0 a2_1 a2_2))
theorem cabinetryref03_Fit.mono_l : ∀ k, (∀ y0 y1 y2 y3 y4 y5 y6 y7 y8, LeO (cabinetryref03_Fit.j0 k y0 y1 y2 y3 y4 y5 y6 y7 y8) (cabinetryref03_Fit.j0 (k + 1) y0 y1 y2 y3 y4 y5 y6 y7 y8))
 | 0 => fun _ _ _ _ _ _ _ _ _ r h => by simp [cabinetryref03_Fit.j0] at h
 | k + 1 => by
  have ih0 := cabinetryref03_Fit.mono_l k
  ·intro y0 y1 y2 y3 y4 y5 y6 y7 y8
   unfold cabinetryref03_Fit.j0
   repeat' first
   | (with_reducible exact ih0 _ _ _ _ _ _ _ _ _)
   | (with_reducible exact cabinetryref03_Fitted.mono _ _ _ _ _ _ _ _ _)
   | (with_reducible exact cabinetryref03_isField.mono _ _ _ _ _)
   | (with_reducible exact LeO.refl _)
   | (with_reducible exact LeO.none _)
   | (with_reducible refine LeO.ite ?_ ?_)
   | (with_reducible refine LeO.bind ?_ (fun _ => ?_))
theorem cabinetryref03_Fit.mono : ∀ a0 a1 a2 a3 a4 a5 a6 a7 k, LeO (cabinetryref03_Fit.f k a0 a1 a2 a3 a4 a5 a6 a7) (cabinetryref03_Fit.f (k + 1) a0 a1 a2 a3 a4 a5 a6 a7) := by
 intro a0 a1 a2 a3 a4 a5 a6 a7 k
 have ih0 := cabinetryref03_Fit.mono_l k
 unfold cabinetryref03_Fit.f
 repeat' first
   | (with_reducible exact ih0 _ _ _ _ _ _ _ _ _)
   | (with_reducible exact cabinetryref03_Fitted.mono _ _ _ _ _ _ _ _ _)
   | (with_reducible exact cabinetryref03_isField.mono _ _ _ _ _)
   | (with_reducible exact LeO.refl _)
   | (with_reducible exact LeO.none _)
   | (with_reducible refine LeO.ite ?_ ?_)
   | (with_reducible refine LeO.bind ?_ (fun _ => ?_))
theorem cabinetryref03_Fit.calls (k : Nat) (a0_0 : ByteArray) (a0_1 : Int) (a0_2 : Int) (a0_3 : Bool) (a1 : Int) (a2_0 : Int) (a2_1 : Int) (a2_2 : ByteArray) (r1 : Int) (r2 : Int) (r3 : ByteArray) (r4 : Int) (w : World) (h : cabinetryref03_Fit.f k a0_0 a0_1 a0_2 a0_3 a1 a2_0 a2_1 a2_2 = some (r1, r2, r3, r4)) :
  Calls Tryz.prog 14 #[.agg #[.string a0_0, .int .i64 a0_1, .int .i64 a0_2, .bool a0_3], .int .i64 a1, .agg #[.int .i64 a2_0, .int .i64 a2_1, .string a2_2]] w fun e w' => e = .returned (.tuple #[.agg #[.int .i64 r1, .int .i64 r2, .string r3], .int .i64 r4]) ∧ Below w.heap.size w w' := by
 have hu23 := Tryz.underlying23
 have hu25 := Tryz.underlying25
 have HB := Z0 (Below.refl w.heap.size w)
 unfold cabinetryref03_Fit.f at h
 have H := h
 clear h
 have HC4 := Z0 H
 clear H
 go_enter Tryz.func14, Tryz.ntmps14
 go_upto_region 1 with (first | ((with_reducible refine Z9 (N := 3) rfl ?_); refine bx (N := 3) (cs := #[.string a0_0, .int .i64 a0_1, .int .i64 a0_2, .bool a0_3]) (t := 23) ?_; intro gb128 hg w5 hbox hb; have BK128 := Z0 hbox; have GE128 := ge hg HB.out; replace HB := Z0 (Z1 HB.out hb); clear hb hbox hg) | ((with_reducible refine Z9 (N := 5) rfl ?_); refine bx (N := 5) (cs := #[.int .i64 a2_0, .int .i64 a2_1, .string a2_2]) (t := 25) ?_; intro gb129 hg w6 hbox hb; have BK129 := Z0 hbox; have GE129 := ge hg HB.out; replace HB := Z0 (Z1 HB.out hb); obtain ⟨NB128_129, NB129_128⟩ := nb hg BK128.out; replace BK128 := Z0 (Z2 BK128.out hb); clear hb hbox hg) | ((with_reducible refine Z9 (N := 6) rfl ?_); refine bx (N := 6) (cs := #[.int .i64 0, .int .i64 0, .string (⟨#[]⟩ : ByteArray)]) (t := 25) ?_; intro gb130 hg w7 hbox hb; have BK130 := Z0 hbox; have GE130 := ge hg HB.out; replace HB := Z0 (Z1 HB.out hb); obtain ⟨NB128_130, NB130_128⟩ := nb hg BK128.out; replace BK128 := Z0 (Z2 BK128.out hb); obtain ⟨NB129_130, NB130_129⟩ := nb hg BK129.out; replace BK129 := Z0 (Z2 BK129.out hb); clear hb hbox hg))
 (try simp only [Act.put, Z3, Z6, Z7])
 go_cut [16] (fun v16 wc => ∃ (kq : Nat) (x16_3 : Bool), v16 = .bool x16_3 ∧ Aside0 (cabinetryref03_Fit.j0 kq a1 x16_3 a0_0 a0_1 a0_2 a0_3 a2_0 a2_1 a2_2 = some (r1, r2, r3, r4)) ∧ Aside0 (kq ≤ k) ∧ Aside0 (wc.heap[gb128]? = some (.cells #[.string a0_0, .int .i64 a0_1, .int .i64 a0_2, .bool a0_3] 23 (0, 0))) ∧ Aside0 (wc.heap[gb129]? = some (.cells #[.int .i64 a2_0, .int .i64 a2_1, .string a2_2] 25 (0, 0))) ∧ Aside0 (wc.heap[gb130]? = some (.cells #[.int .i64 0, .int .i64 0, .string (⟨#[]⟩ : ByteArray)] 25 (0, 0))) ∧ Aside0 (Below w.heap.size w wc))
 case first =>
  have H := HC4.out
  clear HC4
  replace H := Option.bind_eq_some_iff.mp H
  obtain ⟨t131, A80, H⟩ := H
  replace H : (if t131 = true then ((cabinetryref03_isPage.f a1).bind fun t132 => (cabinetryref03_Fit.j0 k a1 (!t132) a0_0 a0_1 a0_2 a0_3 a2_0 a2_1 a2_2)) else (cabinetryref03_Fit.j0 k a1 true a0_0 a0_1 a0_2 a0_3 a2_0 a2_1 a2_2)) = some (r1, r2, r3, r4) := H
  have A8 := Z0 A80
  clear A80
  by_cases c9 : t131 = true
  rotate_left
  ·replace c9 := Bool.eq_false_iff.mpr c9
   subst c9
   have H1 : (cabinetryref03_Fit.j0 k a1 true a0_0 a0_1 a0_2 a0_3 a2_0 a2_1 a2_2) = some (r1, r2, r3, r4) := by rw [if_neg (show ¬ (false = true) by decide)] at H; exact H
   clear H
   have H := H1
   clear H1
   have H' := Z0 H
   clear H
   have hnb15 := NB128_129.out
   have hnc15 := NB129_128.out
   have hnb16 := NB128_130.out
   have hnc16 := NB130_128.out
   obtain ⟨hcz17_0, hcz17_1, hcz17_2, hcz17_3⟩ := bc4 BK128.out
   obtain ⟨hfz17_0, hfz17_1, hfz17_2, hfz17_3⟩ := bf4 BK128.out
   go_wp2_with (first | ((with_reducible refine Z5 (f := 55) rfl ?_); refine gl Tryz.func55 (cabinetryref03_isField.calls k a0_0 a0_1 a0_2 a0_3 false _ A8.out) ?_; rintro e w18 ⟨rfl, hb⟩; refine ⟨_, rfl, ?_⟩; replace BK128 := Z0 (Z2 BK128.out hb); replace BK129 := Z0 (Z2 BK129.out hb); replace BK130 := Z0 (Z2 BK130.out hb); replace HB := Z0 (Z1 HB.out hb)))
   go_meet
   case rel => exact ⟨_, (true), V2, H', ⟨by first | omega | exact Nat.le_refl _⟩, ⟨kb BK128.out⟩, ⟨kb BK129.out⟩, ⟨kb BK130.out⟩, ⟨V0⟩⟩
  subst c9
  have H1 : ((cabinetryref03_isPage.f a1).bind fun t132 => (cabinetryref03_Fit.j0 k a1 (!t132) a0_0 a0_1 a0_2 a0_3 a2_0 a2_1 a2_2)) = some (r1, r2, r3, r4) := by rw [if_pos rfl] at H; exact H
  clear H
  have H := H1
  clear H1
  replace H := Option.bind_eq_some_iff.mp H
  obtain ⟨t132, A100, H⟩ := H
  replace H : (cabinetryref03_Fit.j0 k a1 (!t132) a0_0 a0_1 a0_2 a0_3 a2_0 a2_1 a2_2) = some (r1, r2, r3, r4) := H
  have A10 := Z0 A100
  clear A100
  have H' := Z0 H
  clear H
  have hnb11 := NB128_129.out
  have hnc11 := NB129_128.out
  have hnb12 := NB128_130.out
  have hnc12 := NB130_128.out
  obtain ⟨hcz13_0, hcz13_1, hcz13_2, hcz13_3⟩ := bc4 BK128.out
  obtain ⟨hfz13_0, hfz13_1, hfz13_2, hfz13_3⟩ := bf4 BK128.out
  go_wp2_with (first | ((with_reducible refine Z5 (f := 55) rfl ?_); refine gl Tryz.func55 (cabinetryref03_isField.calls k a0_0 a0_1 a0_2 a0_3 true _ A8.out) ?_; rintro e w14 ⟨rfl, hb⟩; refine ⟨_, rfl, ?_⟩; replace BK128 := Z0 (Z2 BK128.out hb); replace BK129 := Z0 (Z2 BK129.out hb); replace BK130 := Z0 (Z2 BK130.out hb); replace HB := Z0 (Z1 HB.out hb)) | (go_at_call 56; (with_reducible refine (cabinetryref03_isPage.calls a1 t132 _ A10.out).mono ?_); rintro e w' ⟨rfl, ⟨nd, rfl⟩⟩))
  go_meet
  case rel => exact ⟨_, (!t132), V2, H', ⟨by first | omega | exact Nat.le_refl _⟩, ⟨kb BK128.out⟩, ⟨kb BK129.out⟩, ⟨kb BK130.out⟩, ⟨V0⟩⟩
 case rest =>
  clear HC4
  obtain ⟨kq, x16_3, rfl, HA, HJ3, BK128, BK129, BK130, HB⟩ := hcut
  cases kq with
  | zero => exact absurd HA.out (by simp [cabinetryref03_Fit.j0])
  | succ kj3 =>
   have H := HA.out
   clear HA
   simp only [cabinetryref03_Fit.j0] at H
   by_cases c19 : x16_3 = true
   ·subst c19
    have H1 : (some (0, 0, (⟨#[]⟩ : ByteArray), 1)) = some (r1, r2, r3, r4) := by rw [if_pos rfl] at H; exact H
    clear H
    have H := H1
    clear H1
    simp only [Option.some.injEq, Prod.mk.injEq] at H
    obtain ⟨rfl, rfl, rfl, rfl⟩ := H
    have hnb20 := NB130_128.out
    have hnc20 := NB128_130.out
    have hnb21 := NB130_129.out
    have hnc21 := NB129_130.out
    obtain ⟨hcz22_0, hcz22_1, hcz22_2⟩ := bc3 BK130.out
    obtain ⟨hfz22_0, hfz22_1, hfz22_2⟩ := bf3 BK130.out
    go_wp2
    refine bodyPost_ret (results_ct rfl _ _ gb130 25 #[.int .i64 0, .int .i64 0, .string (⟨#[]⟩ : ByteArray)] (0, 0) _ rfl (by (with_reducible repeat (first | refine Y6 ?_ _ | refine Y5 ?_ | refine Y7 ?_ _)); refine blk_put (cs := #[.int .i64 0, .int .i64 0, .string (⟨#[]⟩ : ByteArray)]) ?_ 2 _ rfl; (with_reducible repeat (first | refine Y6 ?_ _ | refine Y5 ?_ | refine Y7 ?_ _)); refine blk_put (cs := #[.int .i64 0, .int .i64 0, .string (⟨#[]⟩ : ByteArray)]) ?_ 1 _ rfl; (with_reducible repeat (first | refine Y6 ?_ _ | refine Y5 ?_ | refine Y7 ?_ _)); refine blk_put (cs := #[.int .i64 0, .int .i64 0, .string (⟨#[]⟩ : ByteArray)]) ?_ 0 _ rfl; (with_reducible repeat (first | refine Y6 ?_ _ | refine Y5 ?_ | refine Y7 ?_ _)); exact BK130.out) Tryz.underlying25 rfl (by kernel_rfl)) rfl ?_
    exact ⟨rfl, V0⟩
   replace c19 := Bool.eq_false_iff.mpr c19
   subst c19
   have H1 : ((cabinetryref01_Validate.f a2_0 a2_1 a2_2).bind fun t133 => (if t133 = 0 then ((cabinetryref03_Fitted.f kj3 a0_0 a0_1 a0_2 a0_3 a1 a2_0 a2_1 a2_2).bind fun bt134 => (some (bt134.1, bt134.2.1, bt134.2.2.1, bt134.2.2.2))) else (some (0, 0, (⟨#[]⟩ : ByteArray), t133)))) = some (r1, r2, r3, r4) := by rw [if_neg (show ¬ (false = true) by decide)] at H; exact H
   clear H
   have H := H1
   clear H1
   replace H := Option.bind_eq_some_iff.mp H
   obtain ⟨t133, A230, H⟩ := H
   replace H : (if t133 = 0 then ((cabinetryref03_Fitted.f kj3 a0_0 a0_1 a0_2 a0_3 a1 a2_0 a2_1 a2_2).bind fun bt134 => (some (bt134.1, bt134.2.1, bt134.2.2.1, bt134.2.2.2))) else (some (0, 0, (⟨#[]⟩ : ByteArray), t133))) = some (r1, r2, r3, r4) := H
   have A23 := Z0 A230
   clear A230
   by_cases c24 : t133 = 0
   rotate_left
   ·rw [if_neg c24] at H
    have c24b0 : (t133 == 0) = false := beq_eq_false_iff_ne.mpr c24
    have c24b1 : (t133 != 0) = true := bne_iff_ne.mpr c24
    simp only [Option.some.injEq, Prod.mk.injEq] at H
    obtain ⟨rfl, rfl, rfl, rfl⟩ := H
    have hnb35 := NB129_128.out
    have hnc35 := NB128_129.out
    have hnb36 := NB129_130.out
    have hnc36 := NB130_129.out
    obtain ⟨hcz37_0, hcz37_1, hcz37_2⟩ := bc3 BK129.out
    obtain ⟨hfz37_0, hfz37_1, hfz37_2⟩ := bf3 BK129.out
    go_wp2_with (first | ((with_reducible refine Z5 (f := 57) rfl ?_); refine gl Tryz.func57 (cabinetryref01_Validate.calls a2_0 a2_1 a2_2 t133 _ A23.out) ?_; rintro e w38 ⟨rfl, hb⟩; refine ⟨_, rfl, ?_⟩; replace BK128 := Z0 (Z2 BK128.out hb); replace BK129 := Z0 (Z2 BK129.out hb); replace BK130 := Z0 (Z2 BK130.out hb); replace HB := Z0 (Z1 HB.out hb); have hnb39 := NB130_128.out; have hnc39 := NB128_130.out; obtain ⟨hcz40_0, hcz40_1, hcz40_2⟩ := bc3 BK130.out; obtain ⟨hfz40_0, hfz40_1, hfz40_2⟩ := bf3 BK130.out))
    refine bodyPost_ret (results_ct rfl _ _ gb130 25 #[.int .i64 0, .int .i64 0, .string (⟨#[]⟩ : ByteArray)] (0, 0) _ rfl (by (with_reducible repeat (first | refine Y6 ?_ _ | refine Y5 ?_ | refine Y7 ?_ _)); refine blk_put (cs := #[.int .i64 0, .int .i64 0, .string (⟨#[]⟩ : ByteArray)]) ?_ 2 _ rfl; (with_reducible repeat (first | refine Y6 ?_ _ | refine Y5 ?_ | refine Y7 ?_ _)); refine blk_put (cs := #[.int .i64 0, .int .i64 0, .string (⟨#[]⟩ : ByteArray)]) ?_ 1 _ rfl; (with_reducible repeat (first | refine Y6 ?_ _ | refine Y5 ?_ | refine Y7 ?_ _)); refine blk_put (cs := #[.int .i64 0, .int .i64 0, .string (⟨#[]⟩ : ByteArray)]) ?_ 0 _ rfl; (with_reducible repeat (first | refine Y6 ?_ _ | refine Y5 ?_ | refine Y7 ?_ _)); exact BK130.out) Tryz.underlying25 rfl (by kernel_rfl)) rfl ?_
    exact ⟨rfl, V0⟩
   rw [if_pos c24] at H
   have c24b0 : (t133 == 0) = true := beq_iff_eq.mpr c24
   have c24b1 : (t133 != 0) = false := bne_eq_false_iff_eq.mpr c24
   clear c24
   replace H := Option.bind_eq_some_iff.mp H
   obtain ⟨⟨t134, t135, t136, t137⟩, A250, H⟩ := H
   replace H : (some (t134, t135, t136, t137)) = some (r1, r2, r3, r4) := H
   have A25 := Z0 A250
   clear A250
   simp only [Option.some.injEq, Prod.mk.injEq] at H
   obtain ⟨rfl, rfl, rfl, rfl⟩ := H
   have hnb26 := NB129_128.out
   have hnc26 := NB128_129.out
   have hnb27 := NB129_130.out
   have hnc27 := NB130_129.out
   obtain ⟨hcz28_0, hcz28_1, hcz28_2⟩ := bc3 BK129.out
   obtain ⟨hfz28_0, hfz28_1, hfz28_2⟩ := bf3 BK129.out
   go_wp2_with (first | ((with_reducible refine Z5 (f := 57) rfl ?_); refine gl Tryz.func57 (cabinetryref01_Validate.calls a2_0 a2_1 a2_2 t133 _ A23.out) ?_; rintro e w29 ⟨rfl, hb⟩; refine ⟨_, rfl, ?_⟩; replace BK128 := Z0 (Z2 BK128.out hb); replace BK129 := Z0 (Z2 BK129.out hb); replace BK130 := Z0 (Z2 BK130.out hb); replace HB := Z0 (Z1 HB.out hb); have hnb30 := NB128_130.out; have hnc30 := NB130_128.out; obtain ⟨hcz31_0, hcz31_1, hcz31_2, hcz31_3⟩ := bc4 BK128.out; obtain ⟨hfz31_0, hfz31_1, hfz31_2, hfz31_3⟩ := bf4 BK128.out; obtain ⟨hcz32_0, hcz32_1, hcz32_2⟩ := bc3 BK129.out; obtain ⟨hfz32_0, hfz32_1, hfz32_2⟩ := bf3 BK129.out) | ((with_reducible refine Z5 (f := 58) rfl ?_); refine gl Tryz.func58 (cabinetryref03_Fitted.calls kj3 a0_0 a0_1 a0_2 a0_3 a1 a2_0 a2_1 a2_2 t134 t135 t136 t137 _ A25.out) ?_; rintro e w33 ⟨rfl, hb⟩; refine ⟨_, rfl, ?_⟩; replace BK128 := Z0 (Z2 BK128.out hb); replace BK129 := Z0 (Z2 BK129.out hb); replace BK130 := Z0 (Z2 BK130.out hb); replace HB := Z0 (Z1 HB.out hb); obtain ⟨hcz34_0, hcz34_1, hcz34_2⟩ := bc3 BK130.out; obtain ⟨hfz34_0, hfz34_1, hfz34_2⟩ := bf3 BK130.out))
   refine bodyPost_ret (results_ct rfl _ _ gb130 25 #[.int .i64 t134, .int .i64 t135, .string t136] (0, 0) _ rfl (by (with_reducible repeat (first | refine Y6 ?_ _ | refine Y5 ?_ | refine Y7 ?_ _)); refine blk_put (cs := #[.int .i64 t134, .int .i64 t135, .string (⟨#[]⟩ : ByteArray)]) ?_ 2 _ rfl; (with_reducible repeat (first | refine Y6 ?_ _ | refine Y5 ?_ | refine Y7 ?_ _)); refine blk_put (cs := #[.int .i64 t134, .int .i64 0, .string (⟨#[]⟩ : ByteArray)]) ?_ 1 _ rfl; (with_reducible repeat (first | refine Y6 ?_ _ | refine Y5 ?_ | refine Y7 ?_ _)); refine blk_put (cs := #[.int .i64 0, .int .i64 0, .string (⟨#[]⟩ : ByteArray)]) ?_ 0 _ rfl; (with_reducible repeat (first | refine Y6 ?_ _ | refine Y5 ?_ | refine Y7 ?_ _)); exact BK130.out) Tryz.underlying25 rfl (by kernel_rfl)) rfl ?_
   exact ⟨rfl, V0⟩
def cabinetryref01_SameValue.j0 : Nat → Bool → Option (Bool)
 | 0, _ => none
 | k + 1, x4 => some x4
def cabinetryref01_SameValue.f (k : Nat) (a0_0 : Int) (a0_1 : Int) (a0_2 : ByteArray) (a1_0 : Int) (a1_1 : Int) (a1_2 : ByteArray) : Option (Bool) := if a0_0 = a1_0 then (if a0_1 = a1_1 then (cabinetryref01_SameValue.j0 k (a0_2.toList == a1_2.toList)) else (cabinetryref01_SameValue.j0 k false)) else (cabinetryref01_SameValue.j0 k false)
theorem cabinetryref01_SameValue.mono_l : ∀ k, (∀ y0, LeO (cabinetryref01_SameValue.j0 k y0) (cabinetryref01_SameValue.j0 (k + 1) y0))
 | 0 => fun _ r h => by simp [cabinetryref01_SameValue.j0] at h
 | k + 1 => by
  have ih0 := cabinetryref01_SameValue.mono_l k
  ·intro y0
   unfold cabinetryref01_SameValue.j0
   repeat' first
   | (with_reducible exact ih0 _)
   | (with_reducible exact LeO.refl _)
   | (with_reducible exact LeO.none _)
   | (with_reducible refine LeO.ite ?_ ?_)
   | (with_reducible refine LeO.bind ?_ (fun _ => ?_))
theorem cabinetryref01_SameValue.mono : ∀ a0 a1 a2 a3 a4 a5 k, LeO (cabinetryref01_SameValue.f k a0 a1 a2 a3 a4 a5) (cabinetryref01_SameValue.f (k + 1) a0 a1 a2 a3 a4 a5) := by
 intro a0 a1 a2 a3 a4 a5 k
 have ih0 := cabinetryref01_SameValue.mono_l k
 unfold cabinetryref01_SameValue.f
 repeat' first
   | (with_reducible exact ih0 _)
   | (with_reducible exact LeO.refl _)
   | (with_reducible exact LeO.none _)
   | (with_reducible refine LeO.ite ?_ ?_)
   | (with_reducible refine LeO.bind ?_ (fun _ => ?_))
theorem cabinetryref01_SameValue.calls (k : Nat) (a0_0 : Int) (a0_1 : Int) (a0_2 : ByteArray) (a1_0 : Int) (a1_1 : Int) (a1_2 : ByteArray) (r : Bool) (w : World) (h : cabinetryref01_SameValue.f k a0_0 a0_1 a0_2 a1_0 a1_1 a1_2 = some r) :
  Calls Tryz.prog 15 #[.agg #[.int .i64 a0_0, .int .i64 a0_1, .string a0_2], .agg #[.int .i64 a1_0, .int .i64 a1_1, .string a1_2]] w fun e w' => e = .returned (.bool r) ∧ Below w.heap.size w w' := by
 have hu25 := Tryz.underlying25
 have HB := Z0 (Below.refl w.heap.size w)
 unfold cabinetryref01_SameValue.f at h
 have H := h
 clear h
 have HC3 := Z0 H
 clear H
 go_enter Tryz.func15, Tryz.ntmps15
 go_upto_region 1 with (first | ((with_reducible refine Z9 (N := 2) rfl ?_); refine bx (N := 2) (cs := #[.int .i64 a0_0, .int .i64 a0_1, .string a0_2]) (t := 25) ?_; intro gb138 hg w4 hbox hb; have BK138 := Z0 hbox; have GE138 := ge hg HB.out; replace HB := Z0 (Z1 HB.out hb); clear hb hbox hg) | ((with_reducible refine Z9 (N := 3) rfl ?_); refine bx (N := 3) (cs := #[.int .i64 a1_0, .int .i64 a1_1, .string a1_2]) (t := 25) ?_; intro gb139 hg w5 hbox hb; have BK139 := Z0 hbox; have GE139 := ge hg HB.out; replace HB := Z0 (Z1 HB.out hb); obtain ⟨NB138_139, NB139_138⟩ := nb hg BK138.out; replace BK138 := Z0 (Z2 BK138.out hb); clear hb hbox hg))
 (try simp only [Act.put, Z3, Z6, Z7])
 go_cut [4] (fun v4 wc => ∃ (kq : Nat) (x4_2 : Bool), v4 = .bool x4_2 ∧ Aside0 (cabinetryref01_SameValue.j0 kq x4_2 = some r) ∧ Aside0 (kq ≤ k) ∧ Aside0 (wc.heap[gb138]? = some (.cells #[.int .i64 a0_0, .int .i64 a0_1, .string a0_2] 25 (0, 0))) ∧ Aside0 (wc.heap[gb139]? = some (.cells #[.int .i64 a1_0, .int .i64 a1_1, .string a1_2] 25 (0, 0))) ∧ Aside0 (Below w.heap.size w wc))
 case first =>
  have H := HC3.out
  clear HC3
  by_cases c6 : a0_0 = a1_0
  rotate_left
  ·rw [if_neg c6] at H
   have c6b0 : (a0_0 == a1_0) = false := beq_eq_false_iff_ne.mpr c6
   have c6b1 : (a0_0 != a1_0) = true := bne_iff_ne.mpr c6
   (first | rw [c6b0] | (simp only [i64_w, i32_w]; rw [c6b0]) | skip)
   have H' := Z0 H
   clear H
   have hnb14 := NB138_139.out
   have hnc14 := NB139_138.out
   obtain ⟨hcz15_0, hcz15_1, hcz15_2⟩ := bc3 BK138.out
   obtain ⟨hfz15_0, hfz15_1, hfz15_2⟩ := bf3 BK138.out
   obtain ⟨hcz16_0, hcz16_1, hcz16_2⟩ := bc3 BK139.out
   obtain ⟨hfz16_0, hfz16_1, hfz16_2⟩ := bf3 BK139.out
   go_wp2
   go_meet
   case rel => exact ⟨_, (false), V2, H', ⟨by first | omega | exact Nat.le_refl _⟩, ⟨bk⟩, ⟨bk⟩, ⟨V0⟩⟩
  rw [if_pos c6] at H
  have c6b0 : (a0_0 == a1_0) = true := beq_iff_eq.mpr c6
  have c6b1 : (a0_0 != a1_0) = false := bne_eq_false_iff_eq.mpr c6
  clear c6
  (first | rw [c6b0] | (simp only [i64_w, i32_w]; rw [c6b0]) | skip)
  by_cases c7 : a0_1 = a1_1
  rotate_left
  ·rw [if_neg c7] at H
   have c7b0 : (a0_1 == a1_1) = false := beq_eq_false_iff_ne.mpr c7
   have c7b1 : (a0_1 != a1_1) = true := bne_iff_ne.mpr c7
   have H' := Z0 H
   clear H
   have hnb11 := NB138_139.out
   have hnc11 := NB139_138.out
   obtain ⟨hcz12_0, hcz12_1, hcz12_2⟩ := bc3 BK138.out
   obtain ⟨hfz12_0, hfz12_1, hfz12_2⟩ := bf3 BK138.out
   obtain ⟨hcz13_0, hcz13_1, hcz13_2⟩ := bc3 BK139.out
   obtain ⟨hfz13_0, hfz13_1, hfz13_2⟩ := bf3 BK139.out
   go_wp2
   go_meet
   case rel => exact ⟨_, (false), V2, H', ⟨by first | omega | exact Nat.le_refl _⟩, ⟨bk⟩, ⟨bk⟩, ⟨V0⟩⟩
  rw [if_pos c7] at H
  have c7b0 : (a0_1 == a1_1) = true := beq_iff_eq.mpr c7
  have c7b1 : (a0_1 != a1_1) = false := bne_eq_false_iff_eq.mpr c7
  clear c7
  have H' := Z0 H
  clear H
  have hnb8 := NB138_139.out
  have hnc8 := NB139_138.out
  obtain ⟨hcz9_0, hcz9_1, hcz9_2⟩ := bc3 BK138.out
  obtain ⟨hfz9_0, hfz9_1, hfz9_2⟩ := bf3 BK138.out
  obtain ⟨hcz10_0, hcz10_1, hcz10_2⟩ := bc3 BK139.out
  obtain ⟨hfz10_0, hfz10_1, hfz10_2⟩ := bf3 BK139.out
  go_wp2
  go_meet
  case rel => exact ⟨_, ((a0_2.toList == a1_2.toList)), V2, H', ⟨by first | omega | exact Nat.le_refl _⟩, ⟨bk⟩, ⟨bk⟩, ⟨V0⟩⟩
 case rest =>
  clear HC3
  obtain ⟨kq, x4_2, rfl, HA, HJ2, BK138, BK139, HB⟩ := hcut
  cases kq with
  | zero => exact absurd HA.out (by simp [cabinetryref01_SameValue.j0])
  | succ kj2 =>
   have H := HA.out
   clear HA
   simp only [cabinetryref01_SameValue.j0] at H
   obtain rfl := Option.some.inj H
   go_wp2
   go_ret
   exact ⟨rfl, V0⟩
end
theorem drop_cons {s : ByteArray} {i : Nat} {c : UInt8} {r : List UInt8} (h : s.data.toList.drop i = c :: r) : i < s.size ∧ bt s (i : Int) = (c.toNat : Int) ∧ s.data.toList.drop (i + 1) = r := by
 have hl : i < s.data.toList.length := by
  rcases Nat.lt_or_ge i s.data.toList.length with h1 | h1
  ·exact h1
  rw [List.drop_eq_nil_of_le h1] at h; cases h
 have hs : i < s.size := by rw [← data_length]; exact hl
 rw [List.drop_eq_getElem_cons hl] at h
 injection h with h1 h2
 refine ⟨hs, ?_, h2⟩
 unfold bt
 rw [Int.toNat_natCast, dif_pos hs, ← h1]
 rfl
theorem drop_nil {s : ByteArray} {i : Nat} (h : s.data.toList.drop i = []) : ¬ (i : Int) < (s.size : Int) := by
 intro h1
 have := List.drop_eq_nil_iff.1 h
 rw [data_length] at this
 omega
theorem digit_is (c : Int) : cabinetryref01_IsDigit.f c = some (decide (48 ≤ c) && decide (c ≤ 57)) := by
 unfold cabinetryref01_IsDigit.f
 by_cases h : c ≥ 48
 ·rw [if_pos h]; simp [h]
 rw [if_neg h]; simp [show ¬ 48 ≤ c by omega]
theorem wrap_nat {i n : Nat} (h : i < n) (hn : n ≤ 140737488351232) : wrap64 ((i : Int) + 1) = ((i + 1 : Nat) : Int) := by
 unfold wrap64
 omega
theorem name_round (s : ByteArray) (i m : Nat) (c : UInt8) (hs : s.size ≤ 140737488351232) (hlt : i < s.size) (hb : bt s (i : Int) = (c.toNat : Int)) :
  cabinetryref03_IsName.l0 (m + 1) s (i : Int) = if capCh c = true then cabinetryref03_IsName.l0 m s ((i + 1 : Nat) : Int) else if i = 0 then some false else if nmCh c = true then cabinetryref03_IsName.l0 m s ((i + 1 : Nat) : Int) else some false := by
 simp only [cabinetryref03_IsName.l0]
 rw [if_pos (by omega), if_pos (by omega), hb, digit_is, wrap_nat hlt hs]
 simp only [Option.bind_some]
 unfold capCh nmCh
 by_cases a1 : 65 ≤ c.toNat
 ·rw [if_pos (by omega)]
  by_cases a2 : c.toNat ≤ 90
  ·rw [if_pos (by omega)]
   simp [a1, a2]
  rw [if_neg (by omega)]
  have e1 : ¬ (c.toNat ≤ 57) := by omega
  have e2 : ¬ ((c.toNat : Int) ≤ 57) := by omega
  by_cases i0 : i = 0
  ·subst i0; simp [a2]
  rw [if_neg (by omega)]
  by_cases a3 : c.toNat = 95
  ·rw [if_pos (by omega)]; simp [a1, a2, i0, a3]
  rw [if_neg (by omega)]; simp [a1, a2, i0, a3, e1, e2]
 rw [if_neg (by omega)]
 by_cases i0 : i = 0
 ·subst i0; simp [a1]
 rw [if_neg (by omega)]
 have a3 : ¬ c.toNat = 95 := by omega
 rw [if_neg (by omega)]
 by_cases b1 : 48 ≤ c.toNat
 rotate_left
 ·have e2 : ¬ (48 : Int) ≤ (c.toNat : Int) := by omega
  simp [a1, i0, a3, b1, e2]
 by_cases b2 : c.toNat ≤ 57
 rotate_left
 ·have e2 : ¬ (c.toNat : Int) ≤ 57 := by omega
  simp [a1, i0, a3, b1, b2, e2]
 have e1 : (48 : Int) ≤ (c.toNat : Int) := by omega
 have e2 : (c.toNat : Int) ≤ 57 := by omega
 simp [a1, i0, a3, b1, b2, e1, e2]
theorem cap_nm {c : UInt8} (h : capCh c = true) : nmCh c = true := by
 unfold capCh at h
 unfold nmCh
 rw [h]
 rfl
theorem name_loop (s : ByteArray) (hs : s.size ≤ 140737488351232) : ∀ (l : List UInt8) (i k : Nat), 1 ≤ i → s.data.toList.drop i = l → l.length < k → cabinetryref03_IsName.l0 k s (i : Int) = some (l.all nmCh)
 | [], i, k, h1, hd, hk => by
  obtain ⟨m, rfl⟩ : ∃ m, k = m + 1 := ⟨k - 1, by simp at hk; omega⟩
  simp only [cabinetryref03_IsName.l0]
  rw [if_neg (drop_nil hd)]
  rfl
 | c :: r, i, k, h1, hd, hk => by
  obtain ⟨m, rfl⟩ : ∃ m, k = m + 1 := ⟨k - 1, by simp at hk; omega⟩
  obtain ⟨hlt, hb, hr⟩ := drop_cons hd
  have ih := name_loop s hs r (i + 1) m (by omega) hr (by simp at hk; omega)
  rw [name_round s i m c hs hlt hb, ih, if_neg (by omega : ¬ i = 0), List.all_cons]
  by_cases a : capCh c = true
  ·rw [if_pos a, cap_nm a]; rfl
  ·rw [if_neg a]
   by_cases b : nmCh c = true
   ·rw [if_pos b, b]; rfl
   ·rw [if_neg b]; simp [b]
theorem refName_is (s : ByteArray) (k : Nat) (hk : s.size + 2 < k) : cabinetryref03_IsName.f k s = some (nameS s) := by
 obtain ⟨m, rfl⟩ : ∃ m, k = m + 1 := ⟨k - 1, by omega⟩
 unfold cabinetryref03_IsName.f nameS
 by_cases h1 : s.size < 1
 ·rw [if_pos (by omega)]
  simp only [cabinetryref03_IsName.j0, if_true]
  rw [show decide (1 ≤ s.size ∧ s.size ≤ 10) = false from decide_eq_false (by omega)]
  rfl
 rw [if_neg (by omega)]
 by_cases h2 : s.size > 10
 ·rw [show decide ((s.size : Int) > 10) = true from decide_eq_true (by omega)]
  simp only [cabinetryref03_IsName.j0, if_true]
  rw [show decide (1 ≤ s.size ∧ s.size ≤ 10) = false from decide_eq_false (by omega)]
  rfl
 rw [show decide ((s.size : Int) > 10) = false from decide_eq_false (by omega)]
 rw [show decide (1 ≤ s.size ∧ s.size ≤ 10) = true from decide_eq_true (by omega)]
 simp only [cabinetryref03_IsName.j0]
 rw [if_neg (by decide), Bool.true_and]
 have hs : s.size ≤ 140737488351232 := by omega
 obtain ⟨c, r, he⟩ : ∃ c r, s.data.toList = c :: r := by
  cases hl : s.data.toList with
  | nil => have := data_length s; rw [hl] at this; simp at this; omega
  | cons c r => exact ⟨c, r, rfl⟩
 have hd : s.data.toList.drop 0 = c :: r := by rw [List.drop_zero]; exact he
 obtain ⟨hlt, hb, hr⟩ := drop_cons hd
 have hl : r.length + 1 = s.size := by rw [← data_length, he]; rfl
 obtain ⟨m, rfl⟩ : ∃ q, m = q + 1 := ⟨m - 1, by omega⟩
 have e := name_round s 0 m c hs hlt hb
 rw [show ((0 : Nat) : Int) = 0 from rfl] at e
 rw [e, he, name_loop s hs r 1 m (Nat.le_refl _) hr (by omega)]
 unfold headCap
 rw [List.all_cons]
 by_cases a : capCh c = true
 ·rw [if_pos a, cap_nm a]; show some _ = some ((true && r.all nmCh) && capCh c); rw [a]; simp
 rw [if_neg a]; show some false = some ((nmCh c && r.all nmCh) && capCh c); simp [a]
theorem refIsPage_is (pg : Int) : cabinetryref03_isPage.f pg = some (pageS pg) := by
 unfold cabinetryref03_isPage.f pageS
 by_cases h : pg ≥ 0
 ·rw [if_pos h]; congr 1; rw [Bool.eq_iff_iff]; simp; omega
 rw [if_neg h]; congr 1; symm; rw [decide_eq_false_iff_not]; omega
theorem refField_is (s : ByteArray) (kd wd : Int) (nl : Bool) (k : Nat) (hk : s.size + 2 < k) : cabinetryref03_isField.f k s kd wd nl = some (fieldS s kd wd) := by
 unfold cabinetryref03_isField.f fieldS
 rw [refName_is s k hk]
 simp only [Option.bind_some]
 by_cases hn : nameS s = true
 rotate_left
 ·rw [if_neg hn]; simp [hn]
 rw [if_pos hn, hn, Bool.true_and]
 obtain ⟨m, rfl⟩ : ∃ m, k = m + 1 := ⟨k - 1, by omega⟩
 by_cases h1 : kd = 1
 ·subst h1; rw [if_pos rfl]; congr 1; rw [Bool.eq_iff_iff]; simp [kindFound, kindLo, kindHi]; omega
 rw [if_neg h1]
 by_cases h2 : kd = 2
 ·subst h2; rw [if_pos rfl]
  by_cases hw : wd ≥ 1
  ·rw [if_pos hw]; congr 1; rw [Bool.eq_iff_iff]; simp [kindFound, kindLo, kindHi]; omega
  rw [if_neg hw]; congr 1; symm; simp [kindFound, kindLo, kindHi]; omega
 rw [if_neg h2]
 by_cases h3 : kd = 3
 ·subst h3; rw [if_pos rfl]; simp only [cabinetryref03_isField.j0]
  simp [kindFound, kindLo, kindHi]
  rw [Bool.eq_iff_iff]; simp; omega
 rw [if_neg h3]
 simp only [cabinetryref03_isField.j0]
 by_cases h5 : kd = 5
 ·subst h5; simp [kindFound, kindLo, kindHi]
  rw [Bool.eq_iff_iff]; simp; omega
 rw [if_neg (by simp [h5])]
 by_cases h4 : kd = 4
 rotate_left
 ·rw [if_neg h4]; congr 1; symm; simp [kindFound]; omega
 subst h4; rw [if_pos rfl]
 by_cases hw : wd ≥ 1
 ·rw [if_pos hw]; congr 1; rw [Bool.eq_iff_iff]; simp [kindFound, kindLo, kindHi]; omega
 rw [if_neg hw]; congr 1; symm; simp [kindFound, kindLo, kindHi]; omega
theorem refValidate_is (vk vn : Int) (vs : ByteArray) : cabinetryref01_Validate.f vk vn vs = some (valS vk vn vs) := by
 unfold cabinetryref01_Validate.f valS valOK
 by_cases h : 2048 < vs.size
 ·rw [if_pos (by omega), if_pos h]
 rw [if_neg (by omega), if_neg h]
 have hnum : cabinetryref01_InNum.f vn = some (decide (-1000000000000000 ≤ vn ∧ vn ≤ 1000000000000000)) := by
  unfold cabinetryref01_InNum.f
  by_cases h : vn ≥ -1000000000000000
  ·rw [if_pos h]; congr 1; rw [Bool.eq_iff_iff]; simp; omega
  rw [if_neg h]; congr 1; symm; rw [decide_eq_false_iff_not]; omega
 by_cases hs : vs.size = 0
 ·have hl := (ba_nil vs).2 hs
  by_cases k0 : vk = 0
  ·subst k0; by_cases n0 : vn = 0 <;> simp [n0, hs, hl]
  by_cases k1 : vk = 1
  ·subst k1; by_cases n0 : vn = 0
   ·simp [n0, hs, hl]
   by_cases n1 : vn = 1 <;> simp [n0, n1, hs, hl]
  by_cases k2 : vk = 2
  ·subst k2; rw [hnum]; by_cases hn : (-1000000000000000 ≤ vn ∧ vn ≤ 1000000000000000) <;> simp [hn, hs, hl]
  by_cases k3 : vk = 3
  ·subst k3; by_cases a : vn ≥ 0
   rotate_left
   ·simp [a, hs]
   by_cases b : vn ≤ 3652059 <;> simp [a, b, hs, hl]
  by_cases k4 : vk = 4
  ·subst k4; by_cases n0 : vn = 0 <;> simp [n0]
  simp [k0, k1, k2, k3, k4]
 have hl : ¬ vs.toList = ([] : List UInt8) := fun h => hs ((ba_nil vs).1 h)
 by_cases k0 : vk = 0
 ·subst k0; by_cases n0 : vn = 0 <;> simp [n0, hs, hl]
 by_cases k1 : vk = 1
 ·subst k1; by_cases n0 : vn = 0
  ·simp [n0, hs, hl]
  by_cases n1 : vn = 1 <;> simp [n0, n1, hs, hl]
 by_cases k2 : vk = 2
 ·subst k2; rw [hnum]; by_cases hn : (-1000000000000000 ≤ vn ∧ vn ≤ 1000000000000000) <;> simp [hn, hs, hl]
 by_cases k3 : vk = 3
 ·subst k3; by_cases a : vn ≥ 0
  rotate_left
  ·simp [a, hs]
  by_cases b : vn ≤ 3652059 <;> simp [a, b, hs, hl]
 by_cases k4 : vk = 4
 ·subst k4; by_cases n0 : vn = 0 <;> simp [n0]
 simp [k0, k1, k2, k3, k4]
theorem page_bytes : ∀ p : Fin 3, ∀ b : Fin 256, onPage p.val (UInt8.ofNat b.val) = (if p.val = 0 then decide (b.val < 128) else if p.val = 1 then true else (decide (b.val < 176) || (decide (224 ≤ b.val) && decide (b.val < 240)))) := by decide +kernel
theorem on_is (b : UInt8) (pg : Int) (k : Nat) (hp : pageS pg = true) (hk : 0 < k) : cabinetryref03_On.f k (b.toNat : Int) pg = some (onPage pg.toNat b) := by
 have hp' : 0 ≤ pg ∧ pg ≤ 2 := by simpa [pageS] using hp
 have h := page_bytes ⟨pg.toNat, by omega⟩ ⟨b.toNat, UInt8.toNat_lt b⟩
 have e : UInt8.ofNat b.toNat = b := by simp
 rw [e] at h
 simp only at h
 rw [h]
 obtain ⟨m, rfl⟩ : ∃ m, k = m + 1 := ⟨k - 1, by omega⟩
 unfold cabinetryref03_On.f
 by_cases p0 : pg = 0
 ·subst p0; simp; omega
 rw [if_neg p0]
 by_cases p1 : pg = 1
 ·subst p1; simp
 rw [if_neg p1, if_neg (by omega : ¬ pg.toNat = 0), if_neg (by omega : ¬ pg.toNat = 1)]
 simp only [cabinetryref03_On.j0]
 by_cases a : b.toNat < 176
 ·rw [if_pos (by omega)]; simp [a]
 rw [if_neg (by omega)]
 by_cases c : 224 ≤ b.toNat
 ·rw [if_pos (by omega)]; simp [a, c]; omega
 rw [if_neg (by omega)]; simp [a, c]
theorem written_loop (s : ByteArray) (pg : Int) (hs : s.size ≤ 140737488351232) (hp : pageS pg = true) : ∀ (l : List UInt8) (i k : Nat), s.data.toList.drop i = l → l.length + 1 < k → cabinetryref03_written.l0 k s pg (i : Int) = some (l.all (onPage pg.toNat))
 | [], i, k, hd, hk => by
  obtain ⟨m, rfl⟩ : ∃ m, k = m + 1 := ⟨k - 1, by omega⟩
  simp only [cabinetryref03_written.l0]
  rw [if_neg (drop_nil hd)]
  rfl
 | c :: r, i, k, hd, hk => by
  obtain ⟨m, rfl⟩ : ∃ m, k = m + 1 := ⟨k - 1, by omega⟩
  obtain ⟨hlt, hb, hr⟩ := drop_cons hd
  have ih := written_loop s pg hs hp r (i + 1) m hr (by simp at hk; omega)
  simp only [cabinetryref03_written.l0]
  rw [if_pos (by omega), if_pos (by omega), hb, on_is c pg m hp (by simp at hk; omega), wrap_nat hlt hs, ih, List.all_cons]
  simp only [Option.bind_some]
  by_cases a : onPage pg.toNat c = true
  ·rw [if_pos a, a]; rfl
  ·rw [if_neg a]; simp [a]
theorem written_is (s : ByteArray) (pg : Int) (k : Nat) (hs : s.size ≤ 140737488351232) (hp : pageS pg = true) (hk : s.size + 1 < k) : cabinetryref03_written.f k s pg = some (onS pg s) :=
 written_loop s pg hs hp s.data.toList 0 k (List.drop_zero) (by rw [data_length]; exact hk)
theorem bare_loop (s : ByteArray) (hs : s.size ≤ 140737488351232) : ∀ (n k : Nat), n ≤ s.size → n + 1 < k → cabinetryref01_Bare.l0 k s (n : Int) = some ⟨(Lib.trimRightS (s.data.toList.take n) [32]).toArray⟩
 | 0, k, hn, hk => by
  obtain ⟨m, rfl⟩ : ∃ m, k = m + 2 := ⟨k - 2, by omega⟩
  simp only [cabinetryref01_Bare.l0, cabinetryref01_Bare.j1]
  rw [if_neg (by omega), if_pos (by omega), if_pos (by omega)]
  congr 1
  apply ByteArray.ext
  simp [Lib.trimRightS, ByteArray.data_extract]
 | n + 1, k, hn, hk => by
  obtain ⟨m, rfl⟩ : ∃ m, k = m + 2 := ⟨k - 2, by omega⟩
  have hl : n < s.data.toList.length := by rw [data_length]; omega
  have ht : s.data.toList.take (n + 1) = s.data.toList.take n ++ [s.data.toList[n]] := List.take_succ_eq_append_getElem hl
  have hb : bt s (n : Int) = ((s.data.toList[n]).toNat : Int) := by
   unfold bt
   rw [Int.toNat_natCast, dif_pos (by omega)]
   rfl
  have hw : wrap64 (((n + 1 : Nat) : Int) - 1) = (n : Int) := by unfold wrap64; omega
  have ih := bare_loop s hs n (m + 1) (by omega) (by omega)
  have e1 : cabinetryref01_Bare.l0 (m + 2) s ((n + 1 : Nat) : Int) = if (s.data.toList[n]) = 32 then cabinetryref01_Bare.l0 (m + 1) s (n : Int) else some (s.extract 0 (n + 1)) := by
   conv => lhs; rw [cabinetryref01_Bare.l0]
   rw [if_pos (by omega), hw, if_pos (by omega), if_pos (by omega), hb]
   by_cases hc : s.data.toList[n] = 32
   ·rw [if_pos hc, if_pos (by rw [hc]; rfl)]
   ·rw [if_neg hc, if_neg (fun h => hc (by apply UInt8.toNat_inj.1; rw [show (32 : UInt8).toNat = 32 from rfl]; omega))]
    simp only [cabinetryref01_Bare.j1]
    rw [if_pos (by omega), if_pos (by omega), Int.toNat_natCast]
  rw [e1, ht]
  unfold Lib.trimRightS
  rw [List.reverse_append, List.reverse_cons, List.reverse_nil, List.nil_append, List.cons_append, List.nil_append, List.dropWhile_cons]
  by_cases hc : s.data.toList[n] = 32
  ·rw [if_pos hc, ih, if_pos (by rw [hc]; rfl)]
   rfl
  ·have hc' : ¬ s.data[n]'(by simpa using hl) = 32 := by simpa using hc
   rw [if_neg hc, if_neg (by simp [hc'])]
   congr 1
   apply ByteArray.ext
   rw [List.reverse_cons, List.reverse_reverse, ← ht, ByteArray.data_extract]
   apply Array.ext'
   simp
theorem bare_is (s : ByteArray) (k : Nat) (hs : s.size ≤ 140737488351232) (hk : s.size + 1 < k) : cabinetryref01_Bare.f k s = some (blanksOff s) := by
 unfold cabinetryref01_Bare.f blanksOff
 rw [bare_loop s hs s.size k (Nat.le_refl _) hk, List.take_of_length_le (by rw [data_length]; exact Nat.le_refl _)]
theorem dropWhile_len {p : UInt8 → Bool} : ∀ (l : List UInt8), (l.dropWhile p).length ≤ l.length
 | [] => Nat.le_refl _
 | c :: r => by
  rw [List.dropWhile_cons]
  split
  ·exact Nat.le_succ_of_le (dropWhile_len r)
  ·exact Nat.le_refl _
theorem trimRightS_len (l cs : List UInt8) : (Lib.trimRightS l cs).length ≤ l.length := by
 unfold Lib.trimRightS
 rw [List.length_reverse]
 refine Nat.le_trans (dropWhile_len _) ?_
 rw [List.length_reverse]
 exact Nat.le_refl _
theorem written_dig (n : Nat) (hn : n < 10 ^ 18) : Ev (fun k => cabinetryref01_Written.f k (n : Int)) ⟨(dig10 n).toArray⟩ := by
 induction n using Nat.strongRecOn with
 | ind n ih =>
  by_cases h : n < 10
  ·refine Ev.step (f := fun _ => some ⟨(dig10 n).toArray⟩) (fun k => ?_) (Ev.now _)
   simp only [cabinetryref01_Written.f]
   have hw : wrap64 ((n : Int) + 1) = ((n + 1 : Nat) : Int) := by unfold wrap64; omega
   rw [if_neg (by omega), if_pos (by omega), if_pos (by omega), hw, if_pos (by omega), if_pos (by omega), dig10_small n h]
   congr 1
   match n, h with
   | 0, _ => decide
   | 1, _ => decide
   | 2, _ => decide
   | 3, _ => decide
   | 4, _ => decide
   | 5, _ => decide
   | 6, _ => decide
   | 7, _ => decide
   | 8, _ => decide
   | 9, _ => decide
   | n + 10, h => omega
  have a := ih (n / 10) (by omega) (by omega)
  have b := ih (n % 10) (by omega) (by omega)
  have e1 : wrap64 (Int.tdiv (n : Int) 10) = ((n / 10 : Nat) : Int) := by
   rw [Int.tdiv_eq_ediv_of_nonneg (by omega)]
   unfold wrap64
   omega
  have e2 : Int.tmod (n : Int) 10 = ((n % 10 : Nat) : Int) := by
   rw [Int.tmod_eq_emod_of_nonneg (by omega)]
   omega
  refine Ev.step (f := fun k => (cabinetryref01_Written.f k ((n / 10 : Nat) : Int)).bind fun t110 => (cabinetryref01_Written.f k ((n % 10 : Nat) : Int)).bind fun t111 => (if t110.size + t111.size ≤ 9223372036854775807 then (some (t110 ++ t111)) else (none))) (fun k => ?_) (Ev.bind a (Ev.bind b ?_))
  ·simp only [cabinetryref01_Written.f]
   rw [if_neg (by omega), if_neg (by omega), e1, e2]
  have l1 : (dig10 (n / 10)).length ≤ 18 := dig10_len _ 17 (by omega)
  have l2 : (dig10 (n % 10)).length ≤ 18 := dig10_len _ 17 (by omega)
  refine Ev.congr (f := fun _ => some ⟨(dig10 n).toArray⟩) (fun k => ?_) (Ev.now _)
  rw [if_pos (by rw [ba_size, ba_size]; omega)]
  congr 1
  apply ByteArray.ext
  rw [ByteArray.data_append, dig10_big n h, dig10_small (n % 10) (by omega)]
  simp
theorem Written_is (n : Int) (hn : -1000000000000000 ≤ n ∧ n ≤ 1000000000000000) : Ev (fun k => cabinetryref01_Written.f k n) ⟨(decL n).toArray⟩ := by
 unfold decL
 by_cases h : n < 0
 rotate_left
 ·rw [if_neg h]
  have a := written_dig n.toNat (by omega)
  rw [show ((n.toNat : Nat) : Int) = n by omega] at a
  exact a
 have a := written_dig n.natAbs (by omega)
 have e : wrap64 (-n) = ((n.natAbs : Nat) : Int) := by unfold wrap64; omega
 rw [if_pos h]
 refine Ev.step (f := fun k => (cabinetryref01_Written.f k ((n.natAbs : Nat) : Int)).bind fun t109 => (if 1 + t109.size ≤ 9223372036854775807 then (some ((⟨#[45]⟩ : ByteArray) ++ t109)) else (none))) (fun k => ?_) (Ev.bind a ?_)
 ·conv => lhs; rw [cabinetryref01_Written.f]
  rw [if_pos h, if_neg (by omega), e]
 have l1 : (dig10 n.natAbs).length ≤ 18 := dig10_len _ 17 (by omega)
 refine Ev.congr (f := fun _ => some ⟨(45 :: dig10 n.natAbs).toArray⟩) (fun k => ?_) (Ev.now _)
 rw [if_pos (by rw [ba_size]; omega)]
 congr 1
theorem Ev.if_pos {α : Type} {p : Prop} [Decidable p] {g f : Nat → Option α} {r : α} (h : p) (k : Ev g r) : Ev (fun n => if p then g n else f n) r := k.congr (fun n => by rw [_root_.if_pos h])
theorem Ev.if_neg {α : Type} {p : Prop} [Decidable p] {g f : Nat → Option α} {r : α} (h : ¬ p) (k : Ev f r) : Ev (fun n => if p then g n else f n) r := k.congr (fun n => by rw [_root_.if_neg h])
theorem Ev.from {α : Type} {g : Nat → Option α} {r : α} (K : Nat) (h : ∀ k, K < k → g k = some r) : Ev g r := ⟨K + 1, fun k hk => h k (by omega)⟩
theorem fits_is (s : ByteArray) (kd wd : Int) (nl : Bool) (pg vk vn : Int) (vs : ByteArray) (hv : valS vk vn vs = 0) (h0 : vk ≠ 0) (h4 : kd ≠ 4) (he : vk = emptyK kd) (hf : kindFound kd = true) :
  Ev (fun k => cabinetryref03_fits.f k s kd wd nl pg vk vn vs) (if kd = 2 then decide (((decL vn).length : Int) ≤ wd) else if kd = 5 then decide (0 ≤ vn ∧ vn ≤ 99999999) else true) := by
 unfold cabinetryref03_fits.f
 rw [refValidate_is, hv]
 simp only [Option.bind_some, if_true, if_neg h0]
 by_cases h5 : kd = 5
 ·subst h5
  have e2 : vk = 2 := he
  subst e2
  simp only [if_true]
  refine Ev.congr (f := fun _ => some (decide (0 ≤ vn ∧ vn ≤ 99999999))) (fun k => ?_) (Ev.now _)
  unfold cabinetryref03_isMemo.f
  by_cases a : vn ≥ 0
  ·rw [if_pos a]; simp only [Option.bind_some]; congr 1; rw [Bool.eq_iff_iff]; simp; omega
  rw [if_neg a]; simp only [Option.bind_some]; congr 1; symm; rw [decide_eq_false_iff_not]; omega
 have e : vk = kd := by rw [he]; unfold emptyK; rw [if_neg h5]
 subst e
 simp only [if_neg h5, if_true]
 by_cases h2 : vk = 2
 rotate_left
 ·simp only [if_neg h2, if_neg h4]
  exact Ev.now _
 subst h2
 simp only [if_true]
 have hn : -1000000000000000 ≤ vn ∧ vn ≤ 1000000000000000 := by
  unfold valS at hv
  split at hv
  ·omega
  split at hv
  rotate_left
  ·omega
  rename_i hok
  unfold valOK at hok
  simp at hok
  exact hok.2
 refine Ev.bind (Written_is vn hn) (Ev.congr (f := fun _ => some (decide (((decL vn).length : Int) ≤ wd))) (fun k => ?_) (Ev.now _))
 rw [ba_size]
def fitT (nl : Bool) (kd wd pg vk vn : Int) (vs : ByteArray) : Int × Int × ByteArray × Int :=
 if vk = 0 then (if nl = true then (vk, vn, vs, 0) else (0, 0, ⟨#[]⟩, 7))
 else if vk ≠ emptyK kd then (0, 0, ⟨#[]⟩, 6)
 else if kd = 4 then (if onS pg (blanksOff (vs.extract 0 (min vs.size wd.toNat))) = true then (vk, vn, blanksOff (vs.extract 0 (min vs.size wd.toNat)), 0) else (0, 0, ⟨#[]⟩, 10))
 else if kd = 2 then (if ((decL vn).length : Int) ≤ wd then (vk, vn, vs, 0) else (0, 0, ⟨#[]⟩, 10))
 else if kd = 5 then (if 0 ≤ vn ∧ vn ≤ 99999999 then (vk, vn, vs, 0) else (0, 0, ⟨#[]⟩, 10))
 else (vk, vn, vs, 0)
theorem fitS_T (s : ByteArray) (kd wd : Int) (nl : Bool) (pg vk vn : Int) (vs : ByteArray) (hfd : fieldS s kd wd = true) (hp : pageS pg = true) (hv : valS vk vn vs = 0) : fitS s kd wd nl pg vk vn vs = fitT nl kd wd pg vk vn vs := by
 unfold fitS fitT
 rw [if_neg (by simp [hfd, hp]), if_neg (by simp [hv])]
section
attribute [local go_sem] max2_int min2_int max_two min_two max_three min_three max_four min_four
theorem dw_len {p : UInt8 → Bool} : ∀ (l : List UInt8), (l.dropWhile p).length ≤ l.length
 | [] => Nat.le_refl _
 | c :: r => by
  rw [List.dropWhile_cons]
  split
  ·exact Nat.le_succ_of_le (dw_len r)
  ·exact Nat.le_refl _
theorem blanksOff_size (s : ByteArray) : (blanksOff s).size ≤ s.size := by
 unfold blanksOff Lib.trimRightS
 rw [ba_size, List.length_reverse]
 refine Nat.le_trans (dw_len _) ?_
 rw [List.length_reverse, data_length]
 exact Nat.le_refl _
def fit_T : Bool × List (List Nat × List Nat) := (true, [([], []), ([0], [0]), ([], []), ([2], [2]), ([3], [3]), ([1, 4], [1, 4])])
theorem fit_tab : rtab .any (opsOf Tryz.f13 10) = fit_T := by kernel_rfl
theorem fit_walk0_true (s : ByteArray) (kd wd : Int) (pg vn : Int) (vs : ByteArray) (w : World) (hb1 : fieldS s kd wd = true) (hp1 : pageS pg = true) (he1 : valS 0 vn vs = 0) :
  Calls Tryz.prog 13 #[.agg #[.string s, .int .i64 kd, .int .i64 wd, .bool true], .int .i64 pg, .agg #[.int .i64 0, .int .i64 vn, .string vs]] w fun e w' => e = .returned (.tuple #[.agg #[.int .i64 (fitS s kd wd true pg 0 vn vs).1, .int .i64 (fitS s kd wd true pg 0 vn vs).2.1, .string (fitS s kd wd true pg 0 vn vs).2.2.1], .int .i64 (fitS s kd wd true pg 0 vn vs).2.2.2]) ∧ Below w.heap.size w w' := by
 have CF := Z0 (fun W => table_isField.calls s kd wd true true W (by rw [isField_is, hb1]))
 have CP := Z0 (fun W => (table_isPage.calls pg true W (by rw [isPage_is, hp1])).mono fun _ _ ⟨he, hd⟩ => (⟨he, hd.below⟩ : _ ∧ Below W.heap.size W _))
 have CV := Z0 (fun W => val_Validate.calls 1 0 vn vs 0 W (by rw [valS_is 0, he1]))
 have H1 := Z0 hb1
 have H2 := Z0 hp1
 have H3 := Z0 he1
 clear hb1 hp1 he1
 have HB := Z0 (Below.refl w.heap.size w)
 go_enter Tryz.func13, Tryz.ntmps13
 go_wp2_with (first | ((with_reducible refine Z9 (N := 3) rfl ?_); refine bx (N := 3) (cs := #[.string s, .int .i64 kd, .int .i64 wd, .bool true]) (t := 23) ?_; intro g3 hg w3 hbk hb; have G3 : Aside0 (w.heap.size ≤ g3) := ⟨by rw [hg]; exact HB.out.size⟩; have nB := Z0 (Z1 HB.out hb); have BK3 := Z0 hbk; clear hg hb hbk HB; have HB := nB; clear nB) | ((with_reducible refine Z9 (N := 5) rfl ?_); refine bx (N := 5) (cs := #[.int .i64 0, .int .i64 vn, .string vs]) (t := 25) ?_; intro g5 hg w5 hbk hb; have G5 : Aside0 (w.heap.size ≤ g5) := ⟨by rw [hg]; exact HB.out.size⟩; have N35 : Aside0 (g3 ≠ g5) := ⟨by rw [hg]; exact Nat.ne_of_lt (blk_lt BK3.out)⟩; have n3 := Z0 (Z2 BK3.out hb); clear BK3; have BK3 := n3; clear n3; have nB := Z0 (Z1 HB.out hb); have BK5 := Z0 hbk; clear hg hb hbk HB; have HB := nB; clear nB) | ((with_reducible refine Z9 (N := 6) rfl ?_); refine bx (N := 6) (cs := #[.int .i64 0, .int .i64 0, .string ⟨#[]⟩]) (t := 25) ?_; intro g6 hg w6 hbk hb; have G6 : Aside0 (w.heap.size ≤ g6) := ⟨by rw [hg]; exact HB.out.size⟩; have N36 : Aside0 (g3 ≠ g6) := ⟨by rw [hg]; exact Nat.ne_of_lt (blk_lt BK3.out)⟩; have N56 : Aside0 (g5 ≠ g6) := ⟨by rw [hg]; exact Nat.ne_of_lt (blk_lt BK5.out)⟩; have n3 := Z0 (Z2 BK3.out hb); clear BK3; have BK3 := n3; clear n3; have n5 := Z0 (Z2 BK5.out hb); clear BK5; have BK5 := n5; clear n5; have nB := Z0 (Z1 HB.out hb); have BK6 := Z0 hbk; clear hg hb hbk HB; have HB := nB; clear nB; obtain ⟨k0, k1, k2, k3⟩ := bc4 BK3.out; obtain ⟨v0, v1, v2⟩ := bc3 BK5.out; obtain ⟨r0, r1, r2⟩ := bc3 BK6.out; obtain ⟨q0, q1, q2⟩ := bf3 BK6.out; have q9 := Z8 BK5.out 2) | (go_at_call 47; refine (CF.out _).mono ?_; rintro e w7 ⟨rfl, hb⟩; clear k0 k1 k2 k3 v0 v1 v2 r0 r1 r2 q0 q1 q2 q9; have n3 := Z0 (Z2 BK3.out hb); have n5 := Z0 (Z2 BK5.out hb); have n6 := Z0 (Z2 BK6.out hb); have nB := Z0 (Z1 HB.out hb); clear BK3 BK5 BK6 HB hb; have BK3 := n3; have BK5 := n5; have BK6 := n6; have HB := nB; clear n3 n5 n6 nB; obtain ⟨k0, k1, k2, k3⟩ := bc4 BK3.out; obtain ⟨v0, v1, v2⟩ := bc3 BK5.out; obtain ⟨r0, r1, r2⟩ := bc3 BK6.out; obtain ⟨q0, q1, q2⟩ := bf3 BK6.out; have q9 := Z8 BK5.out 2; clear CF) | (go_at_call 48; refine (CP.out _).mono ?_; rintro e w8 ⟨rfl, hb⟩; clear k0 k1 k2 k3 v0 v1 v2 r0 r1 r2 q0 q1 q2 q9; have n3 := Z0 (Z2 BK3.out hb); have n5 := Z0 (Z2 BK5.out hb); have n6 := Z0 (Z2 BK6.out hb); have nB := Z0 (Z1 HB.out hb); clear BK3 BK5 BK6 HB hb; have BK3 := n3; have BK5 := n5; have BK6 := n6; have HB := nB; clear n3 n5 n6 nB; obtain ⟨k0, k1, k2, k3⟩ := bc4 BK3.out; obtain ⟨v0, v1, v2⟩ := bc3 BK5.out; obtain ⟨r0, r1, r2⟩ := bc3 BK6.out; obtain ⟨q0, q1, q2⟩ := bf3 BK6.out; have q9 := Z8 BK5.out 2; clear CP) | (go_at_call 49; refine (CV.out _).mono ?_; rintro e w9 ⟨rfl, hb⟩; clear k0 k1 k2 k3 v0 v1 v2 r0 r1 r2 q0 q1 q2 q9; have n3 := Z0 (Z2 BK3.out hb); have n5 := Z0 (Z2 BK5.out hb); have n6 := Z0 (Z2 BK6.out hb); have nB := Z0 (Z1 HB.out hb); clear BK3 BK5 BK6 HB hb; have BK3 := n3; have BK5 := n5; have BK6 := n6; have HB := nB; clear n3 n5 n6 nB; obtain ⟨k0, k1, k2, k3⟩ := bc4 BK3.out; obtain ⟨v0, v1, v2⟩ := bc3 BK5.out; obtain ⟨r0, r1, r2⟩ := bc3 BK6.out; obtain ⟨q0, q1, q2⟩ := bf3 BK6.out; have q9 := Z8 BK5.out 2; clear CV))
 have HF : Aside0 (fitS s kd wd true pg 0 vn vs = (0, vn, vs, 0)) := ⟨by unfold fitS; rw [if_neg (by rw [H1.out, H2.out]; simp)]; rw [H3.out, if_neg (by simp), if_pos rfl]; rfl⟩
 refine bodyPost_ret (results_ct rfl _ _ g6 25 #[.int .i64 0, .int .i64 vn, .string vs] (0, 0) _ rfl (blk_put (blk_put (blk_put BK6.out 0 _ rfl) 1 _ rfl) 2 _ rfl) Tryz.underlying25 rfl (by kernel_rfl)) rfl ⟨by rw [HF.out]; rfl, below_set (below_set (below_set HB.out G6.out) G6.out) G6.out⟩
theorem fit_walk0_false (s : ByteArray) (kd wd : Int) (pg vn : Int) (vs : ByteArray) (w : World) (hb1 : fieldS s kd wd = true) (hp1 : pageS pg = true) (he1 : valS 0 vn vs = 0) :
  Calls Tryz.prog 13 #[.agg #[.string s, .int .i64 kd, .int .i64 wd, .bool false], .int .i64 pg, .agg #[.int .i64 0, .int .i64 vn, .string vs]] w fun e w' => e = .returned (.tuple #[.agg #[.int .i64 (fitS s kd wd false pg 0 vn vs).1, .int .i64 (fitS s kd wd false pg 0 vn vs).2.1, .string (fitS s kd wd false pg 0 vn vs).2.2.1], .int .i64 (fitS s kd wd false pg 0 vn vs).2.2.2]) ∧ Below w.heap.size w w' := by
 have CF := Z0 (fun W => table_isField.calls s kd wd false true W (by rw [isField_is, hb1]))
 have CP := Z0 (fun W => (table_isPage.calls pg true W (by rw [isPage_is, hp1])).mono fun _ _ ⟨he, hd⟩ => (⟨he, hd.below⟩ : _ ∧ Below W.heap.size W _))
 have CV := Z0 (fun W => val_Validate.calls 1 0 vn vs 0 W (by rw [valS_is 0, he1]))
 have H1 := Z0 hb1
 have H2 := Z0 hp1
 have H3 := Z0 he1
 clear hb1 hp1 he1
 have HB := Z0 (Below.refl w.heap.size w)
 go_enter Tryz.func13, Tryz.ntmps13
 go_wp2_with (first | ((with_reducible refine Z9 (N := 3) rfl ?_); refine bx (N := 3) (cs := #[.string s, .int .i64 kd, .int .i64 wd, .bool false]) (t := 23) ?_; intro g3 hg w3 hbk hb; have G3 : Aside0 (w.heap.size ≤ g3) := ⟨by rw [hg]; exact HB.out.size⟩; have nB := Z0 (Z1 HB.out hb); have BK3 := Z0 hbk; clear hg hb hbk HB; have HB := nB; clear nB) | ((with_reducible refine Z9 (N := 5) rfl ?_); refine bx (N := 5) (cs := #[.int .i64 0, .int .i64 vn, .string vs]) (t := 25) ?_; intro g5 hg w5 hbk hb; have G5 : Aside0 (w.heap.size ≤ g5) := ⟨by rw [hg]; exact HB.out.size⟩; have N35 : Aside0 (g3 ≠ g5) := ⟨by rw [hg]; exact Nat.ne_of_lt (blk_lt BK3.out)⟩; have n3 := Z0 (Z2 BK3.out hb); clear BK3; have BK3 := n3; clear n3; have nB := Z0 (Z1 HB.out hb); have BK5 := Z0 hbk; clear hg hb hbk HB; have HB := nB; clear nB) | ((with_reducible refine Z9 (N := 6) rfl ?_); refine bx (N := 6) (cs := #[.int .i64 0, .int .i64 0, .string ⟨#[]⟩]) (t := 25) ?_; intro g6 hg w6 hbk hb; have G6 : Aside0 (w.heap.size ≤ g6) := ⟨by rw [hg]; exact HB.out.size⟩; have N36 : Aside0 (g3 ≠ g6) := ⟨by rw [hg]; exact Nat.ne_of_lt (blk_lt BK3.out)⟩; have N56 : Aside0 (g5 ≠ g6) := ⟨by rw [hg]; exact Nat.ne_of_lt (blk_lt BK5.out)⟩; have n3 := Z0 (Z2 BK3.out hb); clear BK3; have BK3 := n3; clear n3; have n5 := Z0 (Z2 BK5.out hb); clear BK5; have BK5 := n5; clear n5; have nB := Z0 (Z1 HB.out hb); have BK6 := Z0 hbk; clear hg hb hbk HB; have HB := nB; clear nB; obtain ⟨k0, k1, k2, k3⟩ := bc4 BK3.out; obtain ⟨v0, v1, v2⟩ := bc3 BK5.out; obtain ⟨r0, r1, r2⟩ := bc3 BK6.out; obtain ⟨q0, q1, q2⟩ := bf3 BK6.out; have q9 := Z8 BK5.out 2) | (go_at_call 47; refine (CF.out _).mono ?_; rintro e w7 ⟨rfl, hb⟩; clear k0 k1 k2 k3 v0 v1 v2 r0 r1 r2 q0 q1 q2 q9; have n3 := Z0 (Z2 BK3.out hb); have n5 := Z0 (Z2 BK5.out hb); have n6 := Z0 (Z2 BK6.out hb); have nB := Z0 (Z1 HB.out hb); clear BK3 BK5 BK6 HB hb; have BK3 := n3; have BK5 := n5; have BK6 := n6; have HB := nB; clear n3 n5 n6 nB; obtain ⟨k0, k1, k2, k3⟩ := bc4 BK3.out; obtain ⟨v0, v1, v2⟩ := bc3 BK5.out; obtain ⟨r0, r1, r2⟩ := bc3 BK6.out; obtain ⟨q0, q1, q2⟩ := bf3 BK6.out; have q9 := Z8 BK5.out 2; clear CF) | (go_at_call 48; refine (CP.out _).mono ?_; rintro e w8 ⟨rfl, hb⟩; clear k0 k1 k2 k3 v0 v1 v2 r0 r1 r2 q0 q1 q2 q9; have n3 := Z0 (Z2 BK3.out hb); have n5 := Z0 (Z2 BK5.out hb); have n6 := Z0 (Z2 BK6.out hb); have nB := Z0 (Z1 HB.out hb); clear BK3 BK5 BK6 HB hb; have BK3 := n3; have BK5 := n5; have BK6 := n6; have HB := nB; clear n3 n5 n6 nB; obtain ⟨k0, k1, k2, k3⟩ := bc4 BK3.out; obtain ⟨v0, v1, v2⟩ := bc3 BK5.out; obtain ⟨r0, r1, r2⟩ := bc3 BK6.out; obtain ⟨q0, q1, q2⟩ := bf3 BK6.out; have q9 := Z8 BK5.out 2; clear CP) | (go_at_call 49; refine (CV.out _).mono ?_; rintro e w9 ⟨rfl, hb⟩; clear k0 k1 k2 k3 v0 v1 v2 r0 r1 r2 q0 q1 q2 q9; have n3 := Z0 (Z2 BK3.out hb); have n5 := Z0 (Z2 BK5.out hb); have n6 := Z0 (Z2 BK6.out hb); have nB := Z0 (Z1 HB.out hb); clear BK3 BK5 BK6 HB hb; have BK3 := n3; have BK5 := n5; have BK6 := n6; have HB := nB; clear n3 n5 n6 nB; obtain ⟨k0, k1, k2, k3⟩ := bc4 BK3.out; obtain ⟨v0, v1, v2⟩ := bc3 BK5.out; obtain ⟨r0, r1, r2⟩ := bc3 BK6.out; obtain ⟨q0, q1, q2⟩ := bf3 BK6.out; have q9 := Z8 BK5.out 2; clear CV))
 have HF : Aside0 (fitS s kd wd false pg 0 vn vs = (0, 0, ⟨#[]⟩, 7)) := ⟨by unfold fitS; rw [if_neg (by rw [H1.out, H2.out]; simp)]; rw [H3.out, if_neg (by simp), if_pos rfl]; rfl⟩
 refine bodyPost_ret (results_ct rfl _ _ g6 25 #[.int .i64 0, .int .i64 0, .string ⟨#[]⟩] (0, 0) _ rfl (blk_put (blk_put (blk_put BK6.out 0 _ rfl) 1 _ rfl) 2 _ rfl) Tryz.underlying25 rfl (by kernel_rfl)) rfl ⟨by rw [HF.out]; rfl, below_set (below_set (below_set HB.out G6.out) G6.out) G6.out⟩
theorem fit_walk (s : ByteArray) (kd wd : Int) (nl : Bool) (pg vk vn : Int) (vs : ByteArray) (w : World) :
  Calls Tryz.prog 13 #[.agg #[.string s, .int .i64 kd, .int .i64 wd, .bool nl], .int .i64 pg, .agg #[.int .i64 vk, .int .i64 vn, .string vs]] w fun e w' => e = .returned (.tuple #[.agg #[.int .i64 (fitS s kd wd nl pg vk vn vs).1, .int .i64 (fitS s kd wd nl pg vk vn vs).2.1, .string (fitS s kd wd nl pg vk vn vs).2.2.1], .int .i64 (fitS s kd wd nl pg vk vn vs).2.2.2]) ∧ Below w.heap.size w w' := by
 obtain ⟨b, hb1⟩ : ∃ b, fieldS s kd wd = b := ⟨_, rfl⟩
 obtain ⟨p, hp1⟩ : ∃ p, pageS pg = p := ⟨_, rfl⟩
 obtain ⟨e1, he1⟩ : ∃ e1, valS vk vn vs = e1 := ⟨_, rfl⟩
 have CF := Z0 (fun W => table_isField.calls s kd wd nl b W (by rw [isField_is, hb1]))
 have CP := Z0 (fun W => (table_isPage.calls pg p W (by rw [isPage_is, hp1])).mono fun _ _ ⟨he, hd⟩ => (⟨he, hd.below⟩ : _ ∧ Below W.heap.size W _))
 have CV := Z0 (fun W => val_Validate.calls 1 vk vn vs e1 W (by rw [valS_is 0, he1]))
 have CE := Z0 (fun W => table_empty.calls s kd wd nl (emptyK kd) 0 ⟨#[]⟩ W (empty_is s kd wd nl))
 have H1 := Z0 hb1
 have H2 := Z0 hp1
 have H3 := Z0 he1
 clear hb1 hp1 he1
 have HB := Z0 (Below.refl w.heap.size w)
 have hcases : b = false ∨ (b = true ∧ p = false) ∨ (b = true ∧ p = true ∧ (e1 != 0) = true) ∨ (b = true ∧ p = true ∧ e1 = 0 ∧ vk = 0) ∨ (b = true ∧ p = true ∧ e1 = 0 ∧ (vk == 0) = false) := by
  cases b
  ·exact .inl rfl
  cases p
  ·exact .inr (.inl ⟨rfl, rfl⟩)
  by_cases h0 : e1 = 0
  rotate_left
  ·exact .inr (.inr (.inl ⟨rfl, rfl, by rw [bne_iff_ne]; exact h0⟩))
  by_cases h1 : vk = 0
  ·exact .inr (.inr (.inr (.inl ⟨rfl, rfl, h0, h1⟩)))
  exact .inr (.inr (.inr (.inr ⟨rfl, rfl, h0, beq_eq_false_iff_ne.2 h1⟩)))
 rcases hcases with rfl | ⟨rfl, rfl⟩ | ⟨rfl, rfl, h0⟩ | ⟨rfl, rfl, rfl, h1⟩ | ⟨rfl, rfl, rfl, h1⟩
 rotate_left 3
 ·subst h1
  cases nl
  ·exact fit_walk0_false s kd wd pg vn vs w H1.out H2.out H3.out
  exact fit_walk0_true s kd wd pg vn vs w H1.out H2.out H3.out
 rotate_left 1
 all_goals
  go_enter Tryz.func13, Tryz.ntmps13
  go_wp2_with (first | ((with_reducible refine Z9 (N := 3) rfl ?_); refine bx (N := 3) (cs := #[.string s, .int .i64 kd, .int .i64 wd, .bool nl]) (t := 23) ?_; intro g3 hg w3 hbk hb; have G3 : Aside0 (w.heap.size ≤ g3) := ⟨by rw [hg]; exact HB.out.size⟩; have nB := Z0 (Z1 HB.out hb); have BK3 := Z0 hbk; clear hg hb hbk HB; have HB := nB; clear nB) | ((with_reducible refine Z9 (N := 5) rfl ?_); refine bx (N := 5) (cs := #[.int .i64 vk, .int .i64 vn, .string vs]) (t := 25) ?_; intro g5 hg w5 hbk hb; have G5 : Aside0 (w.heap.size ≤ g5) := ⟨by rw [hg]; exact HB.out.size⟩; have N35 : Aside0 (g3 ≠ g5) := ⟨by rw [hg]; exact Nat.ne_of_lt (blk_lt BK3.out)⟩; have n3 := Z0 (Z2 BK3.out hb); clear BK3; have BK3 := n3; clear n3; have nB := Z0 (Z1 HB.out hb); have BK5 := Z0 hbk; clear hg hb hbk HB; have HB := nB; clear nB) | ((with_reducible refine Z9 (N := 6) rfl ?_); refine bx (N := 6) (cs := #[.int .i64 0, .int .i64 0, .string ⟨#[]⟩]) (t := 25) ?_; intro g6 hg w6 hbk hb; have G6 : Aside0 (w.heap.size ≤ g6) := ⟨by rw [hg]; exact HB.out.size⟩; have N36 : Aside0 (g3 ≠ g6) := ⟨by rw [hg]; exact Nat.ne_of_lt (blk_lt BK3.out)⟩; have N56 : Aside0 (g5 ≠ g6) := ⟨by rw [hg]; exact Nat.ne_of_lt (blk_lt BK5.out)⟩; have n3 := Z0 (Z2 BK3.out hb); clear BK3; have BK3 := n3; clear n3; have n5 := Z0 (Z2 BK5.out hb); clear BK5; have BK5 := n5; clear n5; have nB := Z0 (Z1 HB.out hb); have BK6 := Z0 hbk; clear hg hb hbk HB; have HB := nB; clear nB; obtain ⟨k0, k1, k2, k3⟩ := bc4 BK3.out; obtain ⟨v0, v1, v2⟩ := bc3 BK5.out; obtain ⟨r0, r1, r2⟩ := bc3 BK6.out; obtain ⟨q0, q1, q2⟩ := bf3 BK6.out; have q9 := Z8 BK5.out 2) | (go_at_call 47; refine (CF.out _).mono ?_; rintro e w7 ⟨rfl, hb⟩; clear k0 k1 k2 k3 v0 v1 v2 r0 r1 r2 q0 q1 q2 q9; have n3 := Z0 (Z2 BK3.out hb); have n5 := Z0 (Z2 BK5.out hb); have n6 := Z0 (Z2 BK6.out hb); have nB := Z0 (Z1 HB.out hb); clear BK3 BK5 BK6 HB hb; have BK3 := n3; have BK5 := n5; have BK6 := n6; have HB := nB; clear n3 n5 n6 nB; obtain ⟨k0, k1, k2, k3⟩ := bc4 BK3.out; obtain ⟨v0, v1, v2⟩ := bc3 BK5.out; obtain ⟨r0, r1, r2⟩ := bc3 BK6.out; obtain ⟨q0, q1, q2⟩ := bf3 BK6.out; have q9 := Z8 BK5.out 2; clear CF) | (go_at_call 48; refine (CP.out _).mono ?_; rintro e w8 ⟨rfl, hb⟩; clear k0 k1 k2 k3 v0 v1 v2 r0 r1 r2 q0 q1 q2 q9; have n3 := Z0 (Z2 BK3.out hb); have n5 := Z0 (Z2 BK5.out hb); have n6 := Z0 (Z2 BK6.out hb); have nB := Z0 (Z1 HB.out hb); clear BK3 BK5 BK6 HB hb; have BK3 := n3; have BK5 := n5; have BK6 := n6; have HB := nB; clear n3 n5 n6 nB; obtain ⟨k0, k1, k2, k3⟩ := bc4 BK3.out; obtain ⟨v0, v1, v2⟩ := bc3 BK5.out; obtain ⟨r0, r1, r2⟩ := bc3 BK6.out; obtain ⟨q0, q1, q2⟩ := bf3 BK6.out; have q9 := Z8 BK5.out 2; clear CP) | (go_at_call 49; refine (CV.out _).mono ?_; rintro e w9 ⟨rfl, hb⟩; clear k0 k1 k2 k3 v0 v1 v2 r0 r1 r2 q0 q1 q2 q9; have n3 := Z0 (Z2 BK3.out hb); have n5 := Z0 (Z2 BK5.out hb); have n6 := Z0 (Z2 BK6.out hb); have nB := Z0 (Z1 HB.out hb); clear BK3 BK5 BK6 HB hb; have BK3 := n3; have BK5 := n5; have BK6 := n6; have HB := nB; clear n3 n5 n6 nB; obtain ⟨k0, k1, k2, k3⟩ := bc4 BK3.out; obtain ⟨v0, v1, v2⟩ := bc3 BK5.out; obtain ⟨r0, r1, r2⟩ := bc3 BK6.out; obtain ⟨q0, q1, q2⟩ := bf3 BK6.out; have q9 := Z8 BK5.out 2; clear CV))
 ·have HF : Aside0 (fitS s kd wd nl pg vk vn vs = (0, 0, ⟨#[]⟩, 1)) := ⟨by unfold fitS; rw [if_pos (.inl H1.out)]⟩
  refine bodyPost_ret (results_ct rfl _ _ g6 25 #[.int .i64 0, .int .i64 0, .string ⟨#[]⟩] (0, 0) _ rfl (blk_put (blk_put (blk_put BK6.out 0 _ rfl) 1 _ rfl) 2 _ rfl) Tryz.underlying25 rfl (by kernel_rfl)) rfl ⟨by rw [HF.out]; rfl, below_set (below_set (below_set HB.out G6.out) G6.out) G6.out⟩
 ·have HF : Aside0 (fitS s kd wd nl pg vk vn vs = (0, 0, ⟨#[]⟩, 1)) := ⟨by unfold fitS; rw [if_pos (.inr H2.out)]⟩
  refine bodyPost_ret (results_ct rfl _ _ g6 25 #[.int .i64 0, .int .i64 0, .string ⟨#[]⟩] (0, 0) _ rfl (blk_put (blk_put (blk_put BK6.out 0 _ rfl) 1 _ rfl) 2 _ rfl) Tryz.underlying25 rfl (by kernel_rfl)) rfl ⟨by rw [HF.out]; rfl, below_set (below_set (below_set HB.out G6.out) G6.out) G6.out⟩
 ·have HF : Aside0 (fitS s kd wd nl pg vk vn vs = (0, 0, ⟨#[]⟩, e1)) := ⟨by unfold fitS; rw [if_neg (by rw [H1.out, H2.out]; simp)]; rw [H3.out, if_pos (by simpa using h0)]⟩
  refine bodyPost_ret (results_ct rfl _ _ g6 25 #[.int .i64 0, .int .i64 0, .string ⟨#[]⟩] (0, 0) _ rfl (blk_put (blk_put (blk_put BK6.out 0 _ rfl) 1 _ rfl) 2 _ rfl) Tryz.underlying25 rfl (by kernel_rfl)) rfl ⟨by rw [HF.out]; rfl, below_set (below_set (below_set HB.out G6.out) G6.out) G6.out⟩
 have H1Z := Z0 h1
 clear h1
 have hfl : ∀ (x : Int) (W : World), (Instr.field 25 (.agg #[.int .i64 x, .int .i64 0, .string ⟨#[]⟩]) 0).run Tryz.prog W = .ok (.int .i64 x) W := fun _ _ => by kernel_rfl
 have nB := Z0 (below_drew1 HB.out)
 have n3 := Z0 (Y5 BK3.out)
 have n5 := Z0 (Y5 BK5.out)
 have n6 := Z0 (Y5 BK6.out)
 clear k0 k1 k2 k3 v0 v1 v2 r0 r1 r2 q0 q1 q2 q9
 clear HB BK3 BK5 BK6
 have HB := nB
 have BK3 := n3
 have BK5 := n5
 have BK6 := n6
 clear nB n3 n5 n6
 refine start_ (n := 6) (S := fun w' => w'.heap[g3]? = some (.cells #[.string s, .int .i64 kd, .int .i64 wd, .bool nl] 23 (0, 0)) ∧ w'.heap[g5]? = some (.cells #[.int .i64 vk, .int .i64 vn, .string vs] 25 (0, 0))) (ds := []) #[false, false, false, false, false, false] (by kernel_rfl) rfl rfl ⟨BK3.out, BK5.out⟩ (fun hHeld => ?_)
 refine with_tab fit_tab (fun HT_ => ?_)
 generalize w9.drew = w10 at BK3 BK5 BK6 HB hHeld ⊢
 refine pz 0 34 #[true, false, false, false, false, false] HT_ ?_
 refine take_ (i := 1) (N := some 35) (v := ?_) (a' := ?_) #[true, true, false, false, false, false] rfl rfl (take_of HT_.out (by kernel_rfl)) (fun _ _ _ h => h) (Or.inl ⟨by rfl, ?_⟩) hHeld ?_ ?_
 rotate_left
 ·rintro w' ⟨s0, s1⟩
  have sc := (Z4 s1 0).trans rfl
  go_simp
  with_reducible rfl
 rotate_left
 ·simp only [Act.put, Z3, Z6, Z7, i64_w, i32_w]
  rfl
 refine take_ (i := 2) (N := some 36) (v := ?_) (a' := ?_) #[true, true, true, false, false, false] rfl rfl (take_of HT_.out (by kernel_rfl)) (fun _ _ _ h => h) (Or.inl ⟨by rfl, ?_⟩) hHeld ?_ ?_
 rotate_left
 ·rintro w' ⟨s0, s1⟩
  have sc0 := (Z4 s0 0).trans rfl
  have sc1 := (Z4 s0 1).trans rfl
  have sc2 := (Z4 s0 2).trans rfl
  have sc3 := (Z4 s0 3).trans rfl
  go_simp
  with_reducible rfl
 rotate_left
 ·simp only [Act.put, Z3, Z6, Z7, i64_w, i32_w]
  rfl
 refine one_ (i := 3) (N := some 37) #[true, true, true, true, false, false] rfl rfl (one_of HT_.out (by kernel_rfl)) (by decide) (fun K hK => ?_)
 refine goes_ Tryz.func50 (by kernel_rfl) rfl #[.agg #[.string s, .int .i64 kd, .int .i64 wd, .bool nl]] (by rfl) rfl rfl V1 ?_
 refine (CE.out _).mono ?_
 rintro e w11 ⟨rfl, hb⟩
 refine ⟨_, rfl, ?_⟩
 have n3 := Z0 (Z2 BK3.out hb)
 have n5 := Z0 (Z2 BK5.out hb)
 have n6 := Z0 (Z2 BK6.out hb)
 have nB := Z0 (Z1 HB.out hb)
 clear BK3 BK5 BK6 HB hb CE
 have BK3 := n3
 have BK5 := n5
 have BK6 := n6
 have HB := nB
 clear n3 n5 n6 nB
 refine hK.out _ _ ⟨BK3.out, BK5.out⟩ (fun hHeld => ?_)
 clear hK K
 refine norm_ (a' := ?_) ?_ ?_
 rotate_left
 ·show Act.put _ (some 37) _ = _
  simp only [Act.put, Z3, Z6, Z7, i64_w, i32_w]
  rfl
 refine pz 4 38 #[true, true, true, true, true, false] HT_ ?_
 refine pz 5 39 #[true, true, true, true, true, true] HT_ ?_
 refine done_ (done_of HT_.out (by kernel_rfl)) ?_
 clear hHeld HT_
 obtain ⟨k0, k1, k2, k3⟩ := bc4 BK3.out
 obtain ⟨v0, v1, v2⟩ := bc3 BK5.out
 obtain ⟨r0, r1, r2⟩ := bc3 BK6.out
 obtain ⟨q0, q1, q2⟩ := bf3 BK6.out
 have q9 := Z8 BK5.out 2
 have hm0 : (kd = 4 ∨ kd = 2) → 1 ≤ wd ∧ wd ≤ 254 := by
  intro hk
  have := H1.out
  unfold fieldS at this
  simp only [Bool.and_eq_true, decide_eq_true_eq] at this
  obtain ⟨_, _, h3, h4⟩ := this
  rcases hk with rfl | rfl
  ·exact ⟨h3, h4⟩
  exact ⟨h3, Int.le_trans h4 (by decide)⟩
 have HM := Z0 hm0
 clear hm0 hfl
 by_cases hE : vk = emptyK kd
 rotate_left
 ·have hEb : (vk != emptyK kd) = true := by rw [bne_iff_ne]; exact hE
  have HF : Aside0 (fitS s kd wd nl pg vk vn vs = (0, 0, ⟨#[]⟩, 6)) := ⟨by unfold fitS; rw [if_neg (by rw [H1.out, H2.out]; simp)]; rw [H3.out, if_neg (by simp)]; rw [if_neg (by have := H1Z.out; simpa using this)]; rw [if_pos hE]⟩
  clear hE
  go_wp2
  refine bodyPost_ret (results_ct rfl _ _ g6 25 #[.int .i64 0, .int .i64 0, .string ⟨#[]⟩] (0, 0) _ rfl (blk_put (blk_put (blk_put BK6.out 0 _ rfl) 1 _ rfl) 2 _ rfl) Tryz.underlying25 rfl (by kernel_rfl)) rfl ⟨by rw [HF.out]; rfl, below_set (below_set (below_set HB.out G6.out) G6.out) G6.out⟩
 have hEb : (vk != emptyK kd) = false := by rw [bne_eq_false_iff_eq]; exact hE
 have HE := Z0 hE
 have HS : Aside0 (vs.size ≤ 2048) := ⟨by
  have := H3.out
  unfold valS at this
  split at this
  ·exact absurd this (by decide)
  omega⟩
 clear hE
 by_cases k4 : kd = 4
 ·subst k4
  obtain ⟨hw1, hw2⟩ := HM.out (.inl rfl)
  obtain ⟨m, hm⟩ : ∃ m, min vs.size wd.toNat = m := ⟨_, rfl⟩
  have HMM := Z0 hm
  have hsz : (vs.extract 0 m).size ≤ 2048 := by rw [ByteArray.size_extract]; have := HS.out; omega
  obtain ⟨t, ht⟩ : ∃ t, blanksOff (vs.extract 0 m) = t := ⟨_, rfl⟩
  have htz : t.size ≤ 2048 := by rw [← ht]; exact Nat.le_trans (blanksOff_size _) hsz
  obtain ⟨q, hq⟩ : ∃ q, onS pg t = q := ⟨_, rfl⟩
  have CA := Z0 (fun W (h : (vs.size : Int) ≤ wd) => strings_TrimRight.calls vs ⟨#[32]⟩ t W (by
   have e : vs.extract 0 m = vs := by
    have : m = vs.size := by omega
    rw [this]; exact ByteArray.extract_zero_size
   rw [e] at ht hsz
   unfold strings_TrimRight.f; rw [if_pos ⟨by omega, by decide, by decide⟩]; exact congrArg some ht))
  have CT := Z0 (fun W (h : wd < (vs.size : Int)) => strings_TrimRight.calls (vs.extract 0 wd.toNat) ⟨#[32]⟩ t W (by
   have e : m = wd.toNat := by omega
   rw [e] at ht hsz
   unfold strings_TrimRight.f; rw [if_pos ⟨by omega, by decide, by decide⟩]; exact congrArg some ht))
  have CX := Z0 (fun W => table_isText.calls t pg q W (by rw [isText_is t pg htz H2.out, hq]))
  have HT := Z0 ht
  have HQ := Z0 hq
  clear hm ht hsz htz hq hw2
  cases q
  ·have HF : Aside0 (fitS s 4 wd nl pg vk vn vs = (0, 0, ⟨#[]⟩, 10)) := ⟨by unfold fitS; rw [if_neg (by rw [H1.out, H2.out]; simp)]; rw [H3.out, if_neg (by simp)]; rw [if_neg (by have := H1Z.out; simpa using this)]; rw [if_neg (by simpa using HE.out), if_pos rfl, HMM.out, HT.out, HQ.out]; rfl⟩
   go_wp2_with (first | (go_at_call 51; with_reducible refine Calls.mono (CA.out _ (by first | assumption | omega)) ?_; rintro e w12 ⟨rfl, hb⟩; clear k0 k1 k2 k3 v0 v1 v2 r0 r1 r2 q0 q1 q2 q9; have n3 := Z0 (Z2 BK3.out hb); have n5 := Z0 (Z2 BK5.out hb); have n6 := Z0 (Z2 BK6.out hb); have nB := Z0 (Z1 HB.out hb); clear BK3 BK5 BK6 HB hb; have BK3 := n3; have BK5 := n5; have BK6 := n6; have HB := nB; clear n3 n5 n6 nB; obtain ⟨k0, k1, k2, k3⟩ := bc4 BK3.out; obtain ⟨v0, v1, v2⟩ := bc3 BK5.out; obtain ⟨r0, r1, r2⟩ := bc3 BK6.out; obtain ⟨q0, q1, q2⟩ := bf3 BK6.out; have q9 := Z8 BK5.out 2; clear CT CA) | (go_at_call 51; with_reducible refine Calls.mono (CT.out _ (by first | assumption | omega)) ?_; rintro e w12 ⟨rfl, hb⟩; clear k0 k1 k2 k3 v0 v1 v2 r0 r1 r2 q0 q1 q2 q9; have n3 := Z0 (Z2 BK3.out hb); have n5 := Z0 (Z2 BK5.out hb); have n6 := Z0 (Z2 BK6.out hb); have nB := Z0 (Z1 HB.out hb); clear BK3 BK5 BK6 HB hb; have BK3 := n3; have BK5 := n5; have BK6 := n6; have HB := nB; clear n3 n5 n6 nB; obtain ⟨k0, k1, k2, k3⟩ := bc4 BK3.out; obtain ⟨v0, v1, v2⟩ := bc3 BK5.out; obtain ⟨r0, r1, r2⟩ := bc3 BK6.out; obtain ⟨q0, q1, q2⟩ := bf3 BK6.out; have q9 := Z8 BK5.out 2; clear CT CA) | (go_at_call 52; with_reducible refine Calls.mono (CX.out _) ?_; rintro e w13 ⟨rfl, hb⟩; clear k0 k1 k2 k3 v0 v1 v2 r0 r1 r2 q0 q1 q2 q9; have n3 := Z0 (Z2 (blk_far BK3.out N35.out _) hb); have n5 := Z0 (Z2 (blk_put BK5.out 2 (.string t) rfl) hb); have n6 := Z0 (Z2 (blk_far BK6.out (Ne.symm N56.out) _) hb); have nB := Z0 (Z1 (below_set HB.out G5.out) hb); clear BK3 BK5 BK6 HB hb; have BK3 := n3; have BK5 := n5; have BK6 := n6; have HB := nB; clear n3 n5 n6 nB; obtain ⟨k0, k1, k2, k3⟩ := bc4 BK3.out; obtain ⟨v0, v1, v2⟩ := bc3 BK5.out; obtain ⟨r0, r1, r2⟩ := bc3 BK6.out; obtain ⟨q0, q1, q2⟩ := bf3 BK6.out; have q9 := Z8 BK5.out 2; clear CX))
   all_goals refine bodyPost_ret (results_ct rfl _ _ g6 25 #[.int .i64 0, .int .i64 0, .string ⟨#[]⟩] (0, 0) _ rfl (blk_put (blk_put (blk_put BK6.out 0 _ rfl) 1 _ rfl) 2 _ rfl) Tryz.underlying25 rfl (by kernel_rfl)) rfl ⟨by rw [HF.out]; rfl, below_set (below_set (below_set HB.out G6.out) G6.out) G6.out⟩
  have HF : Aside0 (fitS s 4 wd nl pg vk vn vs = (vk, vn, t, 0)) := ⟨by unfold fitS; rw [if_neg (by rw [H1.out, H2.out]; simp)]; rw [H3.out, if_neg (by simp)]; rw [if_neg (by have := H1Z.out; simpa using this)]; rw [if_neg (by simpa using HE.out), if_pos rfl, HMM.out, HT.out, HQ.out]; rfl⟩
  go_wp2_with (first | (go_at_call 51; with_reducible refine Calls.mono (CA.out _ (by first | assumption | omega)) ?_; rintro e w12 ⟨rfl, hb⟩; clear k0 k1 k2 k3 v0 v1 v2 r0 r1 r2 q0 q1 q2 q9; have n3 := Z0 (Z2 BK3.out hb); have n5 := Z0 (Z2 BK5.out hb); have n6 := Z0 (Z2 BK6.out hb); have nB := Z0 (Z1 HB.out hb); clear BK3 BK5 BK6 HB hb; have BK3 := n3; have BK5 := n5; have BK6 := n6; have HB := nB; clear n3 n5 n6 nB; obtain ⟨k0, k1, k2, k3⟩ := bc4 BK3.out; obtain ⟨v0, v1, v2⟩ := bc3 BK5.out; obtain ⟨r0, r1, r2⟩ := bc3 BK6.out; obtain ⟨q0, q1, q2⟩ := bf3 BK6.out; have q9 := Z8 BK5.out 2; clear CT CA) | (go_at_call 51; with_reducible refine Calls.mono (CT.out _ (by first | assumption | omega)) ?_; rintro e w12 ⟨rfl, hb⟩; clear k0 k1 k2 k3 v0 v1 v2 r0 r1 r2 q0 q1 q2 q9; have n3 := Z0 (Z2 BK3.out hb); have n5 := Z0 (Z2 BK5.out hb); have n6 := Z0 (Z2 BK6.out hb); have nB := Z0 (Z1 HB.out hb); clear BK3 BK5 BK6 HB hb; have BK3 := n3; have BK5 := n5; have BK6 := n6; have HB := nB; clear n3 n5 n6 nB; obtain ⟨k0, k1, k2, k3⟩ := bc4 BK3.out; obtain ⟨v0, v1, v2⟩ := bc3 BK5.out; obtain ⟨r0, r1, r2⟩ := bc3 BK6.out; obtain ⟨q0, q1, q2⟩ := bf3 BK6.out; have q9 := Z8 BK5.out 2; clear CT CA) | (go_at_call 52; with_reducible refine Calls.mono (CX.out _) ?_; rintro e w13 ⟨rfl, hb⟩; clear k0 k1 k2 k3 v0 v1 v2 r0 r1 r2 q0 q1 q2 q9; have n3 := Z0 (Z2 (blk_far BK3.out N35.out _) hb); have n5 := Z0 (Z2 (blk_put BK5.out 2 (.string t) rfl) hb); have n6 := Z0 (Z2 (blk_far BK6.out (Ne.symm N56.out) _) hb); have nB := Z0 (Z1 (below_set HB.out G5.out) hb); clear BK3 BK5 BK6 HB hb; have BK3 := n3; have BK5 := n5; have BK6 := n6; have HB := nB; clear n3 n5 n6 nB; obtain ⟨k0, k1, k2, k3⟩ := bc4 BK3.out; obtain ⟨v0, v1, v2⟩ := bc3 BK5.out; obtain ⟨r0, r1, r2⟩ := bc3 BK6.out; obtain ⟨q0, q1, q2⟩ := bf3 BK6.out; have q9 := Z8 BK5.out 2; clear CX))
  all_goals refine bodyPost_ret (results_ct rfl _ _ g6 25 #[.int .i64 vk, .int .i64 vn, .string t] (0, 0) _ rfl (blk_put (blk_put (blk_put BK6.out 0 _ rfl) 1 _ rfl) 2 _ rfl) Tryz.underlying25 rfl (by kernel_rfl)) rfl ⟨by rw [HF.out]; rfl, below_set (below_set (below_set HB.out G6.out) G6.out) G6.out⟩
 have k4b : (kd == 4) = false := beq_eq_false_iff_ne.2 k4
 by_cases k2 : kd = 2
 ·subst k2
  obtain ⟨hw1, hw2⟩ := HM.out (.inr rfl)
  have hv2 : vk = 2 := HE.out
  have hvn : -1000000000000000 ≤ vn ∧ vn ≤ 1000000000000000 := by
   have := H3.out
   unfold valS at this
   rw [hv2, if_neg (by have := HS.out; omega)] at this
   split at this
   rotate_left
   ·exact absurd this (by decide)
   rename_i ho
   unfold valOK at ho
   simpa using (by simpa using ho : _ ∧ _).2
  obtain ⟨q, hq⟩ : ∃ q, decide (((decL vn).length : Int) > wd) = q := ⟨_, rfl⟩
  obtain ⟨t, ht⟩ : ∃ t, strS vn wd = t := ⟨_, rfl⟩
  have CT := Z0 (fun W => val_Str.calls 1 vn wd t 0 W (by rw [str_is vn wd hvn ⟨hw1, hw2⟩ 0, ht]))
  have CX := Z0 (fun W => (strings_HasPrefix.calls t ⟨#[42]⟩ q W (by rw [← ht, hasPrefix_star vn wd hw1, hq])).mono fun _ _ ⟨he, hd⟩ => (⟨he, hd.below⟩ : _ ∧ Below W.heap.size W _))
  have HQ := Z0 hq
  clear hv2 hvn hq ht
  cases q
  ·have HF : Aside0 (fitS s 2 wd nl pg vk vn vs = (vk, vn, vs, 0)) := ⟨by unfold fitS; rw [if_neg (by rw [H1.out, H2.out]; simp)]; rw [H3.out, if_neg (by simp)]; rw [if_neg (by have := H1Z.out; simpa using this)]; rw [if_neg (by simpa using HE.out), if_neg (by decide), if_pos rfl, if_pos (by have := of_decide_eq_false HQ.out; omega)]⟩
   go_wp2_with (first | (go_at_call 53; with_reducible refine Calls.mono (CT.out _) ?_; rintro e w12 ⟨rfl, hb⟩; clear k0 k1 k2 k3 v0 v1 v2 r0 r1 r2 q0 q1 q2 q9; have n3 := Z0 (Z2 BK3.out hb); have n5 := Z0 (Z2 BK5.out hb); have n6 := Z0 (Z2 BK6.out hb); have nB := Z0 (Z1 HB.out hb); clear BK3 BK5 BK6 HB hb; have BK3 := n3; have BK5 := n5; have BK6 := n6; have HB := nB; clear n3 n5 n6 nB; obtain ⟨k0, k1, k2, k3⟩ := bc4 BK3.out; obtain ⟨v0, v1, v2⟩ := bc3 BK5.out; obtain ⟨r0, r1, r2⟩ := bc3 BK6.out; obtain ⟨q0, q1, q2⟩ := bf3 BK6.out; have q9 := Z8 BK5.out 2; clear CT) | (go_at_call 54; with_reducible refine Calls.mono (CX.out _) ?_; rintro e w13 ⟨rfl, hb⟩; clear k0 k1 k2 k3 v0 v1 v2 r0 r1 r2 q0 q1 q2 q9; have n3 := Z0 (Z2 BK3.out hb); have n5 := Z0 (Z2 BK5.out hb); have n6 := Z0 (Z2 BK6.out hb); have nB := Z0 (Z1 HB.out hb); clear BK3 BK5 BK6 HB hb; have BK3 := n3; have BK5 := n5; have BK6 := n6; have HB := nB; clear n3 n5 n6 nB; obtain ⟨k0, k1, k2, k3⟩ := bc4 BK3.out; obtain ⟨v0, v1, v2⟩ := bc3 BK5.out; obtain ⟨r0, r1, r2⟩ := bc3 BK6.out; obtain ⟨q0, q1, q2⟩ := bf3 BK6.out; have q9 := Z8 BK5.out 2; clear CX))
   refine bodyPost_ret (results_ct rfl _ _ g6 25 #[.int .i64 vk, .int .i64 vn, .string vs] (0, 0) _ rfl (blk_put (blk_put (blk_put BK6.out 0 _ rfl) 1 _ rfl) 2 _ rfl) Tryz.underlying25 rfl (by kernel_rfl)) rfl ⟨by rw [HF.out]; rfl, below_set (below_set (below_set HB.out G6.out) G6.out) G6.out⟩
  have HF : Aside0 (fitS s 2 wd nl pg vk vn vs = (0, 0, ⟨#[]⟩, 10)) := ⟨by unfold fitS; rw [if_neg (by rw [H1.out, H2.out]; simp)]; rw [H3.out, if_neg (by simp)]; rw [if_neg (by have := H1Z.out; simpa using this)]; rw [if_neg (by simpa using HE.out), if_neg (by decide), if_pos rfl, if_neg (by have := of_decide_eq_true HQ.out; omega)]⟩
  go_wp2_with (first | (go_at_call 53; with_reducible refine Calls.mono (CT.out _) ?_; rintro e w12 ⟨rfl, hb⟩; clear k0 k1 k2 k3 v0 v1 v2 r0 r1 r2 q0 q1 q2 q9; have n3 := Z0 (Z2 BK3.out hb); have n5 := Z0 (Z2 BK5.out hb); have n6 := Z0 (Z2 BK6.out hb); have nB := Z0 (Z1 HB.out hb); clear BK3 BK5 BK6 HB hb; have BK3 := n3; have BK5 := n5; have BK6 := n6; have HB := nB; clear n3 n5 n6 nB; obtain ⟨k0, k1, k2, k3⟩ := bc4 BK3.out; obtain ⟨v0, v1, v2⟩ := bc3 BK5.out; obtain ⟨r0, r1, r2⟩ := bc3 BK6.out; obtain ⟨q0, q1, q2⟩ := bf3 BK6.out; have q9 := Z8 BK5.out 2; clear CT) | (go_at_call 54; with_reducible refine Calls.mono (CX.out _) ?_; rintro e w13 ⟨rfl, hb⟩; clear k0 k1 k2 k3 v0 v1 v2 r0 r1 r2 q0 q1 q2 q9; have n3 := Z0 (Z2 BK3.out hb); have n5 := Z0 (Z2 BK5.out hb); have n6 := Z0 (Z2 BK6.out hb); have nB := Z0 (Z1 HB.out hb); clear BK3 BK5 BK6 HB hb; have BK3 := n3; have BK5 := n5; have BK6 := n6; have HB := nB; clear n3 n5 n6 nB; obtain ⟨k0, k1, k2, k3⟩ := bc4 BK3.out; obtain ⟨v0, v1, v2⟩ := bc3 BK5.out; obtain ⟨r0, r1, r2⟩ := bc3 BK6.out; obtain ⟨q0, q1, q2⟩ := bf3 BK6.out; have q9 := Z8 BK5.out 2; clear CX))
  refine bodyPost_ret (results_ct rfl _ _ g6 25 #[.int .i64 0, .int .i64 0, .string ⟨#[]⟩] (0, 0) _ rfl (blk_put (blk_put (blk_put BK6.out 0 _ rfl) 1 _ rfl) 2 _ rfl) Tryz.underlying25 rfl (by kernel_rfl)) rfl ⟨by rw [HF.out]; rfl, below_set (below_set (below_set HB.out G6.out) G6.out) G6.out⟩
 have k2b : (kd == 2) = false := beq_eq_false_iff_ne.2 k2
 by_cases k5 : kd = 5
 rotate_left
 ·have k5b : (kd == 5) = false := beq_eq_false_iff_ne.2 k5
  have HF : Aside0 (fitS s kd wd nl pg vk vn vs = (vk, vn, vs, 0)) := ⟨by unfold fitS; rw [if_neg (by rw [H1.out, H2.out]; simp)]; rw [H3.out, if_neg (by simp)]; rw [if_neg (by have := H1Z.out; simpa using this)]; rw [if_neg (by simpa using HE.out), if_neg k4, if_neg k2, if_neg k5]⟩
  clear k4 k2 k5
  go_wp2
  refine bodyPost_ret (results_ct rfl _ _ g6 25 #[.int .i64 vk, .int .i64 vn, .string vs] (0, 0) _ rfl (blk_put (blk_put (blk_put BK6.out 0 _ rfl) 1 _ rfl) 2 _ rfl) Tryz.underlying25 rfl (by kernel_rfl)) rfl ⟨by rw [HF.out]; rfl, below_set (below_set (below_set HB.out G6.out) G6.out) G6.out⟩
 subst k5
 by_cases h1 : vn < 0
 ·have h1b : decide (vn < 0) = true := decide_eq_true h1
  have HF : Aside0 (fitS s 5 wd nl pg vk vn vs = (0, 0, ⟨#[]⟩, 10)) := ⟨by unfold fitS; rw [if_neg (by rw [H1.out, H2.out]; simp)]; rw [H3.out, if_neg (by simp)]; rw [if_neg (by have := H1Z.out; simpa using this)]; rw [if_neg (by simpa using HE.out), if_neg (by decide), if_neg (by decide), if_pos rfl, if_neg (by omega)]⟩
  clear h1
  go_wp2
  refine bodyPost_ret (results_ct rfl _ _ g6 25 #[.int .i64 0, .int .i64 0, .string ⟨#[]⟩] (0, 0) _ rfl (blk_put (blk_put (blk_put BK6.out 0 _ rfl) 1 _ rfl) 2 _ rfl) Tryz.underlying25 rfl (by kernel_rfl)) rfl ⟨by rw [HF.out]; rfl, below_set (below_set (below_set HB.out G6.out) G6.out) G6.out⟩
 have h1b : decide (vn < 0) = false := decide_eq_false h1
 by_cases h2 : vn > 99999999
 ·have h2b : decide (99999999 < vn) = true := decide_eq_true h2
  have HF : Aside0 (fitS s 5 wd nl pg vk vn vs = (0, 0, ⟨#[]⟩, 10)) := ⟨by unfold fitS; rw [if_neg (by rw [H1.out, H2.out]; simp)]; rw [H3.out, if_neg (by simp)]; rw [if_neg (by have := H1Z.out; simpa using this)]; rw [if_neg (by simpa using HE.out), if_neg (by decide), if_neg (by decide), if_pos rfl, if_neg (by omega)]⟩
  clear h1 h2
  go_wp2
  refine bodyPost_ret (results_ct rfl _ _ g6 25 #[.int .i64 0, .int .i64 0, .string ⟨#[]⟩] (0, 0) _ rfl (blk_put (blk_put (blk_put BK6.out 0 _ rfl) 1 _ rfl) 2 _ rfl) Tryz.underlying25 rfl (by kernel_rfl)) rfl ⟨by rw [HF.out]; rfl, below_set (below_set (below_set HB.out G6.out) G6.out) G6.out⟩
 have h2b : decide (99999999 < vn) = false := decide_eq_false h2
 have HF : Aside0 (fitS s 5 wd nl pg vk vn vs = (vk, vn, vs, 0)) := ⟨by unfold fitS; rw [if_neg (by rw [H1.out, H2.out]; simp)]; rw [H3.out, if_neg (by simp)]; rw [if_neg (by have := H1Z.out; simpa using this)]; rw [if_neg (by simpa using HE.out), if_neg (by decide), if_neg (by decide), if_pos rfl, if_pos (by omega)]⟩
 clear h1 h2
 go_wp2
 refine bodyPost_ret (results_ct rfl _ _ g6 25 #[.int .i64 vk, .int .i64 vn, .string vs] (0, 0) _ rfl (blk_put (blk_put (blk_put BK6.out 0 _ rfl) 1 _ rfl) 2 _ rfl) Tryz.underlying25 rfl (by kernel_rfl)) rfl ⟨by rw [HF.out]; rfl, below_set (below_set (below_set HB.out G6.out) G6.out) G6.out⟩
def table_Fit.f (a0_0 : ByteArray) (a0_1 : Int) (a0_2 : Int) (a0_3 : Bool) (a1 : Int) (a2_0 : Int) (a2_1 : Int) (a2_2 : ByteArray) : Option (Int × Int × ByteArray × Int) := some (fitS a0_0 a0_1 a0_2 a0_3 a1 a2_0 a2_1 a2_2)
theorem table_Fit.calls (a0_0 : ByteArray) (a0_1 : Int) (a0_2 : Int) (a0_3 : Bool) (a1 : Int) (a2_0 : Int) (a2_1 : Int) (a2_2 : ByteArray) (r1 : Int) (r2 : Int) (r3 : ByteArray) (r4 : Int) (w : World) (h : table_Fit.f a0_0 a0_1 a0_2 a0_3 a1 a2_0 a2_1 a2_2 = some (r1, r2, r3, r4)) :
  Calls Tryz.prog 13 #[.agg #[.string a0_0, .int .i64 a0_1, .int .i64 a0_2, .bool a0_3], .int .i64 a1, .agg #[.int .i64 a2_0, .int .i64 a2_1, .string a2_2]] w fun e w' => e = .returned (.tuple #[.agg #[.int .i64 r1, .int .i64 r2, .string r3], .int .i64 r4]) ∧ Below w.heap.size w w' := by
 have h' := Option.some.inj h
 have := fit_walk a0_0 a0_1 a0_2 a0_3 a1 a2_0 a2_1 a2_2 w
 rw [h'] at this
 exact this
def table_nullBytes.l0 : Nat → Int → List (S23) → Int → Int → Option (Int)
 | 0, _, _, _, _ => none
 | k + 1, x3, x6, x7, x8 => if x8 < x7 then (if 0 ≤ x8 then (if x8 < (x6.length : Int) then (if (rd_T23 x6 x8).f3 = true then (table_nullBytes.l0 k (wrap64 (x3 + 1)) x6 x7 (wrap64 (x8 + 1))) else (table_nullBytes.l0 k x3 x6 x7 (wrap64 (x8 + 1)))) else (none)) else (none)) else (some (wrap64 (Int.tdiv (wrap64 (x3 + 7)) 8)))
def table_nullBytes.f (k : Nat) (l0 : List (S23)) : Option (Int) := table_nullBytes.l0 k 0 l0 (l0.length : Int) 0
theorem table_nullBytes.mono_l : ∀ k, (∀ y0 y1 y2 y3, LeO (table_nullBytes.l0 k y0 y1 y2 y3) (table_nullBytes.l0 (k + 1) y0 y1 y2 y3))
 | 0 => fun _ _ _ _ r h => by simp [table_nullBytes.l0] at h
 | k + 1 => by
  have ih0 := table_nullBytes.mono_l k
  ·intro y0 y1 y2 y3
   unfold table_nullBytes.l0
   repeat' first
   | (with_reducible exact ih0 _ _ _ _)
   | (with_reducible exact LeO.refl _)
   | (with_reducible exact LeO.none _)
   | (with_reducible refine LeO.ite ?_ ?_)
   | (with_reducible refine LeO.bind ?_ (fun _ => ?_))
theorem table_nullBytes.mono : ∀ a0 k, LeO (table_nullBytes.f k a0) (table_nullBytes.f (k + 1) a0) := by
 intro a0 k
 have ih0 := table_nullBytes.mono_l k
 unfold table_nullBytes.f
 repeat' first
   | (with_reducible exact ih0 _ _ _ _)
   | (with_reducible exact LeO.refl _)
   | (with_reducible exact LeO.none _)
   | (with_reducible refine LeO.ite ?_ ?_)
   | (with_reducible refine LeO.bind ?_ (fun _ => ?_))
theorem table_nullBytes.calls (k : Nat) (A0 : Option Addr) (c0 : Nat) (l0 : List (S23)) (r : Int) (w : World) (hr0 : Kd.C k23 w A0 l0.length l0) (hc0 : l0.length ≤ c0) (h : table_nullBytes.f k l0 = some r) :
  Calls Tryz.prog 71 #[.slice A0 l0.length c0] w fun e w' => e = .returned (.int .i64 r) ∧ Below w.heap.size w w' := by
 have hu23 := Tryz.underlying23
 have HR0 := Z0 hr0
 have HC0 := Z0 hc0
 clear hr0 hc0
 have HB := Z0 (Below.refl w.heap.size w)
 unfold table_nullBytes.f at h
 have H := h
 clear h
 have H' := Z0 H
 clear H
 go_enter Tryz.func71, Tryz.ntmps71
 go_wp2
 go_loopg [3, 8] k (fun kq v3 v8 w' => ∃ (x3_1 : Int) (x8_1 : Int), v3 = .int .i64 x3_1 ∧ v8 = .int .i64 x8_1 ∧ Aside0 (table_nullBytes.l0 kq x3_1 l0 (l0.length : Int) x8_1 = some r) ∧ Aside0 (kq ≤ k) ∧ Aside0 (Below w.heap.size w w'))
 case atStart => exact ⟨(0), (0), V2, V2, H', ⟨Nat.le_refl _⟩, ⟨V0⟩⟩
 case round =>
  clear H'
  obtain ⟨x3_1, x8_1, rfl, rfl, HA, HK1, HB⟩ := hrel
  cases gk with
  | zero => exact absurd HA.out (by simp [table_nullBytes.l0])
  | succ k1 =>
   have H := HA.out
   clear HA
   simp only [table_nullBytes.l0] at H
   by_cases c2 : x8_1 < (l0.length : Int)
   rotate_left
   ·rw [if_neg c2] at H
    have c2b0 : decide (x8_1 < (l0.length : Int)) = false := decide_eq_false c2
    clear c2
    obtain rfl := Option.some.inj H
    go_wp2
    go_ret
    exact ⟨rfl, V0⟩
   rw [if_pos c2] at H
   have c2b0 : decide (x8_1 < (l0.length : Int)) = true := decide_eq_true c2
   clear c2
   by_cases c3 : 0 ≤ x8_1
   rotate_left
   ·rw [if_neg c3] at H
    exact absurd H (by simp)
   rw [if_pos c3] at H
   have c3b0 : decide (0 ≤ x8_1) = true := decide_eq_true c3
   clear c3
   by_cases c4 : x8_1 < (l0.length : Int)
   rotate_left
   ·rw [if_neg c4] at H
    exact absurd H (by simp)
   rw [if_pos c4] at H
   have c4b0 : decide (x8_1 < (l0.length : Int)) = true := decide_eq_true c4
   clear c4
   obtain ⟨bq5, hbq5⟩ : ∃ b_ : Bool, b_ = ((rd_T23 l0 x8_1).f3) := ⟨_, rfl⟩
   replace H : (if bq5 = true then (table_nullBytes.l0 k1 (wrap64 (x3_1 + 1)) l0 (l0.length : Int) (wrap64 (x8_1 + 1))) else (table_nullBytes.l0 k1 x3_1 l0 (l0.length : Int) (wrap64 (x8_1 + 1)))) = some r := by rw [← hbq5] at H; exact H
   have Nbq5 := Z0 hbq5
   clear hbq5
   by_cases c6 : bq5 = true
   ·subst c6
    have H1 : (table_nullBytes.l0 k1 (wrap64 (x3_1 + 1)) l0 (l0.length : Int) (wrap64 (x8_1 + 1))) = some r := by rw [if_pos rfl] at H; exact H
    clear H
    have H := H1
    clear H1
    have H' := Z0 H
    clear H
    have p357 : 0 ≤ (x8_1 : Int) := of_decide_eq_true V3
    have q357 : x8_1 < (l0.length : Int) := of_decide_eq_true V3
    obtain ⟨ad357, e357, hx357_0, hx357_1, hx357_2, hx357_3⟩ := at_T23 HR0.out x8_1 p357 q357
    (try rw [← Nbq5.out] at hx357_3)
    cases e357
    replace hx357_0 := hz HB.out hx357_0
    replace hx357_1 := hz HB.out hx357_1
    replace hx357_2 := hz HB.out hx357_2
    replace hx357_3 := hz HB.out hx357_3
    replace p357 := eq_true p357
    replace q357 := eq_true q357
    go_wp2_with (first | ((with_reducible refine Z9 (N := 5) rfl ?_); refine bx (N := 5) (cs := #[.string (⟨#[]⟩ : ByteArray), .int .i64 0, .int .i64 0, .bool false]) (t := 23) ?_; intro gb358 hg w7 hbox hb; have BK358 := Z0 hbox; have GE358 := ge hg HB.out; replace HB := Z0 (Z1 HB.out hb); clear hb hbox hg; obtain ⟨hcz8_0, hcz8_1, hcz8_2, hcz8_3⟩ := bc4 BK358.out; obtain ⟨hfz8_0, hfz8_1, hfz8_2, hfz8_3⟩ := bf4 BK358.out))
    go_roundg k1
    case measure => have := HK1.out; omega
    case rel => exact ⟨(wrap64 (x3_1 + 1)), (wrap64 (x8_1 + 1)), V2, V2, H', ⟨by have := HK1.out; omega⟩, ⟨V0⟩⟩
   replace c6 := Bool.eq_false_iff.mpr c6
   subst c6
   have H1 : (table_nullBytes.l0 k1 x3_1 l0 (l0.length : Int) (wrap64 (x8_1 + 1))) = some r := by rw [if_neg (show ¬ (false = true) by decide)] at H; exact H
   clear H
   have H := H1
   clear H1
   have H' := Z0 H
   clear H
   have p357 : 0 ≤ (x8_1 : Int) := of_decide_eq_true V3
   have q357 : x8_1 < (l0.length : Int) := of_decide_eq_true V3
   obtain ⟨ad357, e357, hx357_0, hx357_1, hx357_2, hx357_3⟩ := at_T23 HR0.out x8_1 p357 q357
   (try rw [← Nbq5.out] at hx357_3)
   cases e357
   replace hx357_0 := hz HB.out hx357_0
   replace hx357_1 := hz HB.out hx357_1
   replace hx357_2 := hz HB.out hx357_2
   replace hx357_3 := hz HB.out hx357_3
   replace p357 := eq_true p357
   replace q357 := eq_true q357
   go_wp2_with (first | ((with_reducible refine Z9 (N := 5) rfl ?_); refine bx (N := 5) (cs := #[.string (⟨#[]⟩ : ByteArray), .int .i64 0, .int .i64 0, .bool false]) (t := 23) ?_; intro gb358 hg w9 hbox hb; have BK358 := Z0 hbox; have GE358 := ge hg HB.out; replace HB := Z0 (Z1 HB.out hb); clear hb hbox hg; obtain ⟨hcz10_0, hcz10_1, hcz10_2, hcz10_3⟩ := bc4 BK358.out; obtain ⟨hfz10_0, hfz10_1, hfz10_2, hfz10_3⟩ := bf4 BK358.out))
   go_roundg k1
   case measure => have := HK1.out; omega
   case rel => exact ⟨(x3_1), (wrap64 (x8_1 + 1)), V2, V2, H', ⟨by have := HK1.out; omega⟩, ⟨V0⟩⟩
def table_length.l0 : Nat → Int → List (S23) → Int → Int → Option (Int)
 | 0, _, _, _, _ => none
 | k + 1, x3, x9, x10, x11 => if x11 < x10 then (if 0 ≤ x11 then (if x11 < (x9.length : Int) then (table_length.l0 k (wrap64 (x3 + ((rd_T23 x9 x11).f2))) x9 x10 (wrap64 (x11 + 1))) else (none)) else (none)) else (some x3)
def table_length.f (k : Nat) (l0 : List (S23)) : Option (Int) := (table_nullBytes.f k l0).bind fun t359 => (table_length.l0 k (wrap64 (1 + t359)) l0 (l0.length : Int) 0)
theorem table_length.mono_l : ∀ k, (∀ y0 y1 y2 y3, LeO (table_length.l0 k y0 y1 y2 y3) (table_length.l0 (k + 1) y0 y1 y2 y3))
 | 0 => fun _ _ _ _ r h => by simp [table_length.l0] at h
 | k + 1 => by
  have ih0 := table_length.mono_l k
  ·intro y0 y1 y2 y3
   unfold table_length.l0
   repeat' first
   | (with_reducible exact ih0 _ _ _ _)
   | (with_reducible exact table_nullBytes.mono _ _)
   | (with_reducible exact LeO.refl _)
   | (with_reducible exact LeO.none _)
   | (with_reducible refine LeO.ite ?_ ?_)
   | (with_reducible refine LeO.bind ?_ (fun _ => ?_))
theorem table_length.mono : ∀ a0 k, LeO (table_length.f k a0) (table_length.f (k + 1) a0) := by
 intro a0 k
 have ih0 := table_length.mono_l k
 unfold table_length.f
 repeat' first
   | (with_reducible exact ih0 _ _ _ _)
   | (with_reducible exact table_nullBytes.mono _ _)
   | (with_reducible exact LeO.refl _)
   | (with_reducible exact LeO.none _)
   | (with_reducible refine LeO.ite ?_ ?_)
   | (with_reducible refine LeO.bind ?_ (fun _ => ?_))
theorem table_length.calls (k : Nat) (A0 : Option Addr) (c0 : Nat) (l0 : List (S23)) (r : Int) (w : World) (hr0 : Kd.C k23 w A0 l0.length l0) (hc0 : l0.length ≤ c0) (h : table_length.f k l0 = some r) :
  Calls Tryz.prog 69 #[.slice A0 l0.length c0] w fun e w' => e = .returned (.int .i64 r) ∧ Below w.heap.size w w' := by
 have hu23 := Tryz.underlying23
 have HR0 := Z0 hr0
 have HC0 := Z0 hc0
 clear hr0 hc0
 have HB := Z0 (Below.refl w.heap.size w)
 unfold table_length.f at h
 have H := h
 clear h
 replace H := Option.bind_eq_some_iff.mp H
 obtain ⟨t359, A20, H⟩ := H
 replace H : (table_length.l0 k (wrap64 (1 + t359)) l0 (l0.length : Int) 0) = some r := H
 have A2 := Z0 A20
 clear A20
 have H' := Z0 H
 clear H
 go_enter Tryz.func69, Tryz.ntmps69
 go_wp2_with (first | ((with_reducible refine Z5 (f := 71) rfl ?_); refine gl Tryz.func71 (table_nullBytes.calls k _ _ l0 t359 _ (kc HR0.out) HC0.out A2.out) ?_; rintro e w3 ⟨rfl, hb⟩; refine ⟨_, rfl, ?_⟩; replace HB := Z0 (Z1 HB.out hb)))
 go_loopg [3, 11] k (fun kq v3 v11 w' => ∃ (x3_1 : Int) (x11_1 : Int), v3 = .int .i64 x3_1 ∧ v11 = .int .i64 x11_1 ∧ Aside0 (table_length.l0 kq x3_1 l0 (l0.length : Int) x11_1 = some r) ∧ Aside0 (kq ≤ k) ∧ Aside0 (Below w.heap.size w w'))
 case atStart => exact ⟨(wrap64 (1 + t359)), (0), V2, V2, H', ⟨Nat.le_refl _⟩, ⟨V0⟩⟩
 case round =>
  clear H'
  obtain ⟨x3_1, x11_1, rfl, rfl, HA, HK1, HB⟩ := hrel
  cases gk with
  | zero => exact absurd HA.out (by simp [table_length.l0])
  | succ k1 =>
   have H := HA.out
   clear HA
   simp only [table_length.l0] at H
   by_cases c4 : x11_1 < (l0.length : Int)
   rotate_left
   ·rw [if_neg c4] at H
    have c4b0 : decide (x11_1 < (l0.length : Int)) = false := decide_eq_false c4
    clear c4
    obtain rfl := Option.some.inj H
    go_wp2
    go_ret
    exact ⟨rfl, V0⟩
   rw [if_pos c4] at H
   have c4b0 : decide (x11_1 < (l0.length : Int)) = true := decide_eq_true c4
   clear c4
   by_cases c5 : 0 ≤ x11_1
   rotate_left
   ·rw [if_neg c5] at H
    exact absurd H (by simp)
   rw [if_pos c5] at H
   have c5b0 : decide (0 ≤ x11_1) = true := decide_eq_true c5
   clear c5
   by_cases c6 : x11_1 < (l0.length : Int)
   rotate_left
   ·rw [if_neg c6] at H
    exact absurd H (by simp)
   rw [if_pos c6] at H
   have c6b0 : decide (x11_1 < (l0.length : Int)) = true := decide_eq_true c6
   clear c6
   have H' := Z0 H
   clear H
   have p360 : 0 ≤ (x11_1 : Int) := of_decide_eq_true V3
   have q360 : x11_1 < (l0.length : Int) := of_decide_eq_true V3
   obtain ⟨ad360, e360, hx360_0, hx360_1, hx360_2, hx360_3⟩ := at_T23 HR0.out x11_1 p360 q360
   cases e360
   replace hx360_0 := hz HB.out hx360_0
   replace hx360_1 := hz HB.out hx360_1
   replace hx360_2 := hz HB.out hx360_2
   replace hx360_3 := hz HB.out hx360_3
   replace p360 := eq_true p360
   replace q360 := eq_true q360
   go_wp2_with (first | ((with_reducible refine Z9 (N := 5) rfl ?_); refine bx (N := 5) (cs := #[.string (⟨#[]⟩ : ByteArray), .int .i64 0, .int .i64 0, .bool false]) (t := 23) ?_; intro gb361 hg w7 hbox hb; have BK361 := Z0 hbox; have GE361 := ge hg HB.out; replace HB := Z0 (Z1 HB.out hb); clear hb hbox hg; obtain ⟨hcz8_0, hcz8_1, hcz8_2, hcz8_3⟩ := bc4 BK361.out; obtain ⟨hfz8_0, hfz8_1, hfz8_2, hfz8_3⟩ := bf4 BK361.out))
   go_roundg k1
   case measure => have := HK1.out; omega
   case rel => exact ⟨(wrap64 (x3_1 + ((rd_T23 l0 x11_1).f2))), (wrap64 (x11_1 + 1)), V2, V2, H', ⟨by have := HK1.out; omega⟩, ⟨V0⟩⟩
def fS (x : S23) : Bool := fieldS x.f0 x.f1 x.f2
theorem all_take_succ {α : Type} (p : α → Bool) (d : α) : ∀ (l : List α) (n : Nat), n < l.length → (l.take (n + 1)).all p = ((l.take n).all p && p (l.getD n d))
 | [], n, h => absurd h (Nat.not_lt_zero _)
 | x :: r, 0, _ => by simp
 | x :: r, n + 1, h => by
  have ih := all_take_succ p d r n (Nat.lt_of_succ_lt_succ h)
  rw [List.take_succ_cons, List.take_succ_cons, List.all_cons, List.all_cons, ih, List.getD_cons_succ, Bool.and_assoc]
theorem all_bad {α : Type} (p : α → Bool) (d : α) (l : List α) (n : Nat) (h : n < l.length) (hp : p (l.getD n d) = false) : l.all p = false := by
 rw [List.all_eq_false]
 refine ⟨l.getD n d, ?_, by rw [hp]; decide⟩
 rw [List.getD_eq_getElem?_getD, List.getElem?_eq_getElem h, Option.getD_some]
 exact List.getElem_mem h
theorem vf1_calls (s : ByteArray) (kd wd : Int) (nl b : Bool) (w : World) (hb1 : fieldS s kd wd = b) :
  Calls Tryz.prog 76 #[.agg #[.string s, .int .i64 kd, .int .i64 wd, .bool nl]] w fun e w' => e = .returned (.bool (!b)) ∧ Below w.heap.size w w' := by
 have CF := Z0 (fun W => table_isField.calls s kd wd nl b W (by rw [isField_is, hb1]))
 have hu23 := Tryz.underlying23
 clear hb1
 have HB := Z0 (Below.refl w.heap.size w)
 cases b
 all_goals
  go_enter Tryz.func76, Tryz.ntmps76
  go_wp2_with (first | ((with_reducible refine Z9 (N := 1) rfl ?_); refine bx (N := 1) (cs := #[.string s, .int .i64 kd, .int .i64 wd, .bool nl]) (t := 23) ?_; intro g1 hg w1 hbox hb; have BK := Z0 hbox; have GE := Z0 ((by rw [hg]; exact (below_size HB.out)) : w.heap.size ≤ g1); replace HB := Z0 (Z1 HB.out hb); clear hbox hg; obtain ⟨k0, k1, k2, k3⟩ := bc4 BK.out; obtain ⟨kz0, kz1, kz2, kz3⟩ := bf4 BK.out) | (go_at_call 47; (with_reducible refine (CF.out _).mono ?_); rintro e w2 ⟨rfl, hb⟩; replace HB := Z0 (Z1 HB.out hb)))
  go_ret
  exact ⟨rfl, HB.out⟩
theorem vf_idx (A0 : Option Addr) (c0 : Nat) (l0 : List (S23)) (w : World) (hr0 : Kd.C k23 w A0 l0.length l0) (hc0 : l0.length ≤ c0) (hL : l0.length ≤ 1000000000) :
  Calls Tryz.prog 66 #[.slice A0 l0.length c0, .func (.func 76) #[] #[]] w fun e w' => ∃ n : Int, e = .returned (.int .i64 n) ∧ decide (n ≥ 0) = !l0.all fS ∧ Below w.heap.size w w' := by
 have hu23 := Tryz.underlying23
 have HR0 := Z0 hr0
 have HC0 := Z0 hc0
 have HL := Z0 hL
 clear hr0 hc0 hL
 have HB := Z0 (Below.refl w.heap.size w)
 go_enter Tryz.func66, Tryz.ntmps66
 go_wp2
 go_loopg [8] (l0.length + 1) (fun kq v8 w' => ∃ n : Nat, v8 = .int .i64 (n : Int) ∧ Aside0 (n ≤ l0.length) ∧ Aside0 ((l0.take n).all fS = true) ∧ Aside0 (kq + n = l0.length + 1) ∧ Aside0 (Below w.heap.size w w'))
 case atStart => exact ⟨0, rfl, ⟨Nat.zero_le _⟩, ⟨by simp⟩, ⟨by omega⟩, HB⟩
 case round =>
  obtain ⟨n, rfl, HN, HA, HK, HB⟩ := hrel
  by_cases c3 : (n : Int) < (l0.length : Int)
  rotate_left
  ·have c3b := decide_eq_false c3
   have hn : n = l0.length := by have := HN.out; omega
   have hA := HA.out
   rw [hn, List.take_length] at hA
   have HA' := Z0 hA
   clear hA
   go_wp2
   go_ret
   exact ⟨_, rfl, by rw [HA'.out]; rfl, HB.out⟩
  have c3b := decide_eq_true c3
  have p2 : (0 : Int) ≤ n := Int.natCast_nonneg _
  obtain ⟨ad, ea, hx0, hx1, hx2, hx3⟩ := at_T23 HR0.out (n : Int) p2 c3
  cases ea
  replace hx0 := hz HB.out hx0
  replace hx1 := hz HB.out hx1
  replace hx2 := hz HB.out hx2
  replace hx3 := hz HB.out hx3
  obtain ⟨x, hxx⟩ : ∃ x, rd_T23 l0 (n : Int) = x := ⟨_, rfl⟩
  rw [hxx] at hx0 hx1 hx2 hx3
  rw [Int.toNat_natCast] at hx0 hx1 hx2 hx3
  have hget : l0.getD n z23 = x := hxx
  have hall := all_take_succ fS z23 l0 n (Int.ofNat_lt.1 c3)
  rw [hget, HA.out, Bool.true_and] at hall
  have HX := Z0 hget
  have HAL := Z0 hall
  have hw : wrap64 ((n : Int) + 1) = ((n + 1 : Nat) : Int) := by
   have := HL.out
   have e : ((n : Int) + 1) = ((n + 1 : Nat) : Int) := by omega
   rw [e]; exact (show wrap64 ((n + 1 : Nat) : Int) = _ by unfold wrap64; omega)
  have HN1 := Z0 (Int.ofNat_lt.1 c3)
  clear hget hall hxx
  obtain ⟨b, hb1⟩ : ∃ b, fS x = b := ⟨_, rfl⟩
  have CV := Z0 (fun W => vf1_calls x.f0 x.f1 x.f2 x.f3 b W hb1)
  have HB1 := Z0 hb1
  clear hb1
  cases b
  ·go_wp2_with (first | (go_at_call 76; (with_reducible refine (CV.out _).mono ?_); rintro e w7 ⟨rfl, hb⟩; replace HB := Z0 (Z1 HB.out hb)))
   go_ret
   refine ⟨_, rfl, ?_, HB.out⟩
   rw [all_bad fS z23 l0 n HN1.out (by rw [HX.out]; exact HB1.out)]
   exact decide_eq_true (Int.natCast_nonneg _)
  go_wp2_with (first | (go_at_call 76; (with_reducible refine (CV.out _).mono ?_); rintro e w7 ⟨rfl, hb⟩; replace HB := Z0 (Z1 HB.out hb)))
  go_roundg (gk - 1)
  case measure => have := HK.out; have := HN1.out; omega
  case rel => exact ⟨n + 1, by rw [hw], ⟨HN1.out⟩, ⟨by rw [HAL.out]; exact HB1.out⟩, ⟨by have := HK.out; have := HN1.out; omega⟩, HB⟩
theorem vf_con (A0 : Option Addr) (c0 : Nat) (l0 : List (S23)) (b : Bool) (w : World) (hr0 : Kd.C k23 w A0 l0.length l0) (hc0 : l0.length ≤ c0) (hL : l0.length ≤ 1000000000) (hb1 : l0.all fS = b) :
  Calls Tryz.prog 75 #[.slice A0 l0.length c0, .func (.func 76) #[] #[]] w fun e w' => e = .returned (.bool (!b)) ∧ Below w.heap.size w w' := by
 have CI := Z0 (vf_idx A0 c0 l0 w hr0 hc0 hL)
 rw [hb1] at CI
 clear hr0 hc0 hL hb1
 have HB := Z0 (Below.refl w.heap.size w)
 go_enter Tryz.func75, Tryz.ntmps75
 go_wp2_with (first | (go_at_call 66; (with_reducible refine (CI.out).mono ?_); rintro e w1 ⟨n, rfl, hn, hb⟩; have HN := Z0 hn; clear hn; replace HB := Z0 (Z1 HB.out hb)))
 go_ret
 exact ⟨by rw [HN.out]; rfl, HB.out⟩
end
end Go.Proofs.YtldpdidlfbphcaaGreatDoor.P
end
section
namespace Go.Proofs.YtldpdidlfbphcaaGreatDoor.P
open Go.RowKit Go.Proofs.YtldpdidlfbphcaaGreatDoorW.PrintWords Go.Proofs.YtldpdidlfbphcaaGreatDoorW.PrintLast Go.Proofs.YtldpdidlfbphcaaGreatDoorW.PrintMore
open Go.ChangeMaps Go.ChangeShapes Go.WideShapes Go.MapKept
section
attribute [local go_sem] max2_int min2_int max_two min_two max_three min_three max_four min_four
theorem drop_getD {α : Type} (d : α) : ∀ (l : List α) (n : Nat), n < l.length → l.drop n = l.getD n d :: l.drop (n + 1)
 | [], n, h => absurd h (Nat.not_lt_zero _)
 | x :: r, 0, _ => rfl
 | x :: r, n + 1, h => by
  rw [List.drop_succ_cons, List.drop_succ_cons, List.getD_cons_succ]
  exact drop_getD d r n (Nat.lt_of_succ_lt_succ h)
theorem take_getD {α : Type} (d : α) : ∀ (l : List α) (n : Nat), n < l.length → l.take (n + 1) = l.take n ++ [l.getD n d]
 | [], n, h => absurd h (Nat.not_lt_zero _)
 | x :: r, 0, _ => rfl
 | x :: r, n + 1, h => by
  rw [List.take_succ_cons, List.take_succ_cons, List.getD_cons_succ, take_getD d r n (Nat.lt_of_succ_lt_succ h)]
  rfl
def nullsN : List S23 → Nat
 | [] => 0
 | x :: r => (if x.f3 = true then 1 else 0) + nullsN r
def wideN : List S23 → Int
 | [] => 0
 | x :: r => x.f2 + wideN r
def lenS (l : List S23) : Int := 1 + ((nullsN l + 7) / 8 : Nat) + wideN l
theorem nullsN_le : ∀ l, nullsN l ≤ l.length
 | [] => Nat.le_refl _
 | x :: r => by
  have := nullsN_le r
  unfold nullsN
  rw [List.length_cons]
  split <;> omega
theorem fS_width {x : S23} (h : fS x = true) : 0 ≤ x.f2 ∧ x.f2 ≤ 254 := by
 unfold fS fieldS kindLo kindHi at h
 simp only [Bool.and_eq_true, decide_eq_true_eq] at h
 obtain ⟨_, _, h1, h2⟩ := h
 constructor
 ·refine Int.le_trans ?_ h1
  repeat' split
  all_goals decide
 refine Int.le_trans h2 ?_
 repeat' split
 all_goals decide
theorem nulls_go (l0 : List S23) (hL : l0.length ≤ 1000000000) : ∀ (m n k acc : Nat), n + m = l0.length → m < k → acc ≤ n → table_nullBytes.l0 k (acc : Int) l0 (l0.length : Int) (n : Int) = some (((acc + nullsN (l0.drop n) + 7) / 8 : Nat) : Int)
 | 0, n, 0, acc, h, hk, ha => absurd hk (by omega)
 | m + 1, n, 0, acc, h, hk, ha => absurd hk (by omega)
 | 0, n, k + 1, acc, h, hk, ha => by
  unfold table_nullBytes.l0
  rw [if_neg (by omega), List.drop_eq_nil_of_le (by omega)]
  have e : wrap64 ((acc : Int) + 7) = ((acc + 7 : Nat) : Int) := by unfold wrap64; omega
  have e2 : Int.tdiv ((acc + 7 : Nat) : Int) 8 = (((acc + 7) / 8 : Nat) : Int) := rfl
  rw [e, e2]
  refine congrArg some ?_
  unfold nullsN wrap64
  omega
 | m + 1, n, k + 1, acc, h, hk, ha => by
  unfold table_nullBytes.l0
  rw [if_pos (by omega), if_pos (by omega), if_pos (by omega), drop_getD z23 l0 n (by omega)]
  have e : rd_T23 l0 (n : Int) = l0.getD n z23 := rfl
  have e1 : wrap64 ((n : Int) + 1) = ((n + 1 : Nat) : Int) := by unfold wrap64; omega
  have e2 : wrap64 ((acc : Int) + 1) = ((acc + 1 : Nat) : Int) := by unfold wrap64; omega
  rw [e, e1, e2]
  show _ = some (((acc + ((if (l0.getD n z23).f3 = true then 1 else 0) + nullsN (l0.drop (n + 1))) + 7) / 8 : Nat) : Int)
  split
  ·rw [nulls_go l0 hL m (n + 1) k (acc + 1) (by omega) (by omega) (by omega), Nat.add_assoc acc 1]
  ·rw [nulls_go l0 hL m (n + 1) k acc (by omega) (by omega) (by omega), Nat.zero_add]
theorem nulls_is (l0 : List S23) (hL : l0.length ≤ 1000000000) (k : Nat) (hk : l0.length < k) : table_nullBytes.f k l0 = some (((nullsN l0 + 7) / 8 : Nat) : Int) := by
 have := nulls_go l0 hL l0.length 0 k 0 (by omega) hk (Nat.le_refl _)
 rw [List.drop_zero, Nat.zero_add] at this
 exact this
theorem wide_go (l0 : List S23) (hL : l0.length ≤ 1000000000) (hf : l0.all fS = true) : ∀ (m n k : Nat) (acc : Int), n + m = l0.length → m < k → 0 ≤ acc → acc ≤ 1000000000 + 254 * n → table_length.l0 k acc l0 (l0.length : Int) (n : Int) = some (acc + wideN (l0.drop n))
 | 0, n, 0, acc, h, hk, ha, hb => absurd hk (by omega)
 | m + 1, n, 0, acc, h, hk, ha, hb => absurd hk (by omega)
 | 0, n, k + 1, acc, h, hk, ha, hb => by
  unfold table_length.l0
  rw [if_neg (by omega), List.drop_eq_nil_of_le (by omega)]
  refine congrArg some ?_
  unfold wideN
  omega
 | m + 1, n, k + 1, acc, h, hk, ha, hb => by
  unfold table_length.l0
  rw [if_pos (by omega), if_pos (by omega), if_pos (by omega), drop_getD z23 l0 n (by omega)]
  have e : rd_T23 l0 (n : Int) = l0.getD n z23 := rfl
  have hx : fS (l0.getD n z23) = true := by
   rw [List.getD_eq_getElem?_getD, List.getElem?_eq_getElem (show n < l0.length by omega), Option.getD_some]
   exact List.all_eq_true.1 hf _ (List.getElem_mem _)
  have hw := fS_width hx
  rw [e]
  generalize l0.getD n z23 = x at hw ⊢
  have e1 : wrap64 ((n : Int) + 1) = ((n + 1 : Nat) : Int) := by unfold wrap64; omega
  have e2 : wrap64 (acc + x.f2) = acc + x.f2 := by unfold wrap64; omega
  rw [e1, e2, wide_go l0 hL hf m (n + 1) k (acc + x.f2) (by omega) (by omega) (by omega) (by omega)]
  refine congrArg some ?_
  show _ = acc + (x.f2 + wideN (l0.drop (n + 1)))
  omega
theorem length_is (l0 : List S23) (hL : l0.length ≤ 1000000000) (hf : l0.all fS = true) (k : Nat) (hk : l0.length < k) : table_length.f k l0 = some (lenS l0) := by
 unfold table_length.f lenS
 have hn := nullsN_le l0
 rw [nulls_is l0 hL k hk, Option.bind_some]
 have e : wrap64 (1 + (((nullsN l0 + 7) / 8 : Nat) : Int)) = 1 + (((nullsN l0 + 7) / 8 : Nat) : Int) := by unfold wrap64; omega
 rw [e]
 have := wide_go l0 hL hf l0.length 0 k (1 + (((nullsN l0 + 7) / 8 : Nat) : Int)) (by omega) hk (by omega) (by omega)
 rw [List.drop_zero] at this
 exact this
def hasName (l : List S23) (s : ByteArray) : Bool := l.any (fun x => s == x.f0)
def dupA : List S23 → List S23 → Bool
 | _, [] => false
 | acc, x :: r => hasName acc x.f0 || dupA (acc ++ [x]) r
def vfS (l : List S23) : Int := if l.length = 0 then 1 else if l.all fS = false then 1 else if dupA [] l = true then 5 else if l.length > 16 then 3 else if lenS l > 2000 then 3 else 0
def seenE : List S23 → Nat → List MapEntry
 | [], _ => []
 | x :: r, i => ⟨.string x.f0, .bool true, i⟩ :: seenE r (i + 1)
theorem seenE_snoc (x : S23) : ∀ (l : List S23) (i : Nat), seenE (l ++ [x]) i = seenE l i ++ [⟨.string x.f0, .bool true, i + l.length⟩]
 | [], i => rfl
 | y :: r, i => by
  show _ :: seenE (r ++ [x]) (i + 1) = _
  rw [seenE_snoc x r (i + 1), List.length_cons, Nat.add_assoc, Nat.add_comm 1]
  rfl
theorem find_seen (s : ByteArray) : ∀ (l : List S23) (i j : Nat), Instr.findNow .string (.string s) (seenE l i) j = if hasName l s = true then some (some (j + (l.findIdx (fun x => s == x.f0)), .bool true)) else some none
 | [], i, j => rfl
 | x :: r, i, j => by
  have ih := find_seen s r (i + 1) (j + 1)
  show (match Instr.sameNow .string (.string s) (.string x.f0) with | some true => some (some (j, Value.bool true)) | some false => Instr.findNow .string (.string s) (seenE r (i + 1)) (j + 1) | none => none) = _
  have e : Instr.sameNow .string (.string s) (.string x.f0) = some (s == x.f0) := rfl
  rw [e, ih]
  unfold hasName
  rw [List.any_cons, List.findIdx_cons]
  cases s == x.f0
  ·simp only [Bool.false_or, cond_false, Nat.add_assoc, Nat.add_comm 1]
  ·rfl
theorem run_seen (W : World) (r : Nat) (l : List S23) (c : Nat) (s : ByteArray) (b : Bool) (hb : W.heap[r]? = some (.map (seenE l 0).toArray c)) (hs : hasName l s = b) :
  (Instr.lookup 88 (.map (some r)) (.string s) false).run Tryz.prog W = .ok (.bool b) W := by
 have ht := Tryz.underlying88
 have hk := Tryz.underlying9
 have hkey : IsKey .string (.string s) := trivial
 have hf := find_seen s l 0 0
 have hz : ∀ W, (zeroValue 4).run Tryz.prog W = .ok (.bool false) W := (Go.zero_of_info (n := 1) (by kernel_rfl)).1
 cases b
 ·rw [if_neg (by rw [hs]; decide)] at hf
  have hf' : Instr.findNow .string (.string s) (seenE l 0).toArray.toList 0 = some none := hf
  simp [Instr.lookup, run_underlying ht, MapKept.run_getObj_map hb, run_checkKey hk hkey, run_findKey hk hf', Result.andThen, hz]
 rw [if_pos hs] at hf
 have hf' : Instr.findNow .string (.string s) (seenE l 0).toArray.toList 0 = some (some (_, .bool true)) := hf
 simp [Instr.lookup, run_underlying ht, MapKept.run_getObj_map hb, run_checkKey hk hkey, run_findKey hk hf', Result.andThen]
theorem seen_ins {w W : World} {r : Nat} {l : List S23} {c : Nat} (x : S23) (hb : W.heap[r]? = some (.map (seenE l 0).toArray c)) (hc : l.length = c) (hs : hasName l x.f0 = false) (hB : Below w.heap.size w W) (hr : w.heap.size ≤ r) :
  ∃ W', (Instr.mapUpdate 88 (.map (some r)) (.string x.f0) (.bool true)).run Tryz.prog W = .ok () W' ∧ W'.heap[r]? = some (.map (seenE (l ++ [x]) 0).toArray (c + 1)) ∧ Below w.heap.size w W' := by
 have ht := Tryz.underlying88
 have hk := Tryz.underlying9
 have hkey : IsKey .string (.string x.f0) := trivial
 have hf := find_seen x.f0 l 0 0
 rw [if_neg (by rw [hs]; decide)] at hf
 have hf' : Instr.findNow .string (.string x.f0) (seenE l 0).toArray.toList 0 = some none := hf
 have he : (seenE (l ++ [x]) 0).toArray = (seenE l 0).toArray.push ⟨.string x.f0, .bool true, c⟩ := by
  rw [seenE_snoc, Nat.zero_add, hc, List.push_toArray]
 refine ⟨setBlock W r (.map ((seenE l 0).toArray.push ⟨.string x.f0, .bool true, c⟩) (c + 1)), ?_, by rw [he]; exact heap_setBlock_same hb _, hB.trans ⟨rfl, rfl, rfl, ?_, fun i hi => heap_setBlock_other hb _ (by omega)⟩⟩
 rotate_left
 ·simp [setBlock]
 simp [Instr.mapUpdate, run_underlying ht, MapKept.run_getObj_map hb, run_checkKey hk hkey, run_findKey hk hf', MapKept.run_setObj_map _ hb, Result.andThen, setBlock]
theorem obj_far {w : World} {g : Nat} {o : Obj} (h : w.heap[g]? = some o) {p : Addr} (hp : g ≠ p.block) (u : Value) : (w.setCell p u).heap[g]? = some o := (Below.heap_setCell w p u g hp).trans h
theorem vf_walk (A0 : Option Addr) (c0 : Nat) (l0 : List (S23)) (w : World) (hr0 : Kd.C k23 w A0 l0.length l0) (hc0 : l0.length ≤ c0) (hL : l0.length ≤ 1000000000) :
  Calls Tryz.prog 36 #[.slice A0 l0.length c0] w fun e w' => e = .returned (.int .i64 (vfS l0)) ∧ Below w.heap.size w w' := by
 have hu23 := Tryz.underlying23
 have hmm := @run_makeMap Tryz.prog 88
 obtain ⟨b, hb1⟩ : ∃ b, l0.all fS = b := ⟨_, rfl⟩
 have CC := Z0 (vf_con A0 c0 l0 b w hr0 hc0 hL hb1)
 have HR0 := Z0 hr0
 have HC0 := Z0 hc0
 have HL := Z0 hL
 have HF := Z0 hb1
 clear hr0 hc0 hL hb1
 have HB := Z0 (Below.refl w.heap.size w)
 by_cases h0 : l0.length = 0
 ·have c0b : ((l0.length : Int) == 0) = true := by rw [h0]; rfl
  have HV : Aside0 (vfS l0 = 1) := ⟨by unfold vfS; rw [if_pos h0]⟩
  clear h0
  go_enter Tryz.func36, Tryz.ntmps36
  go_wp2
  go_ret
  exact ⟨by rw [HV.out]; rfl, HB.out⟩
 have c0b : ((l0.length : Int) == 0) = false := beq_eq_false_iff_ne.2 (by omega)
 have H0 := Z0 h0
 clear h0
 cases b
 ·have HV : Aside0 (vfS l0 = 1) := ⟨by unfold vfS; rw [if_neg H0.out, if_pos HF.out]⟩
  go_enter Tryz.func36, Tryz.ntmps36
  go_wp2_with (first | (go_at_call 75; (with_reducible refine (CC.out).mono ?_); rintro e w1 ⟨rfl, hb⟩; replace HB := Z0 (Z1 HB.out hb)))
  go_ret
  exact ⟨by rw [HV.out]; rfl, HB.out⟩
 go_enter Tryz.func36, Tryz.ntmps36
 go_wp2_with (first | (go_at_call 75; (with_reducible refine (CC.out).mono ?_); rintro e w1 ⟨rfl, hb⟩; replace HB := Z0 (Z1 HB.out hb)))
 have GM : Aside0 (w.heap.size ≤ w1.heap.size) := ⟨HB.out.size⟩
 go_loopg [16] (l0.length + 1) (fun kq v16 w' => ∃ n : Nat, v16 = .int .i64 (n : Int) ∧ Aside0 (n ≤ l0.length) ∧ Aside0 (dupA [] l0 = dupA (l0.take n) (l0.drop n)) ∧ Aside0 (kq + n = l0.length + 1) ∧ Aside0 (w'.heap[w1.heap.size]? = some (.map (seenE (l0.take n) 0).toArray n)) ∧ Aside0 (Below w.heap.size w w'))
 case atStart => exact ⟨0, rfl, ⟨Nat.zero_le _⟩, ⟨rfl⟩, ⟨by omega⟩, ⟨blk_new w1 _⟩, ⟨below_alloc HB.out _⟩⟩
 case round =>
  clear HB
  obtain ⟨n, rfl, HN, HA, HK, HM, HB⟩ := hrel
  by_cases c3 : (n : Int) < (l0.length : Int)
  rotate_left
  ·have c3b := decide_eq_false c3
   have hn : n = l0.length := by have := HN.out; omega
   have hA := HA.out
   rw [hn, List.take_length, List.drop_length] at hA
   have HA' : Aside0 (dupA [] l0 = false) := ⟨hA⟩
   clear hA hn
   by_cases h16 : l0.length > 16
   ·have c16 : decide (16 < (l0.length : Int)) = true := decide_eq_true (by omega)
    have HV : Aside0 (vfS l0 = 3) := ⟨by unfold vfS; rw [if_neg H0.out, if_neg (by rw [HF.out]; decide), if_neg (by rw [HA'.out]; decide), if_pos h16]⟩
    clear h16
    go_wp2
    go_ret
    exact ⟨by rw [HV.out]; rfl, HB.out⟩
   have c16 : decide (16 < (l0.length : Int)) = false := decide_eq_false (by omega)
   obtain ⟨m, hm⟩ : ∃ m, lenS l0 = m := ⟨_, rfl⟩
   have CL := Z0 (fun W a b => table_length.calls (l0.length + 1) A0 c0 l0 m W a b (by rw [length_is l0 HL.out HF.out _ (Nat.lt_succ_self _), hm]))
   have H16 := Z0 h16
   clear h16
   by_cases h2 : m > 2000
   ·have c2 : decide (2000 < m) = true := decide_eq_true h2
    have HV : Aside0 (vfS l0 = 3) := ⟨by unfold vfS; rw [if_neg H0.out, if_neg (by rw [HF.out]; decide), if_neg (by rw [HA'.out]; decide), if_neg H16.out, hm, if_pos h2]⟩
    clear h2 hm
    go_wp2_with (first | (go_at_call 69; (with_reducible refine (CL.out _ (Kd.C_below HR0.out HB.out) HC0.out).mono ?_); rintro e w8 ⟨rfl, hb⟩; replace HB := Z0 (Z1 HB.out hb)))
    go_ret
    exact ⟨by rw [HV.out]; rfl, HB.out⟩
   have c2 : decide (2000 < m) = false := decide_eq_false h2
   have HV : Aside0 (vfS l0 = 0) := ⟨by unfold vfS; rw [if_neg H0.out, if_neg (by rw [HF.out]; decide), if_neg (by rw [HA'.out]; decide), if_neg H16.out, hm, if_neg h2]⟩
   clear h2 hm
   go_wp2_with (first | (go_at_call 69; (with_reducible refine (CL.out _ (Kd.C_below HR0.out HB.out) HC0.out).mono ?_); rintro e w8 ⟨rfl, hb⟩; replace HB := Z0 (Z1 HB.out hb)))
   go_ret
   exact ⟨by rw [HV.out]; rfl, HB.out⟩
  have c3b := decide_eq_true c3
  have p2 : (0 : Int) ≤ n := Int.natCast_nonneg _
  obtain ⟨ad, ea, hx0, hx1, hx2, hx3⟩ := at_T23 HR0.out (n : Int) p2 c3
  cases ea
  replace hx0 := hz HB.out hx0
  replace hx1 := hz HB.out hx1
  replace hx2 := hz HB.out hx2
  replace hx3 := hz HB.out hx3
  obtain ⟨x, hxx⟩ : ∃ x, rd_T23 l0 (n : Int) = x := ⟨_, rfl⟩
  rw [hxx] at hx0 hx1 hx2 hx3
  rw [Int.toNat_natCast] at hx0 hx1 hx2 hx3
  have hget : l0.getD n z23 = x := hxx
  have hdrop := drop_getD z23 l0 n (Int.ofNat_lt.1 c3)
  have htake := take_getD z23 l0 n (Int.ofNat_lt.1 c3)
  rw [hget] at hdrop htake
  have hdup := HA.out
  rw [hdrop] at hdup
  have hw : wrap64 ((n : Int) + 1) = ((n + 1 : Nat) : Int) := by
   have := HL.out
   have e : ((n : Int) + 1) = ((n + 1 : Nat) : Int) := by omega
   rw [e]; exact (show wrap64 ((n + 1 : Nat) : Int) = _ by unfold wrap64; omega)
  have HN1 := Z0 (Int.ofNat_lt.1 c3)
  have HLN : Aside0 ((l0.take n).length = n) := ⟨by rw [List.length_take]; exact Nat.min_eq_left HN.out⟩
  obtain ⟨d, hd⟩ : ∃ d, hasName (l0.take n) x.f0 = d := ⟨_, rfl⟩
  have HD := Z0 hd
  have HT := Z0 htake
  have HA2 : Aside0 (dupA [] l0 = (d || dupA (l0.take (n + 1)) (l0.drop (n + 1)))) := ⟨by rw [hdup, htake, ← hd]; rfl⟩
  clear hget hxx hd htake hdup hdrop HA
  cases d
  rotate_left
  ·have HV : Aside0 (vfS l0 = 5) := ⟨by unfold vfS; rw [if_neg H0.out, if_neg (by rw [HF.out]; decide), if_pos (by rw [HA2.out]; rfl)]⟩
   go_wp2_with (first | ((with_reducible refine Z9 (N := 5) rfl ?_); refine bx (N := 5) (cs := #[.string (⟨#[]⟩ : ByteArray), .int .i64 0, .int .i64 0, .bool false]) (t := 23) ?_; intro g5 hg w7 hbox hb; have NE := Z0 ((by rw [hg]; exact Nat.ne_of_lt (blk_lt HM.out)) : w1.heap.size ≠ g5); have HM7 := Z0 (Z2 HM.out hb); clear HM; have BK := Z0 hbox; have GE := Z0 ((by rw [hg]; exact (below_size HB.out)) : w.heap.size ≤ g5); replace HB := Z0 (Z1 HB.out hb); clear hbox hg; obtain ⟨k0, k1, k2, k3⟩ := bc4 BK.out; obtain ⟨kz0, kz1, kz2, kz3⟩ := bf4 BK.out; have m4 := obj_far (obj_far (obj_far (obj_far HM7.out NE.out (p := ⟨g5, 0, none⟩) (.string x.f0)) NE.out (p := ⟨g5, 1, none⟩) (.int .i64 x.f1)) NE.out (p := ⟨g5, 2, none⟩) (.int .i64 x.f2)) NE.out (p := ⟨g5, 3, none⟩) (.bool x.f3); have hlk := run_seen _ w1.heap.size (l0.take n) n x.f0 true m4 HD.out; clear m4))
   go_ret
   exact ⟨by rw [HV.out]; rfl, below_set (below_set (below_set (below_set HB.out GE.out) GE.out) GE.out) GE.out⟩
  go_wp2_with (first | ((with_reducible refine Z9 (N := 5) rfl ?_); refine bx (N := 5) (cs := #[.string (⟨#[]⟩ : ByteArray), .int .i64 0, .int .i64 0, .bool false]) (t := 23) ?_; intro g5 hg w7 hbox hb; have NE := Z0 ((by rw [hg]; exact Nat.ne_of_lt (blk_lt HM.out)) : w1.heap.size ≠ g5); have HM7 := Z0 (Z2 HM.out hb); clear HM; have BK := Z0 hbox; have GE := Z0 ((by rw [hg]; exact (below_size HB.out)) : w.heap.size ≤ g5); replace HB := Z0 (Z1 HB.out hb); clear hbox hg; obtain ⟨k0, k1, k2, k3⟩ := bc4 BK.out; obtain ⟨kz0, kz1, kz2, kz3⟩ := bf4 BK.out; have m4 := obj_far (obj_far (obj_far (obj_far HM7.out NE.out (p := ⟨g5, 0, none⟩) (.string x.f0)) NE.out (p := ⟨g5, 1, none⟩) (.int .i64 x.f1)) NE.out (p := ⟨g5, 2, none⟩) (.int .i64 x.f2)) NE.out (p := ⟨g5, 3, none⟩) (.bool x.f3); have hlk := run_seen _ w1.heap.size (l0.take n) n x.f0 false m4 HD.out; obtain ⟨W5, hup, hm5, hb5⟩ := seen_ins x m4 HLN.out HD.out (below_set (below_set (below_set (below_set HB.out GE.out) GE.out) GE.out) GE.out) GM.out; have HM5 := Z0 hm5; have HB5 := Z0 hb5; clear hm5 hb5; clear m4))
  go_roundg (gk - 1)
  case measure => have := HK.out; have := HN1.out; omega
  case rel => exact ⟨n + 1, by rw [hw], ⟨HN1.out⟩, ⟨by rw [HA2.out]; rfl⟩, ⟨by have := HK.out; have := HN1.out; omega⟩, ⟨by rw [HT.out]; exact HM5.out⟩, HB5⟩
def table_ValidateFields.f (l0 : List (S23)) : Option (Int) := if l0.length ≤ 1000000000 then some (vfS l0) else none
theorem table_ValidateFields.calls (A0 : Option Addr) (c0 : Nat) (l0 : List (S23)) (r : Int) (w : World) (hr0 : Kd.C k23 w A0 l0.length l0) (hc0 : l0.length ≤ c0) (h : table_ValidateFields.f l0 = some r) :
  Calls Tryz.prog 36 #[.slice A0 l0.length c0] w fun e w' => e = .returned (.int .i64 r) ∧ Below w.heap.size w w' := by
 unfold table_ValidateFields.f at h
 split at h
 rotate_left
 ·cases h
 rename_i hL
 cases h
 exact vf_walk A0 c0 l0 w hr0 hc0 hL
end
end Go.Proofs.YtldpdidlfbphcaaGreatDoor.P
end
section
namespace Go.Proofs.YtldpdidlfbphcaaGreatDoor.P
open Go.RowKit Go.Proofs.YtldpdidlfbphcaaGreatDoorW.PrintWords Go.Proofs.YtldpdidlfbphcaaGreatDoorW.PrintLast Go.Proofs.YtldpdidlfbphcaaGreatDoorW.PrintMore
section
attribute [local go_sem] max2_int min2_int max_two min_two max_three min_three max_four min_four
def cabinetryref03_nulls.l0 : Nat → List (S23) → Int → Int → Option (Int)
 | 0, _, _, _ => none
 | k + 1, x0, x3, x4 => if x4 < (x0.length : Int) then (if 0 ≤ x4 then (if (rd_T23 x0 x4).f3 = true then (cabinetryref03_nulls.l0 k x0 (wrap64 (x3 + 1)) (wrap64 (x4 + 1))) else (cabinetryref03_nulls.l0 k x0 x3 (wrap64 (x4 + 1)))) else (none)) else (some (wrap64 (Int.tdiv (wrap64 (x3 + 7)) 8)))
def cabinetryref03_nulls.f (k : Nat) (l0 : List (S23)) : Option (Int) := cabinetryref03_nulls.l0 k l0 0 0
theorem cabinetryref03_nulls.mono_l : ∀ k, (∀ y0 y1 y2, LeO (cabinetryref03_nulls.l0 k y0 y1 y2) (cabinetryref03_nulls.l0 (k + 1) y0 y1 y2))
 | 0 => fun _ _ _ r h => by simp [cabinetryref03_nulls.l0] at h
 | k + 1 => by
  have ih0 := cabinetryref03_nulls.mono_l k
  ·intro y0 y1 y2
   unfold cabinetryref03_nulls.l0
   repeat' first
   | (with_reducible exact ih0 _ _ _)
   | (with_reducible exact LeO.refl _)
   | (with_reducible exact LeO.none _)
   | (with_reducible refine LeO.ite ?_ ?_)
   | (with_reducible refine LeO.bind ?_ (fun _ => ?_))
theorem cabinetryref03_nulls.mono : ∀ a0 k, LeO (cabinetryref03_nulls.f k a0) (cabinetryref03_nulls.f (k + 1) a0) := by
 intro a0 k
 have ih0 := cabinetryref03_nulls.mono_l k
 unfold cabinetryref03_nulls.f
 repeat' first
   | (with_reducible exact ih0 _ _ _)
   | (with_reducible exact LeO.refl _)
   | (with_reducible exact LeO.none _)
   | (with_reducible refine LeO.ite ?_ ?_)
   | (with_reducible refine LeO.bind ?_ (fun _ => ?_))
theorem cabinetryref03_nulls.calls (k : Nat) (A0 : Option Addr) (c0 : Nat) (l0 : List (S23)) (r : Int) (w : World) (hr0 : Kd.C k23 w A0 l0.length l0) (hc0 : l0.length ≤ c0) (h : cabinetryref03_nulls.f k l0 = some r) :
  Calls Tryz.prog 72 #[.slice A0 l0.length c0] w fun e w' => e = .returned (.int .i64 r) ∧ Drawn0 w w' := by
 have HR0 := Z0 hr0
 have HC0 := Z0 hc0
 clear hr0 hc0
 unfold cabinetryref03_nulls.f at h
 have H := h
 clear h
 have H' := Z0 H
 clear H
 go_enter Tryz.func72, Tryz.ntmps72
 go_wp2
 go_loopg [3, 4] k (fun kq v3 v4 w' => ∃ (x3_1 : Int) (x4_1 : Int), v3 = .int .i64 x3_1 ∧ v4 = .int .i64 x4_1 ∧ Aside0 (cabinetryref03_nulls.l0 kq l0 x3_1 x4_1 = some r) ∧ Aside0 (kq ≤ k) ∧ Drawn0 w w')
 case atStart => exact ⟨(0), (0), V2, V2, H', ⟨Nat.le_refl _⟩, by repeat (first | exact Y4 _ | apply Y0)⟩
 case round =>
  clear H'
  obtain ⟨x3_1, x4_1, rfl, rfl, HA, HK1, ⟨m1, rfl⟩⟩ := hrel
  cases gk with
  | zero => exact absurd HA.out (by simp [cabinetryref03_nulls.l0])
  | succ k1 =>
   have H := HA.out
   clear HA
   simp only [cabinetryref03_nulls.l0] at H
   by_cases c2 : x4_1 < (l0.length : Int)
   rotate_left
   ·rw [if_neg c2] at H
    have c2b0 : decide (x4_1 < (l0.length : Int)) = false := decide_eq_false c2
    clear c2
    obtain rfl := Option.some.inj H
    go_wp2
    go_ret
    exact ⟨V2, by repeat (first | exact Y4 _ | apply Y0)⟩
   rw [if_pos c2] at H
   have c2b0 : decide (x4_1 < (l0.length : Int)) = true := decide_eq_true c2
   clear c2
   by_cases c3 : 0 ≤ x4_1
   rotate_left
   ·rw [if_neg c3] at H
    exact absurd H (by simp)
   rw [if_pos c3] at H
   have c3b0 : decide (0 ≤ x4_1) = true := decide_eq_true c3
   clear c3
   obtain ⟨bq4, hbq4⟩ : ∃ b_ : Bool, b_ = ((rd_T23 l0 x4_1).f3) := ⟨_, rfl⟩
   replace H : (if bq4 = true then (cabinetryref03_nulls.l0 k1 l0 (wrap64 (x3_1 + 1)) (wrap64 (x4_1 + 1))) else (cabinetryref03_nulls.l0 k1 l0 x3_1 (wrap64 (x4_1 + 1)))) = some r := by rw [← hbq4] at H; exact H
   have Nbq4 := Z0 hbq4
   clear hbq4
   by_cases c5 : bq4 = true
   ·subst c5
    have H1 : (cabinetryref03_nulls.l0 k1 l0 (wrap64 (x3_1 + 1)) (wrap64 (x4_1 + 1))) = some r := by rw [if_pos rfl] at H; exact H
    clear H
    have H := H1
    clear H1
    have H' := Z0 H
    clear H
    have p211 : 0 ≤ (x4_1 : Int) := of_decide_eq_true V3
    have q211 : x4_1 < (l0.length : Int) := of_decide_eq_true V3
    obtain ⟨ad211, e211, hx211_0, hx211_1, hx211_2, hx211_3⟩ := at_T23 HR0.out x4_1 p211 q211
    (try rw [← Nbq4.out] at hx211_3)
    cases e211
    replace p211 := eq_true p211
    replace q211 := eq_true q211
    go_wp2
    go_roundg k1
    case measure => have := HK1.out; omega
    case rel => exact ⟨(wrap64 (x3_1 + 1)), (wrap64 (x4_1 + 1)), V2, V2, H', ⟨by have := HK1.out; omega⟩, by repeat (first | exact Y4 _ | apply Y0)⟩
   replace c5 := Bool.eq_false_iff.mpr c5
   subst c5
   have H1 : (cabinetryref03_nulls.l0 k1 l0 x3_1 (wrap64 (x4_1 + 1))) = some r := by rw [if_neg (show ¬ (false = true) by decide)] at H; exact H
   clear H
   have H := H1
   clear H1
   have H' := Z0 H
   clear H
   have p211 : 0 ≤ (x4_1 : Int) := of_decide_eq_true V3
   have q211 : x4_1 < (l0.length : Int) := of_decide_eq_true V3
   obtain ⟨ad211, e211, hx211_0, hx211_1, hx211_2, hx211_3⟩ := at_T23 HR0.out x4_1 p211 q211
   (try rw [← Nbq4.out] at hx211_3)
   cases e211
   replace p211 := eq_true p211
   replace q211 := eq_true q211
   go_wp2
   go_roundg k1
   case measure => have := HK1.out; omega
   case rel => exact ⟨(x3_1), (wrap64 (x4_1 + 1)), V2, V2, H', ⟨by have := HK1.out; omega⟩, by repeat (first | exact Y4 _ | apply Y0)⟩
def cabinetryref03_Wide.l0 : Nat → List (S23) → Int → Int → Option (Int)
 | 0, _, _, _ => none
 | k + 1, x0, x3, x4 => if x4 < (x0.length : Int) then (if 0 ≤ x4 then (cabinetryref03_Wide.l0 k x0 (wrap64 (x3 + ((rd_T23 x0 x4).f2))) (wrap64 (x4 + 1))) else (none)) else (some x3)
def cabinetryref03_Wide.f (k : Nat) (l0 : List (S23)) : Option (Int) := (cabinetryref03_nulls.f k l0).bind fun t212 => (cabinetryref03_Wide.l0 k l0 (wrap64 (1 + t212)) 0)
theorem cabinetryref03_Wide.mono_l : ∀ k, (∀ y0 y1 y2, LeO (cabinetryref03_Wide.l0 k y0 y1 y2) (cabinetryref03_Wide.l0 (k + 1) y0 y1 y2))
 | 0 => fun _ _ _ r h => by simp [cabinetryref03_Wide.l0] at h
 | k + 1 => by
  have ih0 := cabinetryref03_Wide.mono_l k
  ·intro y0 y1 y2
   unfold cabinetryref03_Wide.l0
   repeat' first
   | (with_reducible exact ih0 _ _ _)
   | (with_reducible exact cabinetryref03_nulls.mono _ _)
   | (with_reducible exact LeO.refl _)
   | (with_reducible exact LeO.none _)
   | (with_reducible refine LeO.ite ?_ ?_)
   | (with_reducible refine LeO.bind ?_ (fun _ => ?_))
theorem cabinetryref03_Wide.mono : ∀ a0 k, LeO (cabinetryref03_Wide.f k a0) (cabinetryref03_Wide.f (k + 1) a0) := by
 intro a0 k
 have ih0 := cabinetryref03_Wide.mono_l k
 unfold cabinetryref03_Wide.f
 repeat' first
   | (with_reducible exact ih0 _ _ _)
   | (with_reducible exact cabinetryref03_nulls.mono _ _)
   | (with_reducible exact LeO.refl _)
   | (with_reducible exact LeO.none _)
   | (with_reducible refine LeO.ite ?_ ?_)
   | (with_reducible refine LeO.bind ?_ (fun _ => ?_))
theorem cabinetryref03_Wide.calls (k : Nat) (A0 : Option Addr) (c0 : Nat) (l0 : List (S23)) (r : Int) (w : World) (hr0 : Kd.C k23 w A0 l0.length l0) (hc0 : l0.length ≤ c0) (h : cabinetryref03_Wide.f k l0 = some r) :
  Calls Tryz.prog 70 #[.slice A0 l0.length c0] w fun e w' => e = .returned (.int .i64 r) ∧ Drawn0 w w' := by
 have HR0 := Z0 hr0
 have HC0 := Z0 hc0
 clear hr0 hc0
 unfold cabinetryref03_Wide.f at h
 have H := h
 clear h
 replace H := Option.bind_eq_some_iff.mp H
 obtain ⟨t212, A20, H⟩ := H
 replace H : (cabinetryref03_Wide.l0 k l0 (wrap64 (1 + t212)) 0) = some r := H
 have A2 := Z0 A20
 clear A20
 have H' := Z0 H
 clear H
 go_enter Tryz.func70, Tryz.ntmps70
 go_wp2_with (first | ((with_reducible refine Z5 (f := 72) rfl ?_); refine gl Tryz.func72 (cabinetryref03_nulls.calls k _ _ l0 t212 _ (kc HR0.out) HC0.out A2.out) ?_; rintro e w' ⟨rfl, ⟨nd, rfl⟩⟩; refine ⟨_, rfl, ?_⟩))
 go_loopg [3, 4] k (fun kq v3 v4 w' => ∃ (x3_1 : Int) (x4_1 : Int), v3 = .int .i64 x3_1 ∧ v4 = .int .i64 x4_1 ∧ Aside0 (cabinetryref03_Wide.l0 kq l0 x3_1 x4_1 = some r) ∧ Aside0 (kq ≤ k) ∧ Drawn0 w w')
 case atStart => exact ⟨(wrap64 (1 + t212)), (0), V2, V2, H', ⟨Nat.le_refl _⟩, by repeat (first | exact Y4 _ | apply Y0)⟩
 case round =>
  clear H'
  obtain ⟨x3_1, x4_1, rfl, rfl, HA, HK1, ⟨m1, rfl⟩⟩ := hrel
  cases gk with
  | zero => exact absurd HA.out (by simp [cabinetryref03_Wide.l0])
  | succ k1 =>
   have H := HA.out
   clear HA
   simp only [cabinetryref03_Wide.l0] at H
   by_cases c3 : x4_1 < (l0.length : Int)
   rotate_left
   ·rw [if_neg c3] at H
    have c3b0 : decide (x4_1 < (l0.length : Int)) = false := decide_eq_false c3
    clear c3
    obtain rfl := Option.some.inj H
    go_wp2
    go_ret
    exact ⟨V2, by repeat (first | exact Y4 _ | apply Y0)⟩
   rw [if_pos c3] at H
   have c3b0 : decide (x4_1 < (l0.length : Int)) = true := decide_eq_true c3
   clear c3
   by_cases c4 : 0 ≤ x4_1
   rotate_left
   ·rw [if_neg c4] at H
    exact absurd H (by simp)
   rw [if_pos c4] at H
   have c4b0 : decide (0 ≤ x4_1) = true := decide_eq_true c4
   clear c4
   have H' := Z0 H
   clear H
   have p213 : 0 ≤ (x4_1 : Int) := of_decide_eq_true V3
   have q213 : x4_1 < (l0.length : Int) := of_decide_eq_true V3
   obtain ⟨ad213, e213, hx213_0, hx213_1, hx213_2, hx213_3⟩ := at_T23 HR0.out x4_1 p213 q213
   cases e213
   replace p213 := eq_true p213
   replace q213 := eq_true q213
   go_wp2
   go_roundg k1
   case measure => have := HK1.out; omega
   case rel => exact ⟨(wrap64 (x3_1 + ((rd_T23 l0 x4_1).f2))), (wrap64 (x4_1 + 1)), V2, V2, H', ⟨by have := HK1.out; omega⟩, by repeat (first | exact Y4 _ | apply Y0)⟩
mutual
def cabinetryref03_ValidateFields.l0 : Nat → List (S23) → Int → Option (Int)
 | 0, _, _ => none
 | k + 1, x0, x3 => if x3 < (x0.length : Int) then (if 0 ≤ x3 then ((cabinetryref03_isField.f k ((rd_T23 x0 x3).f0) ((rd_T23 x0 x3).f1) ((rd_T23 x0 x3).f2) ((rd_T23 x0 x3).f3)).bind fun t215 => (if t215 = true then (cabinetryref03_ValidateFields.l0 k x0 (wrap64 (x3 + 1))) else (some 1))) else (none)) else (cabinetryref03_ValidateFields.l1 k x0 0)
def cabinetryref03_ValidateFields.l1 : Nat → List (S23) → Int → Option (Int)
 | 0, _, _ => none
 | k + 1, x0, x4 => if x4 < (x0.length : Int) then (cabinetryref03_ValidateFields.l2 k x0 x4 0) else (if (x0.length : Int) > 16 then (some 3) else ((cabinetryref03_Wide.f k x0).bind fun t218 => (if t218 > 2000 then (some 3) else (some 0))))
def cabinetryref03_ValidateFields.l2 : Nat → List (S23) → Int → Int → Option (Int)
 | 0, _, _, _ => none
 | k + 1, x0, x4, x5 => if x5 < x4 then (if 0 ≤ x4 then (if x4 < (x0.length : Int) then (if 0 ≤ x5 then (if x5 < (x0.length : Int) then (if ((rd_T23 x0 x4).f0).toList = ((rd_T23 x0 x5).f0).toList then (some 5) else (cabinetryref03_ValidateFields.l2 k x0 x4 (wrap64 (x5 + 1)))) else (none)) else (none)) else (none)) else (none)) else (cabinetryref03_ValidateFields.l1 k x0 (wrap64 (x4 + 1)))
end
def cabinetryref03_ValidateFields.f (k : Nat) (l0 : List (S23)) : Option (Int) := if (l0.length : Int) = 0 then (some 1) else (cabinetryref03_ValidateFields.l0 k l0 0)
theorem cabinetryref03_ValidateFields.mono_l : ∀ k, (∀ y0 y1, LeO (cabinetryref03_ValidateFields.l0 k y0 y1) (cabinetryref03_ValidateFields.l0 (k + 1) y0 y1)) ∧ (∀ y0 y1, LeO (cabinetryref03_ValidateFields.l1 k y0 y1) (cabinetryref03_ValidateFields.l1 (k + 1) y0 y1)) ∧ (∀ y0 y1 y2, LeO (cabinetryref03_ValidateFields.l2 k y0 y1 y2) (cabinetryref03_ValidateFields.l2 (k + 1) y0 y1 y2))
 | 0 => ⟨fun _ _ r h => by simp [cabinetryref03_ValidateFields.l0] at h, fun _ _ r h => by simp [cabinetryref03_ValidateFields.l1] at h, fun _ _ _ r h => by simp [cabinetryref03_ValidateFields.l2] at h⟩
 | k + 1 => by
  obtain ⟨ih0, ih1, ih2⟩ := cabinetryref03_ValidateFields.mono_l k
  refine ⟨?_, ?_, ?_⟩
  ·intro y0 y1
   unfold cabinetryref03_ValidateFields.l0
   repeat' first
   | (with_reducible exact ih0 _ _)
   | (with_reducible exact ih1 _ _)
   | (with_reducible exact ih2 _ _ _)
   | (with_reducible exact cabinetryref03_Wide.mono _ _)
   | (with_reducible exact cabinetryref03_isField.mono _ _ _ _ _)
   | (with_reducible exact LeO.refl _)
   | (with_reducible exact LeO.none _)
   | (with_reducible refine LeO.ite ?_ ?_)
   | (with_reducible refine LeO.bind ?_ (fun _ => ?_))
  ·intro y0 y1
   unfold cabinetryref03_ValidateFields.l1
   repeat' first
   | (with_reducible exact ih0 _ _)
   | (with_reducible exact ih1 _ _)
   | (with_reducible exact ih2 _ _ _)
   | (with_reducible exact cabinetryref03_Wide.mono _ _)
   | (with_reducible exact cabinetryref03_isField.mono _ _ _ _ _)
   | (with_reducible exact LeO.refl _)
   | (with_reducible exact LeO.none _)
   | (with_reducible refine LeO.ite ?_ ?_)
   | (with_reducible refine LeO.bind ?_ (fun _ => ?_))
  ·intro y0 y1 y2
   unfold cabinetryref03_ValidateFields.l2
   repeat' first
   | (with_reducible exact ih0 _ _)
   | (with_reducible exact ih1 _ _)
   | (with_reducible exact ih2 _ _ _)
   | (with_reducible exact cabinetryref03_Wide.mono _ _)
   | (with_reducible exact cabinetryref03_isField.mono _ _ _ _ _)
   | (with_reducible exact LeO.refl _)
   | (with_reducible exact LeO.none _)
   | (with_reducible refine LeO.ite ?_ ?_)
   | (with_reducible refine LeO.bind ?_ (fun _ => ?_))
theorem cabinetryref03_ValidateFields.mono : ∀ a0 k, LeO (cabinetryref03_ValidateFields.f k a0) (cabinetryref03_ValidateFields.f (k + 1) a0) := by
 intro a0 k
 obtain ⟨ih0, ih1, ih2⟩ := cabinetryref03_ValidateFields.mono_l k
 unfold cabinetryref03_ValidateFields.f
 repeat' first
   | (with_reducible exact ih0 _ _)
   | (with_reducible exact ih1 _ _)
   | (with_reducible exact ih2 _ _ _)
   | (with_reducible exact cabinetryref03_Wide.mono _ _)
   | (with_reducible exact cabinetryref03_isField.mono _ _ _ _ _)
   | (with_reducible exact LeO.refl _)
   | (with_reducible exact LeO.none _)
   | (with_reducible refine LeO.ite ?_ ?_)
   | (with_reducible refine LeO.bind ?_ (fun _ => ?_))
theorem cabinetryref03_ValidateFields.calls (k : Nat) (A0 : Option Addr) (c0 : Nat) (l0 : List (S23)) (r : Int) (w : World) (hr0 : Kd.C k23 w A0 l0.length l0) (hc0 : l0.length ≤ c0) (h : cabinetryref03_ValidateFields.f k l0 = some r) :
  Calls Tryz.prog 37 #[.slice A0 l0.length c0] w fun e w' => e = .returned (.int .i64 r) ∧ Below w.heap.size w w' := by
 have hu23 := Tryz.underlying23
 have HR0 := Z0 hr0
 have HC0 := Z0 hc0
 clear hr0 hc0
 have HB := Z0 (Below.refl w.heap.size w)
 unfold cabinetryref03_ValidateFields.f at h
 have H := h
 clear h
 by_cases c2 : (l0.length : Int) = 0
 ·rw [if_pos c2] at H
  have c2b0 : ((l0.length : Int) == 0) = true := beq_iff_eq.mpr c2
  have c2b1 : ((l0.length : Int) != 0) = false := bne_eq_false_iff_eq.mpr c2
  clear c2
  obtain rfl := Option.some.inj H
  go_enter Tryz.func37, Tryz.ntmps37
  go_wp2
  repeat (go_quiet (fail); try go_wp2)
  go_ret
  exact ⟨rfl, V0⟩
 rw [if_neg c2] at H
 have c2b0 : ((l0.length : Int) == 0) = false := beq_eq_false_iff_ne.mpr c2
 have c2b1 : ((l0.length : Int) != 0) = true := bne_iff_ne.mpr c2
 have c2b2 : ¬ (l0 = []) := fun h_ => c2 (by rw [h_]; rfl)
 have H' := Z0 H
 clear H
 go_enter Tryz.func37, Tryz.ntmps37
 go_wp2
 repeat (go_quiet (fail); try go_wp2)
 go_loopg [3] k (fun kq v3 w' => ∃ (x3_1 : Int), v3 = .int .i64 x3_1 ∧ Aside0 (cabinetryref03_ValidateFields.l0 kq l0 x3_1 = some r) ∧ Aside0 (kq ≤ k) ∧ Aside0 (Below w.heap.size w w'))
 case atStart => exact ⟨(0), V2, H', ⟨Nat.le_refl _⟩, ⟨V0⟩⟩
 case round =>
  clear H'
  obtain ⟨x3_1, rfl, HA, HK1, HB⟩ := hrel
  cases gk with
  | zero => exact absurd HA.out (by simp [cabinetryref03_ValidateFields.l0])
  | succ k1 =>
   have H := HA.out
   clear HA
   simp only [cabinetryref03_ValidateFields.l0] at H
   by_cases c3 : x3_1 < (l0.length : Int)
   ·rw [if_pos c3] at H
    have c3b0 : decide (x3_1 < (l0.length : Int)) = true := decide_eq_true c3
    clear c3
    by_cases c4 : 0 ≤ x3_1
    rotate_left
    ·rw [if_neg c4] at H
     exact absurd H (by simp)
    rw [if_pos c4] at H
    have c4b0 : decide (0 ≤ x3_1) = true := decide_eq_true c4
    clear c4
    replace H := Option.bind_eq_some_iff.mp H
    obtain ⟨t215, A50, H⟩ := H
    replace H : (if t215 = true then (cabinetryref03_ValidateFields.l0 k1 l0 (wrap64 (x3_1 + 1))) else (some 1)) = some r := H
    have A5 := Z0 A50
    clear A50
    by_cases c6 : t215 = true
    rotate_left
    ·replace c6 := Bool.eq_false_iff.mpr c6
     subst c6
     have H1 : (some 1) = some r := by rw [if_neg (show ¬ (false = true) by decide)] at H; exact H
     clear H
     have H := H1
     clear H1
     obtain rfl := Option.some.inj H
     have p214 : 0 ≤ (x3_1 : Int) := of_decide_eq_true V3
     have q214 : x3_1 < (l0.length : Int) := of_decide_eq_true V3
     obtain ⟨ad214, e214, hx214_0, hx214_1, hx214_2, hx214_3⟩ := at_T23 HR0.out x3_1 p214 q214
     cases e214
     replace hx214_0 := hz HB.out hx214_0
     replace hx214_1 := hz HB.out hx214_1
     replace hx214_2 := hz HB.out hx214_2
     replace hx214_3 := hz HB.out hx214_3
     replace p214 := eq_true p214
     replace q214 := eq_true q214
     go_wp2_with (first | (go_at_call 55; (with_reducible refine (cabinetryref03_isField.calls k1 ((rd_T23 l0 x3_1).f0) ((rd_T23 l0 x3_1).f1) ((rd_T23 l0 x3_1).f2) ((rd_T23 l0 x3_1).f3) false _ A5.out).mono ?_); rintro e w8 ⟨rfl, hb⟩; replace HB := Z0 (Z1 HB.out hb)))
     go_ret
     exact ⟨rfl, V0⟩
    subst c6
    have H1 : (cabinetryref03_ValidateFields.l0 k1 l0 (wrap64 (x3_1 + 1))) = some r := by rw [if_pos rfl] at H; exact H
    clear H
    have H := H1
    clear H1
    have H' := Z0 H
    clear H
    have p214 : 0 ≤ (x3_1 : Int) := of_decide_eq_true V3
    have q214 : x3_1 < (l0.length : Int) := of_decide_eq_true V3
    obtain ⟨ad214, e214, hx214_0, hx214_1, hx214_2, hx214_3⟩ := at_T23 HR0.out x3_1 p214 q214
    cases e214
    replace hx214_0 := hz HB.out hx214_0
    replace hx214_1 := hz HB.out hx214_1
    replace hx214_2 := hz HB.out hx214_2
    replace hx214_3 := hz HB.out hx214_3
    replace p214 := eq_true p214
    replace q214 := eq_true q214
    go_wp2_with (first | (go_at_call 55; (with_reducible refine (cabinetryref03_isField.calls k1 ((rd_T23 l0 x3_1).f0) ((rd_T23 l0 x3_1).f1) ((rd_T23 l0 x3_1).f2) ((rd_T23 l0 x3_1).f3) true _ A5.out).mono ?_); rintro e w7 ⟨rfl, hb⟩; replace HB := Z0 (Z1 HB.out hb)))
    go_roundg k1
    case measure => have := HK1.out; omega
    case rel => exact ⟨(wrap64 (x3_1 + 1)), V2, H', ⟨by have := HK1.out; omega⟩, ⟨V0⟩⟩
   rw [if_neg c3] at H
   have c3b0 : decide (x3_1 < (l0.length : Int)) = false := decide_eq_false c3
   clear c3
   have H' := Z0 H
   clear H
   go_wp2
   repeat (go_quiet (fail); try go_wp2)
   go_loopg [4] k1 (fun kq v4 w' => ∃ (x4_2 : Int), v4 = .int .i64 x4_2 ∧ Aside0 (cabinetryref03_ValidateFields.l1 kq l0 x4_2 = some r) ∧ Aside0 (kq ≤ k1) ∧ Aside0 (Below w.heap.size w w'))
   case atStart => exact ⟨(0), V2, H', ⟨Nat.le_refl _⟩, ⟨V0⟩⟩
   case round =>
    clear H'
    obtain ⟨x4_2, rfl, HA, HK2, HB⟩ := hrel
    cases gk with
    | zero => exact absurd HA.out (by simp [cabinetryref03_ValidateFields.l1])
    | succ k2 =>
     have H := HA.out
     clear HA
     simp only [cabinetryref03_ValidateFields.l1] at H
     by_cases c9 : x4_2 < (l0.length : Int)
     rotate_left
     ·rw [if_neg c9] at H
      have c9b0 : decide (x4_2 < (l0.length : Int)) = false := decide_eq_false c9
      clear c9
      by_cases c16 : (l0.length : Int) > 16
      ·rw [if_pos c16] at H
       have c16b0 : decide (16 < (l0.length : Int)) = true := decide_eq_true c16
       have c16b1 : decide (16 < l0.length) = true := decide_eq_true (by omega)
       clear c16
       obtain rfl := Option.some.inj H
       go_wp2
       repeat (go_quiet (fail); try go_wp2)
       go_ret
       exact ⟨rfl, V0⟩
      rw [if_neg c16] at H
      have c16b0 : decide (16 < (l0.length : Int)) = false := decide_eq_false c16
      have c16b1 : decide (16 < l0.length) = false := decide_eq_false (by omega)
      clear c16
      replace H := Option.bind_eq_some_iff.mp H
      obtain ⟨t218, A170, H⟩ := H
      replace H : (if t218 > 2000 then (some 3) else (some 0)) = some r := H
      have A17 := Z0 A170
      clear A170
      by_cases c18 : t218 > 2000
      ·rw [if_pos c18] at H
       have c18b0 : decide (2000 < t218) = true := decide_eq_true c18
       clear c18
       obtain rfl := Option.some.inj H
       go_wp2_with (first | (go_at_call 70; (with_reducible refine (cabinetryref03_Wide.calls k2 _ _ l0 t218 _ ?side1 ?side2 A17.out).mono ?_); (case side1 => repeat (first | exact (Kd.C_below HR0.out HB.out) | (with_reducible refine Kd.C_alloc ?_ _) | (with_reducible refine Kd.C_drewN ?_ _) | (with_reducible refine Kd.C_drew ?_))); (case side2 => exact HC0.out); rintro e w' ⟨rfl, ⟨nd, rfl⟩⟩; (try first | exact ⟨rfl, _, World.drewN_drewN _ _ _⟩ | exact ⟨rfl, _, Eq.trans (World.drewN_drewN _ _ _) (congrArg (World.drewN _) (Nat.add_assoc _ _ _))⟩)))
       go_ret
       exact ⟨rfl, V0⟩
      rw [if_neg c18] at H
      have c18b0 : decide (2000 < t218) = false := decide_eq_false c18
      clear c18
      obtain rfl := Option.some.inj H
      go_wp2_with (first | (go_at_call 70; (with_reducible refine (cabinetryref03_Wide.calls k2 _ _ l0 t218 _ ?side1 ?side2 A17.out).mono ?_); (case side1 => repeat (first | exact (Kd.C_below HR0.out HB.out) | (with_reducible refine Kd.C_alloc ?_ _) | (with_reducible refine Kd.C_drewN ?_ _) | (with_reducible refine Kd.C_drew ?_))); (case side2 => exact HC0.out); rintro e w' ⟨rfl, ⟨nd, rfl⟩⟩; (try first | exact ⟨rfl, _, World.drewN_drewN _ _ _⟩ | exact ⟨rfl, _, Eq.trans (World.drewN_drewN _ _ _) (congrArg (World.drewN _) (Nat.add_assoc _ _ _))⟩)))
      go_ret
      exact ⟨rfl, V0⟩
     rw [if_pos c9] at H
     have c9b0 : decide (x4_2 < (l0.length : Int)) = true := decide_eq_true c9
     clear c9
     have H' := Z0 H
     clear H
     go_wp2
     repeat (go_quiet (fail); try go_wp2)
     go_loopg [5] k2 (fun kq v5 w' => ∃ (x5_3 : Int), v5 = .int .i64 x5_3 ∧ Aside0 (cabinetryref03_ValidateFields.l2 kq l0 x4_2 x5_3 = some r) ∧ Aside0 (kq ≤ k2) ∧ Aside0 (Below w.heap.size w w'))
     case atStart => exact ⟨(0), V2, H', ⟨Nat.le_refl _⟩, ⟨V0⟩⟩
     case round =>
      clear H'
      obtain ⟨x5_3, rfl, HA, HK3, HB⟩ := hrel
      cases gk with
      | zero => exact absurd HA.out (by simp [cabinetryref03_ValidateFields.l2])
      | succ k3 =>
       have H := HA.out
       clear HA
       simp only [cabinetryref03_ValidateFields.l2] at H
       by_cases c10 : x5_3 < x4_2
       rotate_left
       ·rw [if_neg c10] at H
        have c10b0 : decide (x5_3 < x4_2) = false := decide_eq_false c10
        clear c10
        have H' := Z0 H
        clear H
        go_wp2
        repeat (go_quiet (fail); try go_wp2)
        go_roundg k3
        case measure => have := HK1.out; have := HK2.out; have := HK3.out; omega
        case rel => exact ⟨(wrap64 (x4_2 + 1)), V2, H', ⟨by have := HK1.out; have := HK2.out; have := HK3.out; omega⟩, ⟨V0⟩⟩
       rw [if_pos c10] at H
       have c10b0 : decide (x5_3 < x4_2) = true := decide_eq_true c10
       clear c10
       by_cases c11 : 0 ≤ x4_2
       rotate_left
       ·rw [if_neg c11] at H
        exact absurd H (by simp)
       rw [if_pos c11] at H
       have c11b0 : decide (0 ≤ x4_2) = true := decide_eq_true c11
       clear c11
       by_cases c12 : x4_2 < (l0.length : Int)
       rotate_left
       ·rw [if_neg c12] at H
        exact absurd H (by simp)
       rw [if_pos c12] at H
       have c12b0 : decide (x4_2 < (l0.length : Int)) = true := decide_eq_true c12
       clear c12
       by_cases c13 : 0 ≤ x5_3
       rotate_left
       ·rw [if_neg c13] at H
        exact absurd H (by simp)
       rw [if_pos c13] at H
       have c13b0 : decide (0 ≤ x5_3) = true := decide_eq_true c13
       clear c13
       by_cases c14 : x5_3 < (l0.length : Int)
       rotate_left
       ·rw [if_neg c14] at H
        exact absurd H (by simp)
       rw [if_pos c14] at H
       have c14b0 : decide (x5_3 < (l0.length : Int)) = true := decide_eq_true c14
       clear c14
       by_cases c15 : ((rd_T23 l0 x4_2).f0).toList = ((rd_T23 l0 x5_3).f0).toList
       ·rw [if_pos c15] at H
        have c15b0 : (((rd_T23 l0 x4_2).f0).toList == ((rd_T23 l0 x5_3).f0).toList) = true := beq_iff_eq.mpr c15
        have c15b1 : (((rd_T23 l0 x4_2).f0).toList != ((rd_T23 l0 x5_3).f0).toList) = false := bne_eq_false_iff_eq.mpr c15
        clear c15
        obtain rfl := Option.some.inj H
        have p216 : 0 ≤ (x4_2 : Int) := of_decide_eq_true V3
        have q216 : x4_2 < (l0.length : Int) := of_decide_eq_true V3
        obtain ⟨ad216, e216, hx216_0, hx216_1, hx216_2, hx216_3⟩ := at_T23 HR0.out x4_2 p216 q216
        cases e216
        replace hx216_0 := hz HB.out hx216_0
        replace hx216_1 := hz HB.out hx216_1
        replace hx216_2 := hz HB.out hx216_2
        replace hx216_3 := hz HB.out hx216_3
        replace p216 := eq_true p216
        replace q216 := eq_true q216
        have p217 : 0 ≤ (x5_3 : Int) := of_decide_eq_true V3
        have q217 : x5_3 < (l0.length : Int) := of_decide_eq_true V3
        obtain ⟨ad217, e217, hx217_0, hx217_1, hx217_2, hx217_3⟩ := at_T23 HR0.out x5_3 p217 q217
        obtain rfl : ad216 = ad217 := (by injection e217)
        replace hx217_0 := hz HB.out hx217_0
        replace hx217_1 := hz HB.out hx217_1
        replace hx217_2 := hz HB.out hx217_2
        replace hx217_3 := hz HB.out hx217_3
        replace p217 := eq_true p217
        replace q217 := eq_true q217
        go_wp2
        repeat (go_quiet (fail); try go_wp2)
        go_ret
        exact ⟨rfl, V0⟩
       rw [if_neg c15] at H
       have c15b0 : (((rd_T23 l0 x4_2).f0).toList == ((rd_T23 l0 x5_3).f0).toList) = false := beq_eq_false_iff_ne.mpr c15
       have c15b1 : (((rd_T23 l0 x4_2).f0).toList != ((rd_T23 l0 x5_3).f0).toList) = true := bne_iff_ne.mpr c15
       have H' := Z0 H
       clear H
       have p216 : 0 ≤ (x4_2 : Int) := of_decide_eq_true V3
       have q216 : x4_2 < (l0.length : Int) := of_decide_eq_true V3
       obtain ⟨ad216, e216, hx216_0, hx216_1, hx216_2, hx216_3⟩ := at_T23 HR0.out x4_2 p216 q216
       cases e216
       replace hx216_0 := hz HB.out hx216_0
       replace hx216_1 := hz HB.out hx216_1
       replace hx216_2 := hz HB.out hx216_2
       replace hx216_3 := hz HB.out hx216_3
       replace p216 := eq_true p216
       replace q216 := eq_true q216
       have p217 : 0 ≤ (x5_3 : Int) := of_decide_eq_true V3
       have q217 : x5_3 < (l0.length : Int) := of_decide_eq_true V3
       obtain ⟨ad217, e217, hx217_0, hx217_1, hx217_2, hx217_3⟩ := at_T23 HR0.out x5_3 p217 q217
       obtain rfl : ad216 = ad217 := (by injection e217)
       replace hx217_0 := hz HB.out hx217_0
       replace hx217_1 := hz HB.out hx217_1
       replace hx217_2 := hz HB.out hx217_2
       replace hx217_3 := hz HB.out hx217_3
       replace p217 := eq_true p217
       replace q217 := eq_true q217
       go_wp2
       repeat (go_quiet (fail); try go_wp2)
       go_roundg k3
       case measure => have := HK1.out; have := HK2.out; have := HK3.out; omega
       case rel => exact ⟨(wrap64 (x5_3 + 1)), V2, H', ⟨by have := HK1.out; have := HK2.out; have := HK3.out; omega⟩, ⟨V0⟩⟩
def cabinetryref03_WeightOf.l0 : Nat → List (S25) → Int → Int → Option (Int)
 | 0, _, _, _ => none
 | k + 1, x0, x3, x4 => if x4 < (x0.length : Int) then (if 0 ≤ x4 then (cabinetryref03_WeightOf.l0 k x0 (wrap64 (x3 + (((rd_T25 x0 x4).f2).size : Int))) (wrap64 (x4 + 1))) else (none)) else (some x3)
def cabinetryref03_WeightOf.f (k : Nat) (l0 : List (S25)) : Option (Int) := cabinetryref03_WeightOf.l0 k l0 (wrap64 (8 * (l0.length : Int))) 0
theorem cabinetryref03_WeightOf.mono_l : ∀ k, (∀ y0 y1 y2, LeO (cabinetryref03_WeightOf.l0 k y0 y1 y2) (cabinetryref03_WeightOf.l0 (k + 1) y0 y1 y2))
 | 0 => fun _ _ _ r h => by simp [cabinetryref03_WeightOf.l0] at h
 | k + 1 => by
  have ih0 := cabinetryref03_WeightOf.mono_l k
  ·intro y0 y1 y2
   unfold cabinetryref03_WeightOf.l0
   repeat' first
   | (with_reducible exact ih0 _ _ _)
   | (with_reducible exact LeO.refl _)
   | (with_reducible exact LeO.none _)
   | (with_reducible refine LeO.ite ?_ ?_)
   | (with_reducible refine LeO.bind ?_ (fun _ => ?_))
theorem cabinetryref03_WeightOf.mono : ∀ a0 k, LeO (cabinetryref03_WeightOf.f k a0) (cabinetryref03_WeightOf.f (k + 1) a0) := by
 intro a0 k
 have ih0 := cabinetryref03_WeightOf.mono_l k
 unfold cabinetryref03_WeightOf.f
 repeat' first
   | (with_reducible exact ih0 _ _ _)
   | (with_reducible exact LeO.refl _)
   | (with_reducible exact LeO.none _)
   | (with_reducible refine LeO.ite ?_ ?_)
   | (with_reducible refine LeO.bind ?_ (fun _ => ?_))
theorem cabinetryref03_WeightOf.calls (k : Nat) (A0 : Option Addr) (c0 : Nat) (l0 : List (S25)) (r : Int) (w : World) (hr0 : Kd.C k25 w A0 l0.length l0) (hc0 : l0.length ≤ c0) (h : cabinetryref03_WeightOf.f k l0 = some r) :
  Calls Tryz.prog 64 #[.slice A0 l0.length c0] w fun e w' => e = .returned (.int .i64 r) ∧ Drawn0 w w' := by
 have HR0 := Z0 hr0
 have HC0 := Z0 hc0
 clear hr0 hc0
 unfold cabinetryref03_WeightOf.f at h
 have H := h
 clear h
 have H' := Z0 H
 clear H
 go_enter Tryz.func64, Tryz.ntmps64
 go_wp2
 go_loopg [3, 4] k (fun kq v3 v4 w' => ∃ (x3_1 : Int) (x4_1 : Int), v3 = .int .i64 x3_1 ∧ v4 = .int .i64 x4_1 ∧ Aside0 (cabinetryref03_WeightOf.l0 kq l0 x3_1 x4_1 = some r) ∧ Aside0 (kq ≤ k) ∧ Drawn0 w w')
 case atStart => exact ⟨(wrap64 (8 * (l0.length : Int))), (0), V2, V2, H', ⟨Nat.le_refl _⟩, by repeat (first | exact Y4 _ | apply Y0)⟩
 case round =>
  clear H'
  obtain ⟨x3_1, x4_1, rfl, rfl, HA, HK1, ⟨m1, rfl⟩⟩ := hrel
  cases gk with
  | zero => exact absurd HA.out (by simp [cabinetryref03_WeightOf.l0])
  | succ k1 =>
   have H := HA.out
   clear HA
   simp only [cabinetryref03_WeightOf.l0] at H
   by_cases c2 : x4_1 < (l0.length : Int)
   rotate_left
   ·rw [if_neg c2] at H
    have c2b0 : decide (x4_1 < (l0.length : Int)) = false := decide_eq_false c2
    clear c2
    obtain rfl := Option.some.inj H
    go_wp2
    go_ret
    exact ⟨V2, by repeat (first | exact Y4 _ | apply Y0)⟩
   rw [if_pos c2] at H
   have c2b0 : decide (x4_1 < (l0.length : Int)) = true := decide_eq_true c2
   clear c2
   by_cases c3 : 0 ≤ x4_1
   rotate_left
   ·rw [if_neg c3] at H
    exact absurd H (by simp)
   rw [if_pos c3] at H
   have c3b0 : decide (0 ≤ x4_1) = true := decide_eq_true c3
   clear c3
   have H' := Z0 H
   clear H
   have p162 : 0 ≤ (x4_1 : Int) := of_decide_eq_true V3
   have q162 : x4_1 < (l0.length : Int) := of_decide_eq_true V3
   obtain ⟨ad162, e162, hx162_0, hx162_1, hx162_2⟩ := at_T25 HR0.out x4_1 p162 q162
   cases e162
   replace p162 := eq_true p162
   replace q162 := eq_true q162
   go_wp2
   go_roundg k1
   case measure => have := HK1.out; omega
   case rel => exact ⟨(wrap64 (x3_1 + (((rd_T25 l0 x4_1).f2).size : Int))), (wrap64 (x4_1 + 1)), V2, V2, H', ⟨by have := HK1.out; omega⟩, by repeat (first | exact Y4 _ | apply Y0)⟩
mutual
def cabinetryref03_Weight.l0 : Nat → Int → Int → Int → List (S23) → List (S46) → Option (Int)
 | 0, _, _, _, _, _ => none
 | k + 1, x3, x4, x164000, x164001, x164002 => if x4 < (x164001.length : Int) then (if 0 ≤ x4 then (cabinetryref03_Weight.l0 k (wrap64 (x3 + (((rd_T23 x164001 x4).f0).size : Int))) (wrap64 (x4 + 1)) x164000 x164001 x164002) else (none)) else (cabinetryref03_Weight.l1 k x3 0 x164000 x164001 x164002)
def cabinetryref03_Weight.l1 : Nat → Int → Int → Int → List (S23) → List (S46) → Option (Int)
 | 0, _, _, _, _, _ => none
 | k + 1, x3, x5, x164000, x164001, x164002 => if x5 < (x164002.length : Int) then (if 0 ≤ x5 then ((cabinetryref03_WeightOf.f k ((rd_T46 x164002 x5).f1)).bind fun t166 => (cabinetryref03_Weight.l1 k (wrap64 (x3 + (wrap64 (8 + t166)))) (wrap64 (x5 + 1)) x164000 x164001 x164002)) else (none)) else (some x3)
end
def cabinetryref03_Weight.f (k : Nat) (a0_0 : Int) (l0_1 : List (S23)) (l0_2 : List (S46)) : Option (Int) := cabinetryref03_Weight.l0 k (wrap64 (16 * (l0_1.length : Int))) 0 a0_0 l0_1 l0_2
theorem cabinetryref03_Weight.mono_l : ∀ k, (∀ y0 y1 y2 y3 y4, LeO (cabinetryref03_Weight.l0 k y0 y1 y2 y3 y4) (cabinetryref03_Weight.l0 (k + 1) y0 y1 y2 y3 y4)) ∧ (∀ y0 y1 y2 y3 y4, LeO (cabinetryref03_Weight.l1 k y0 y1 y2 y3 y4) (cabinetryref03_Weight.l1 (k + 1) y0 y1 y2 y3 y4))
 | 0 => ⟨fun _ _ _ _ _ r h => by simp [cabinetryref03_Weight.l0] at h, fun _ _ _ _ _ r h => by simp [cabinetryref03_Weight.l1] at h⟩
 | k + 1 => by
  obtain ⟨ih0, ih1⟩ := cabinetryref03_Weight.mono_l k
  refine ⟨?_, ?_⟩
  ·intro y0 y1 y2 y3 y4
   unfold cabinetryref03_Weight.l0
   repeat' first
   | (with_reducible exact ih0 _ _ _ _ _)
   | (with_reducible exact ih1 _ _ _ _ _)
   | (with_reducible exact cabinetryref03_WeightOf.mono _ _)
   | (with_reducible exact LeO.refl _)
   | (with_reducible exact LeO.none _)
   | (with_reducible refine LeO.ite ?_ ?_)
   | (with_reducible refine LeO.bind ?_ (fun _ => ?_))
  ·intro y0 y1 y2 y3 y4
   unfold cabinetryref03_Weight.l1
   repeat' first
   | (with_reducible exact ih0 _ _ _ _ _)
   | (with_reducible exact ih1 _ _ _ _ _)
   | (with_reducible exact cabinetryref03_WeightOf.mono _ _)
   | (with_reducible exact LeO.refl _)
   | (with_reducible exact LeO.none _)
   | (with_reducible refine LeO.ite ?_ ?_)
   | (with_reducible refine LeO.bind ?_ (fun _ => ?_))
theorem cabinetryref03_Weight.mono : ∀ a0 a1 a2 k, LeO (cabinetryref03_Weight.f k a0 a1 a2) (cabinetryref03_Weight.f (k + 1) a0 a1 a2) := by
 intro a0 a1 a2 k
 obtain ⟨ih0, ih1⟩ := cabinetryref03_Weight.mono_l k
 unfold cabinetryref03_Weight.f
 repeat' first
   | (with_reducible exact ih0 _ _ _ _ _)
   | (with_reducible exact ih1 _ _ _ _ _)
   | (with_reducible exact cabinetryref03_WeightOf.mono _ _)
   | (with_reducible exact LeO.refl _)
   | (with_reducible exact LeO.none _)
   | (with_reducible refine LeO.ite ?_ ?_)
   | (with_reducible refine LeO.bind ?_ (fun _ => ?_))
theorem cabinetryref03_Weight.calls (k : Nat) (a0_0 : Int) (A0_1 : Option Addr) (c0_1 : Nat) (l0_1 : List (S23)) (A0_2 : Option Addr) (c0_2 : Nat) (l0_2 : List (S46)) (r : Int) (w : World) (hr0_1 : Kd.C k23 w A0_1 l0_1.length l0_1) (hc0_1 : l0_1.length ≤ c0_1) (hr0_2 : Kd.C k46 w A0_2 l0_2.length l0_2) (hc0_2 : l0_2.length ≤ c0_2) (h : cabinetryref03_Weight.f k a0_0 l0_1 l0_2 = some r) :
  Calls Tryz.prog 24 #[.agg #[.int .i64 a0_0, .slice A0_1 l0_1.length c0_1, .slice A0_2 l0_2.length c0_2]] w fun e w' => e = .returned (.int .i64 r) ∧ Below w.heap.size w w' := by
 have hu35 := Tryz.underlying35
 have HR0_1 := Z0 hr0_1
 have HC0_1 := Z0 hc0_1
 clear hr0_1 hc0_1
 have HR0_2 := Z0 hr0_2
 have HC0_2 := Z0 hc0_2
 clear hr0_2 hc0_2
 have HB := Z0 (Below.refl w.heap.size w)
 unfold cabinetryref03_Weight.f at h
 have H := h
 clear h
 have H' := Z0 H
 clear H
 go_enter Tryz.func24, Tryz.ntmps24
 go_wp2_with (first | ((with_reducible refine Z9 (N := 1) rfl ?_); refine bx (N := 1) (cs := #[.int .i64 a0_0, .slice A0_1 l0_1.length c0_1, .slice A0_2 l0_2.length c0_2]) (t := 35) ?_; intro gb163 hg w2 hbox hb; have BK163 := Z0 hbox; have GE163 := ge hg HB.out; replace HB := Z0 (Z1 HB.out hb); clear hb hbox hg; obtain ⟨hcz3_0, hcz3_1, hcz3_2⟩ := bc3 BK163.out; obtain ⟨hfz3_0, hfz3_1, hfz3_2⟩ := bf3 BK163.out))
 go_loopg [3, 4] k (fun kq v3 v4 w' => ∃ (x3_1 : Int) (x4_1 : Int), v3 = .int .i64 x3_1 ∧ v4 = .int .i64 x4_1 ∧ Aside0 (cabinetryref03_Weight.l0 kq x3_1 x4_1 a0_0 l0_1 l0_2 = some r) ∧ Aside0 (kq ≤ k) ∧ Aside0 (w'.heap[gb163]? = some (.cells #[.int .i64 a0_0, (.slice A0_1 l0_1.length c0_1), (.slice A0_2 l0_2.length c0_2)] 35 (0, 0))) ∧ Aside0 (Below w.heap.size w w'))
 case atStart => exact ⟨(wrap64 (16 * (l0_1.length : Int))), (0), V2, V2, H', ⟨Nat.le_refl _⟩, ⟨bk⟩, ⟨V0⟩⟩
 case round =>
  clear H'
  obtain ⟨x3_1, x4_1, rfl, rfl, HA, HK1, BK163, HB⟩ := hrel
  cases gk with
  | zero => exact absurd HA.out (by simp [cabinetryref03_Weight.l0])
  | succ k1 =>
   have H := HA.out
   clear HA
   simp only [cabinetryref03_Weight.l0] at H
   by_cases c4 : x4_1 < (l0_1.length : Int)
   ·rw [if_pos c4] at H
    have c4b0 : decide (x4_1 < (l0_1.length : Int)) = true := decide_eq_true c4
    clear c4
    by_cases c5 : 0 ≤ x4_1
    rotate_left
    ·rw [if_neg c5] at H
     exact absurd H (by simp)
    rw [if_pos c5] at H
    have c5b0 : decide (0 ≤ x4_1) = true := decide_eq_true c5
    clear c5
    have H' := Z0 H
    clear H
    obtain ⟨hcz6_0, hcz6_1, hcz6_2⟩ := bc3 BK163.out
    obtain ⟨hfz6_0, hfz6_1, hfz6_2⟩ := bf3 BK163.out
    have p164 : 0 ≤ (x4_1 : Int) := of_decide_eq_true V3
    have q164 : x4_1 < (l0_1.length : Int) := of_decide_eq_true V3
    obtain ⟨ad164, e164, hx164_0, hx164_1, hx164_2, hx164_3⟩ := at_T23 HR0_1.out x4_1 p164 q164
    cases e164
    replace hx164_0 := hz HB.out hx164_0
    replace hx164_1 := hz HB.out hx164_1
    replace hx164_2 := hz HB.out hx164_2
    replace hx164_3 := hz HB.out hx164_3
    replace p164 := eq_true p164
    replace q164 := eq_true q164
    go_wp2
    go_roundg k1
    case measure => have := HK1.out; omega
    case rel => exact ⟨(wrap64 (x3_1 + (((rd_T23 l0_1 x4_1).f0).size : Int))), (wrap64 (x4_1 + 1)), V2, V2, H', ⟨by have := HK1.out; omega⟩, ⟨bk⟩, ⟨V0⟩⟩
   rw [if_neg c4] at H
   have c4b0 : decide (x4_1 < (l0_1.length : Int)) = false := decide_eq_false c4
   clear c4
   have H' := Z0 H
   clear H
   obtain ⟨hcz7_0, hcz7_1, hcz7_2⟩ := bc3 BK163.out
   obtain ⟨hfz7_0, hfz7_1, hfz7_2⟩ := bf3 BK163.out
   go_wp2
   go_loopg [3, 5] k1 (fun kq v3 v5 w' => ∃ (x3_2 : Int) (x5_2 : Int), v3 = .int .i64 x3_2 ∧ v5 = .int .i64 x5_2 ∧ Aside0 (cabinetryref03_Weight.l1 kq x3_2 x5_2 a0_0 l0_1 l0_2 = some r) ∧ Aside0 (kq ≤ k1) ∧ Aside0 (w'.heap[gb163]? = some (.cells #[.int .i64 a0_0, (.slice A0_1 l0_1.length c0_1), (.slice A0_2 l0_2.length c0_2)] 35 (0, 0))) ∧ Aside0 (Below w.heap.size w w'))
   case atStart => exact ⟨(x3_1), (0), V2, V2, H', ⟨Nat.le_refl _⟩, ⟨bk⟩, ⟨V0⟩⟩
   case round =>
    clear H'
    obtain ⟨x3_2, x5_2, rfl, rfl, HA, HK2, BK163, HB⟩ := hrel
    cases gk with
    | zero => exact absurd HA.out (by simp [cabinetryref03_Weight.l1])
    | succ k2 =>
     have H := HA.out
     clear HA
     simp only [cabinetryref03_Weight.l1] at H
     by_cases c8 : x5_2 < (l0_2.length : Int)
     rotate_left
     ·rw [if_neg c8] at H
      have c8b0 : decide (x5_2 < (l0_2.length : Int)) = false := decide_eq_false c8
      clear c8
      obtain rfl := Option.some.inj H
      obtain ⟨hcz12_0, hcz12_1, hcz12_2⟩ := bc3 BK163.out
      obtain ⟨hfz12_0, hfz12_1, hfz12_2⟩ := bf3 BK163.out
      go_wp2
      go_ret
      exact ⟨rfl, V0⟩
     rw [if_pos c8] at H
     have c8b0 : decide (x5_2 < (l0_2.length : Int)) = true := decide_eq_true c8
     clear c8
     by_cases c9 : 0 ≤ x5_2
     rotate_left
     ·rw [if_neg c9] at H
      exact absurd H (by simp)
     rw [if_pos c9] at H
     have c9b0 : decide (0 ≤ x5_2) = true := decide_eq_true c9
     clear c9
     replace H := Option.bind_eq_some_iff.mp H
     obtain ⟨t166, A100, H⟩ := H
     replace H : (cabinetryref03_Weight.l1 k2 (wrap64 (x3_2 + (wrap64 (8 + t166)))) (wrap64 (x5_2 + 1)) a0_0 l0_1 l0_2) = some r := H
     have A10 := Z0 A100
     clear A100
     have H' := Z0 H
     clear H
     obtain ⟨hcz11_0, hcz11_1, hcz11_2⟩ := bc3 BK163.out
     obtain ⟨hfz11_0, hfz11_1, hfz11_2⟩ := bf3 BK163.out
     have p165 : 0 ≤ (x5_2 : Int) := of_decide_eq_true V3
     have q165 : x5_2 < (l0_2.length : Int) := of_decide_eq_true V3
     obtain ⟨ad165, A165_1, c165_1, e165, hx165_0, hx165_1, hl165_1, hi165_1⟩ := at_T46 HR0_2.out x5_2 p165 q165
     cases e165
     replace hx165_0 := hz HB.out hx165_0
     replace hx165_1 := hz HB.out hx165_1
     have HR165_1 := Z0 hi165_1
     have HC165_1 := Z0 hl165_1
     clear hi165_1 hl165_1
     replace p165 := eq_true p165
     replace q165 := eq_true q165
     go_wp2_with (first | ((with_reducible refine Z5 (f := 64) rfl ?_); refine gl Tryz.func64 (cabinetryref03_WeightOf.calls k2 _ _ ((rd_T46 l0_2 x5_2).f1) t166 _ (kc (Kd.C_below HR165_1.out HB.out)) HC165_1.out A10.out) ?_; rintro e w' ⟨rfl, ⟨nd, rfl⟩⟩; refine ⟨_, rfl, ?_⟩))
     go_roundg k2
     case measure => have := HK1.out; have := HK2.out; omega
     case rel => exact ⟨(wrap64 (x3_2 + (wrap64 (8 + t166)))), (wrap64 (x5_2 + 1)), V2, V2, H', ⟨by have := HK1.out; have := HK2.out; omega⟩, ⟨bk⟩, ⟨V0⟩⟩
end
theorem rd_drop {l : List S23} {i : Nat} {x : S23} {r : List S23} (h : l.drop i = x :: r) : i < l.length ∧ rd_T23 l (i : Int) = x ∧ l.drop (i + 1) = r ∧ l.take (i + 1) = l.take i ++ [x] := by
 have hl : i < l.length := by
  rcases Nat.lt_or_ge i l.length with h1 | h1
  ·exact h1
  rw [List.drop_eq_nil_of_le h1] at h; cases h
 have e := List.drop_eq_getElem_cons hl
 rw [h] at e
 injection e with e1 e2
 refine ⟨hl, ?_, e2.symm, ?_⟩
 rotate_left
 ·rw [e1]; exact List.take_succ_eq_append_getElem hl
 unfold rd_T23
 rw [Int.toNat_natCast, List.getD_eq_getElem?_getD, List.getElem?_eq_getElem hl, Option.getD_some, e1]
theorem rd_end {α : Type} {l : List α} {i : Nat} (h : l.drop i = []) : ¬ (i : Int) < (l.length : Int) := by
 have := List.drop_eq_nil_iff.1 h
 omega
theorem wrapL {i n : Nat} (h : i < n) (hn : n ≤ 1048576) : wrap64 ((i : Int) + 1) = ((i + 1 : Nat) : Int) := by
 unfold wrap64
 omega
def smallF (l : List S23) : Prop := l.length ≤ 1048576 ∧ ∀ x ∈ l, x.f0.size ≤ 1048576
theorem ref_nulls_go (l : List S23) (hL : l.length ≤ 1048576) : ∀ (r : List S23) (i k acc : Nat), l.drop i = r → r.length < k → acc ≤ i → i ≤ l.length → cabinetryref03_nulls.l0 k l (acc : Int) (i : Int) = some (((acc + nullsN r + 7) / 8 : Nat) : Int)
 | [], i, k, acc, hd, hk, ha, hi => by
  obtain ⟨m, rfl⟩ : ∃ m, k = m + 1 := ⟨k - 1, by simp at hk; omega⟩
  simp only [cabinetryref03_nulls.l0]
  rw [if_neg (rd_end hd)]
  have e : wrap64 ((acc : Int) + 7) = ((acc + 7 : Nat) : Int) := by unfold wrap64; omega
  have e2 : Int.tdiv ((acc + 7 : Nat) : Int) 8 = (((acc + 7) / 8 : Nat) : Int) := rfl
  rw [e, e2]
  refine congrArg some ?_
  unfold nullsN wrap64
  omega
 | x :: r, i, k, acc, hd, hk, ha, hi => by
  obtain ⟨m, rfl⟩ : ∃ m, k = m + 1 := ⟨k - 1, by simp at hk; omega⟩
  obtain ⟨hlt, hx, hr, _⟩ := rd_drop hd
  simp only [cabinetryref03_nulls.l0]
  have e2 : wrap64 ((acc : Int) + 1) = ((acc + 1 : Nat) : Int) := by unfold wrap64; omega
  rw [if_pos (by omega), if_pos (by omega), hx, wrapL hlt hL, e2]
  show _ = some (((acc + ((if x.f3 = true then 1 else 0) + nullsN r) + 7) / 8 : Nat) : Int)
  split
  ·rw [ref_nulls_go l hL r (i + 1) m (acc + 1) hr (by simp at hk; omega) (by omega) (by omega), Nat.add_assoc acc 1]
  ·rw [ref_nulls_go l hL r (i + 1) m acc hr (by simp at hk; omega) (by omega) (by omega), Nat.zero_add]
theorem ref_nulls_is (l : List S23) (hL : l.length ≤ 1048576) (k : Nat) (hk : l.length < k) : cabinetryref03_nulls.f k l = some (((nullsN l + 7) / 8 : Nat) : Int) := by
 have := ref_nulls_go l hL l 0 k 0 List.drop_zero hk (Nat.le_refl _) (Nat.zero_le _)
 rw [Nat.zero_add] at this
 exact this
theorem ref_wide_go (l : List S23) (hL : l.length ≤ 1048576) (hf : l.all fS = true) : ∀ (r : List S23) (i k : Nat) (acc : Int), l.drop i = r → r.length < k → 0 ≤ acc → acc ≤ 1000000000 + 254 * i → cabinetryref03_Wide.l0 k l acc (i : Int) = some (acc + wideN r)
 | [], i, k, acc, hd, hk, ha, hb => by
  obtain ⟨m, rfl⟩ : ∃ m, k = m + 1 := ⟨k - 1, by simp at hk; omega⟩
  simp only [cabinetryref03_Wide.l0]
  rw [if_neg (rd_end hd)]
  refine congrArg some ?_
  unfold wideN
  omega
 | x :: r, i, k, acc, hd, hk, ha, hb => by
  obtain ⟨m, rfl⟩ : ∃ m, k = m + 1 := ⟨k - 1, by simp at hk; omega⟩
  obtain ⟨hlt, hx, hr, _⟩ := rd_drop hd
  have hm : x ∈ l := by rw [← List.take_append_drop i l, hd]; simp
  have hw := fS_width (List.all_eq_true.1 hf _ hm)
  simp only [cabinetryref03_Wide.l0]
  have e2 : wrap64 (acc + x.f2) = acc + x.f2 := by unfold wrap64; omega
  rw [if_pos (by omega), if_pos (by omega), hx, wrapL hlt hL, e2, ref_wide_go l hL hf r (i + 1) m (acc + x.f2) hr (by simp at hk; omega) (by omega) (by omega)]
  refine congrArg some ?_
  show _ = acc + (x.f2 + wideN r)
  omega
theorem ref_wide_is (l : List S23) (hL : l.length ≤ 1048576) (hf : l.all fS = true) (k : Nat) (hk : l.length < k) : cabinetryref03_Wide.f k l = some (lenS l) := by
 unfold cabinetryref03_Wide.f lenS
 have hn := nullsN_le l
 rw [ref_nulls_is l hL k hk, Option.bind_some]
 have e : wrap64 (1 + (((nullsN l + 7) / 8 : Nat) : Int)) = 1 + (((nullsN l + 7) / 8 : Nat) : Int) := by unfold wrap64; omega
 rw [e]
 exact ref_wide_go l hL hf l 0 k _ List.drop_zero hk (by omega) (by omega)
theorem name_eq (a b : ByteArray) : (a.toList = b.toList) ↔ (a == b) = true := by
 rw [ba_toList, ba_toList, show (a == b) = (a.data == b.data) from rfl, beq_iff_eq]
 exact ⟨fun h => Array.ext' h, fun h => by rw [h]⟩
theorem has_snoc (l : List S23) (x : S23) (s : ByteArray) : hasName (l ++ [x]) s = (hasName l s || (s == x.f0)) := by
 unfold hasName
 rw [List.any_append]
 simp
def vfEnd (l : List S23) : Int := if l.length > 16 then 3 else if lenS l > 2000 then 3 else 0
theorem vf_l12 (l : List S23) (hL : l.length ≤ 1048576) (hf : l.all fS = true) (K : Nat) (hK : l.length + 2 < K) : ∀ (r : List S23) (i k : Nat), l.drop i = r → K + (l.length + 2) * r.length < k → cabinetryref03_ValidateFields.l1 k l (i : Int) = some (if dupA (l.take i) r = true then 5 else vfEnd l)
 | [], i, k, hd, hk => by
  obtain ⟨m, rfl⟩ : ∃ m, k = m + 1 := ⟨k - 1, by omega⟩
  simp only [cabinetryref03_ValidateFields.l1]
  rw [if_neg (rd_end hd), show dupA (l.take i) [] = false from rfl, if_neg (show ¬ false = true by decide)]
  unfold vfEnd
  simp only [List.length_nil, Nat.mul_zero] at hk
  by_cases h : l.length > 16
  ·rw [if_pos (by omega), if_pos h]
  ·rw [if_neg (by omega), if_neg h, ref_wide_is l hL hf m (by omega)]
   simp only [Option.bind_some]
   split <;> rfl
 | x :: r, i, k, hd, hk => by
  obtain ⟨m, rfl⟩ : ∃ m, k = m + 1 := ⟨k - 1, by omega⟩
  obtain ⟨hlt, hx, hr, ht⟩ := rd_drop hd
  rw [List.length_cons, Nat.mul_succ] at hk
  simp only [cabinetryref03_ValidateFields.l1]
  rw [if_pos (by omega)]
  have inner : ∀ (n j q : Nat), j + n = i → n + 1 + K + (l.length + 2) * r.length < q + 1 → hasName (l.take j) x.f0 = false → cabinetryref03_ValidateFields.l2 (q + 1) l (i : Int) (j : Int) = some (if dupA (l.take i) (x :: r) = true then 5 else vfEnd l) := by
   intro n
   induction n with
   | zero =>
    intro j q hj hq hn
    obtain rfl : j = i := by omega
    simp only [cabinetryref03_ValidateFields.l2]
    rw [if_neg (by omega), wrapL hlt hL, vf_l12 l hL hf K hK r (j + 1) q hr (by omega), ht]
    show _ = some (if (hasName (l.take j) x.f0 || dupA (l.take j ++ [x]) r) = true then 5 else vfEnd l)
    rw [hn, Bool.false_or]
   | succ n ih =>
    intro j q hj hq hn
    have hjl : j < l.length := by omega
    have hdj := List.drop_eq_getElem_cons hjl
    obtain ⟨_, hy, _, hty⟩ := rd_drop hdj
    simp only [cabinetryref03_ValidateFields.l2]
    rw [if_pos (by omega), if_pos (by omega), if_pos (by omega), if_pos (by omega), if_pos (by omega), hx, hy]
    by_cases he : x.f0.toList = (l[j]).f0.toList
    ·rw [if_pos he]
     have hb := (name_eq _ _).1 he
     have hin : hasName (l.take i) x.f0 = true := by
      unfold hasName
      rw [List.any_eq_true]
      refine ⟨l[j], ?_, hb⟩
      rw [List.mem_take_iff_getElem]
      exact ⟨j, by omega, rfl⟩
     show _ = some (if (hasName (l.take i) x.f0 || dupA (l.take i ++ [x]) r) = true then 5 else vfEnd l)
     rw [hin]
     rfl
    ·rw [if_neg he, wrapL hjl hL]
     obtain ⟨q', rfl⟩ : ∃ q', q = q' + 1 := ⟨q - 1, by omega⟩
     refine ih (j + 1) q' (by omega) (by omega) ?_
     rw [hty, has_snoc, hn, Bool.false_or]
     cases hb : (x.f0 == (l[j]).f0)
     ·rfl
     ·exact absurd ((name_eq _ _).2 hb) he
  obtain ⟨q, rfl⟩ : ∃ q, m = q + 1 := ⟨m - 1, by omega⟩
  exact inner i 0 q (by omega) (by omega) (by rw [List.take_zero]; rfl)
theorem vf_l0 (l : List S23) (h : smallF l) (hK : Nat) : ∀ (r : List S23) (i k : Nat), l.drop i = r → r.length + 1048580 < k → (r.all fS = false → cabinetryref03_ValidateFields.l0 k l (i : Int) = some 1) ∧ (r.all fS = true → ∃ m, m + r.length + 1 = k ∧ cabinetryref03_ValidateFields.l0 k l (i : Int) = cabinetryref03_ValidateFields.l1 m l 0)
 | [], i, k, hd, hk => by
  obtain ⟨m, rfl⟩ : ∃ m, k = m + 1 := ⟨k - 1, by omega⟩
  refine ⟨fun h => by simp at h, fun _ => ⟨m, rfl, ?_⟩⟩
  simp only [cabinetryref03_ValidateFields.l0]
  rw [if_neg (rd_end hd)]
 | x :: r, i, k, hd, hk => by
  obtain ⟨m, rfl⟩ : ∃ m, k = m + 1 := ⟨k - 1, by omega⟩
  obtain ⟨hlt, hx, hr, _⟩ := rd_drop hd
  have hm : x ∈ l := by rw [← List.take_append_drop i l, hd]; simp
  have hs := h.2 x hm
  simp only [List.length_cons] at hk
  have ih := vf_l0 l h hK r (i + 1) m hr (by omega)
  have e : cabinetryref03_ValidateFields.l0 (m + 1) l (i : Int) = if fS x = true then cabinetryref03_ValidateFields.l0 m l ((i + 1 : Nat) : Int) else some 1 := by
   conv => lhs; rw [cabinetryref03_ValidateFields.l0]
   rw [if_pos (by omega), if_pos (by omega), hx, refField_is x.f0 x.f1 x.f2 x.f3 m (by omega), wrapL hlt h.1]
   rfl
  rw [e, List.all_cons]
  by_cases hfx : fS x = true
  ·rw [hfx, if_pos rfl, Bool.true_and]
   refine ⟨ih.1, fun ha => ?_⟩
   obtain ⟨q, hq, he⟩ := ih.2 ha
   exact ⟨q, by simp; omega, he⟩
  ·have hfx' : fS x = false := by simpa using hfx
   rw [hfx', if_neg (by decide)]
   exact ⟨fun _ => rfl, fun ha => by simp at ha⟩
theorem refVF_is (l : List S23) (h : smallF l) : ∃ K, ∀ k, K ≤ k → cabinetryref03_ValidateFields.f k l = some (vfS l) := by
 refine ⟨l.length + 1048590 + (l.length + 3 + (l.length + 2) * l.length), fun k hk => ?_⟩
 unfold cabinetryref03_ValidateFields.f vfS
 by_cases h0 : l.length = 0
 ·rw [if_pos (by omega), if_pos h0]
 rw [if_neg (by omega), if_neg h0]
 have a := vf_l0 l h 0 l 0 k List.drop_zero (by omega)
 cases ha : l.all fS
 ·rw [if_pos rfl]
  exact a.1 ha
 rw [if_neg (by decide)]
 obtain ⟨m, hm, e⟩ := a.2 ha
 have b := vf_l12 l h.1 ha (l.length + 3) (by omega) l 0 m List.drop_zero (by omega)
 refine e.trans (b.trans ?_)
 rw [List.take_zero]
 unfold vfEnd
 rfl
theorem weightOf_some (l : List S25) (hL : l.length ≤ 1048576) : ∀ (n i k : Nat) (acc : Int), i + n = l.length → n < k → ∃ r, cabinetryref03_WeightOf.l0 k l acc (i : Int) = some r
 | 0, i, k, acc, h, hk => by
  obtain ⟨m, rfl⟩ : ∃ m, k = m + 1 := ⟨k - 1, by omega⟩
  simp only [cabinetryref03_WeightOf.l0]
  rw [if_neg (by omega)]
  exact ⟨_, rfl⟩
 | n + 1, i, k, acc, h, hk => by
  obtain ⟨m, rfl⟩ : ∃ m, k = m + 1 := ⟨k - 1, by omega⟩
  simp only [cabinetryref03_WeightOf.l0]
  rw [if_pos (by omega), if_pos (by omega), wrapL (show i < l.length by omega) hL]
  exact weightOf_some l hL n (i + 1) m _ (by omega) (by omega)
def smallR (l : List S46) : Prop := l.length ≤ 1048576 ∧ ∀ x ∈ l, x.f1.length ≤ 1048576
theorem weight1_some (pg : Int) (fs : List S23) (l : List S46) (hl : smallR l) : ∀ (n i k : Nat) (acc : Int), i + n = l.length → n + 1048577 < k → ∃ r, cabinetryref03_Weight.l1 k acc (i : Int) pg fs l = some r
 | 0, i, k, acc, h, hk => by
  obtain ⟨m, rfl⟩ : ∃ m, k = m + 1 := ⟨k - 1, by omega⟩
  simp only [cabinetryref03_Weight.l1]
  rw [if_neg (by omega)]
  exact ⟨_, rfl⟩
 | n + 1, i, k, acc, h, hk => by
  obtain ⟨m, rfl⟩ : ∃ m, k = m + 1 := ⟨k - 1, by omega⟩
  have hi : i < l.length := by omega
  have hx : rd_T46 l (i : Int) = l[i] := by
   unfold rd_T46
   rw [Int.toNat_natCast, List.getD_eq_getElem?_getD, List.getElem?_eq_getElem hi, Option.getD_some]
  have hs := hl.2 l[i] (List.getElem_mem _)
  obtain ⟨q, hq⟩ := weightOf_some (l[i]).f1 hs (l[i]).f1.length 0 m (wrap64 (8 * ((l[i]).f1.length : Int))) (by omega) (by omega)
  simp only [cabinetryref03_Weight.l1]
  rw [if_pos (by omega), if_pos (by omega), wrapL hi hl.1, hx]
  unfold cabinetryref03_WeightOf.f
  rw [show ((0 : Nat) : Int) = 0 from rfl] at hq
  rw [hq]
  exact weight1_some pg fs l hl n (i + 1) m _ (by omega) (by omega)
theorem weight0_some (pg : Int) (fs : List S23) (l : List S46) (hf : fs.length ≤ 1048576) (hl : smallR l) : ∀ (n i k : Nat) (acc : Int), i + n = fs.length → n + 1 + l.length + 1048577 < k → ∃ r, cabinetryref03_Weight.l0 k acc (i : Int) pg fs l = some r
 | 0, i, k, acc, h, hk => by
  obtain ⟨m, rfl⟩ : ∃ m, k = m + 1 := ⟨k - 1, by omega⟩
  simp only [cabinetryref03_Weight.l0]
  rw [if_neg (by omega)]
  exact weight1_some pg fs l hl l.length 0 m acc (by omega) (by omega)
 | n + 1, i, k, acc, h, hk => by
  obtain ⟨m, rfl⟩ : ∃ m, k = m + 1 := ⟨k - 1, by omega⟩
  simp only [cabinetryref03_Weight.l0]
  rw [if_pos (by omega), if_pos (by omega), wrapL (show i < fs.length by omega) hf]
  exact weight0_some pg fs l hf hl n (i + 1) m _ (by omega) (by omega)
theorem weight_some (pg : Int) (fs : List S23) (l : List S46) (hf : fs.length ≤ 1048576) (hl : smallR l) (k : Nat) (hk : 3200000 < k) : ∃ r, cabinetryref03_Weight.f k pg fs l = some r :=
 weight0_some pg fs l hf hl fs.length 0 k _ (by omega) (by have := hl.1; omega)
end Go.Proofs.YtldpdidlfbphcaaGreatDoor.P
end
section
namespace Go.Proofs.YtldpdidlfbphcaaGreatDoor.R
theorem small_fields {xs : List P.S23} (h : (xs.map g23).sum ≤ 1048576) : P.smallF xs := by
 refine ⟨?_, fun x hx => ?_⟩
 ·have := sum_len g23 1 (fun x => by unfold g23; omega) xs
  omega
 have h1 := sum_mem g23 hx
 have h2 : g23 x = x.f0.size + 5 := rfl
 omega
theorem small_recs {ys : List P.S46} (h : (ys.map g46).sum ≤ 1048576) : P.smallR ys ∧ ∀ y ∈ ys, ∀ v ∈ y.f1, v.f2.size ≤ 1048576 := by
 refine ⟨⟨?_, fun y hy => ?_⟩, fun y hy v hv => ?_⟩
 ·have := sum_len g46 1 (fun x => by unfold g46; omega) ys
  omega
 ·have a := sum_mem g46 hy
  have b := sum_len g25 1 (fun x => by unfold g25; omega) y.f1
  have c : g46 y = (y.f1.map g25).sum + 3 := rfl
  omega
 have a := sum_mem g46 hy
 have b := sum_mem g25 hv
 have c : g46 y = (y.f1.map g25).sum + 3 := rfl
 have d : g25 v = v.f2.size + 4 := rfl
 omega
end Go.Proofs.YtldpdidlfbphcaaGreatDoor.R
end
section
namespace Go.Proofs.YtldpdidlfbphcaaGreatDoor.P
open Go.RowKit Go.Proofs.YtldpdidlfbphcaaGreatDoorW.PrintWords Go.Proofs.YtldpdidlfbphcaaGreatDoorW.PrintLast Go.Proofs.YtldpdidlfbphcaaGreatDoorW.PrintMore
section
attribute [local go_sem] max2_int min2_int max_two min_two max_three min_three max_four min_four
def val_yearsDays.f (a0 : Int) : Option (Int) := some (wrap64 ((wrap64 ((wrap64 ((wrap64 (365 * (wrap64 (a0 - 1)))) + (wrap64 (Int.tdiv (wrap64 (a0 - 1)) 4)))) - (wrap64 (Int.tdiv (wrap64 (a0 - 1)) 100)))) + (wrap64 (Int.tdiv (wrap64 (a0 - 1)) 400))))
theorem val_yearsDays.calls (a0 : Int) (r : Int) (w : World) (h : val_yearsDays.f a0 = some r) :
  Calls Tryz.prog 180 #[.int .i64 a0] w fun e w' => e = .returned (.int .i64 r) ∧ Drawn0 w w' := by
 have H : (some (wrap64 ((wrap64 ((wrap64 ((wrap64 (365 * (wrap64 (a0 - 1)))) + (wrap64 (Int.tdiv (wrap64 (a0 - 1)) 4)))) - (wrap64 (Int.tdiv (wrap64 (a0 - 1)) 100)))) + (wrap64 (Int.tdiv (wrap64 (a0 - 1)) 400))))) = some r := h
 clear h
 obtain rfl := Option.some.inj H
 go_enter Tryz.func180, Tryz.ntmps180
 go_wp2
 go_ret
 exact ⟨V2, by repeat (first | exact Y4 _ | apply Y0)⟩
def val_isLeap.j0 : Nat → Bool → Option (Bool)
 | 0, _ => none
 | k + 1, x2 => some x2
def val_isLeap.f (k : Nat) (a0 : Int) : Option (Bool) := if (Int.tmod a0 4) = 0 then (if (Int.tmod a0 100) = 0 then (val_isLeap.j0 k ((Int.tmod a0 400) == 0)) else (val_isLeap.j0 k true)) else (val_isLeap.j0 k false)
theorem val_isLeap.mono_l : ∀ k, (∀ y0, LeO (val_isLeap.j0 k y0) (val_isLeap.j0 (k + 1) y0))
 | 0 => fun _ r h => by simp [val_isLeap.j0] at h
 | k + 1 => by
  have ih0 := val_isLeap.mono_l k
  ·intro y0
   unfold val_isLeap.j0
   repeat' first
   | (with_reducible exact ih0 _)
   | (with_reducible exact LeO.refl _)
   | (with_reducible exact LeO.none _)
   | (with_reducible refine LeO.ite ?_ ?_)
   | (with_reducible refine LeO.bind ?_ (fun _ => ?_))
theorem val_isLeap.mono : ∀ a0 k, LeO (val_isLeap.f k a0) (val_isLeap.f (k + 1) a0) := by
 intro a0 k
 have ih0 := val_isLeap.mono_l k
 unfold val_isLeap.f
 repeat' first
   | (with_reducible exact ih0 _)
   | (with_reducible exact LeO.refl _)
   | (with_reducible exact LeO.none _)
   | (with_reducible refine LeO.ite ?_ ?_)
   | (with_reducible refine LeO.bind ?_ (fun _ => ?_))
theorem val_isLeap.calls (k : Nat) (a0 : Int) (r : Bool) (w : World) (h : val_isLeap.f k a0 = some r) :
  Calls Tryz.prog 183 #[.int .i64 a0] w fun e w' => e = .returned (.bool r) ∧ Drawn0 w w' := by
 unfold val_isLeap.f at h
 have H := h
 clear h
 have HC2 := Z0 H
 clear H
 go_enter Tryz.func183, Tryz.ntmps183
 go_upto_region 1 with (fail)
 go_cut [2] (fun v2 wc => ∃ (kq : Nat) (x2_1 : Bool), v2 = .bool x2_1 ∧ Aside0 (val_isLeap.j0 kq x2_1 = some r) ∧ Aside0 (kq ≤ k) ∧ Drawn0 w wc)
 case first =>
  have H := HC2.out
  clear HC2
  by_cases c3 : (Int.tmod a0 4) = 0
  rotate_left
  ·rw [if_neg c3] at H
   have c3b0 : ((Int.tmod a0 4) == 0) = false := beq_eq_false_iff_ne.mpr c3
   have c3b1 : ((Int.tmod a0 4) != 0) = true := bne_iff_ne.mpr c3
   (first | rw [c3b0] | (simp only [i64_w, i32_w]; rw [c3b0]) | skip)
   have H' := Z0 H
   clear H
   go_wp2
   go_meet
   case rel => exact ⟨_, (false), V2, H', ⟨by first | omega | exact Nat.le_refl _⟩, by repeat (first | exact Y4 _ | apply Y0)⟩
  rw [if_pos c3] at H
  have c3b0 : ((Int.tmod a0 4) == 0) = true := beq_iff_eq.mpr c3
  have c3b1 : ((Int.tmod a0 4) != 0) = false := bne_eq_false_iff_eq.mpr c3
  clear c3
  (first | rw [c3b0] | (simp only [i64_w, i32_w]; rw [c3b0]) | skip)
  by_cases c4 : (Int.tmod a0 100) = 0
  rotate_left
  ·rw [if_neg c4] at H
   have c4b0 : ((Int.tmod a0 100) == 0) = false := beq_eq_false_iff_ne.mpr c4
   have c4b1 : ((Int.tmod a0 100) != 0) = true := bne_iff_ne.mpr c4
   have H' := Z0 H
   clear H
   go_wp2
   go_meet
   case rel => exact ⟨_, (true), V2, H', ⟨by first | omega | exact Nat.le_refl _⟩, by repeat (first | exact Y4 _ | apply Y0)⟩
  rw [if_pos c4] at H
  have c4b0 : ((Int.tmod a0 100) == 0) = true := beq_iff_eq.mpr c4
  have c4b1 : ((Int.tmod a0 100) != 0) = false := bne_eq_false_iff_eq.mpr c4
  clear c4
  have H' := Z0 H
  clear H
  go_wp2
  go_meet
  case rel => exact ⟨_, (((Int.tmod a0 400) == 0)), V2, H', ⟨by first | omega | exact Nat.le_refl _⟩, by repeat (first | exact Y4 _ | apply Y0)⟩
 case rest =>
  clear HC2
  obtain ⟨kq, x2_1, rfl, HA, HJ1, ⟨mc1, rfl⟩⟩ := hcut
  cases kq with
  | zero => exact absurd HA.out (by simp [val_isLeap.j0])
  | succ kj1 =>
   have H := HA.out
   clear HA
   simp only [val_isLeap.j0] at H
   obtain rfl := Option.some.inj H
   go_wp2
   go_ret
   exact ⟨V2, by repeat (first | exact Y4 _ | apply Y0)⟩
end
def mdS (m : Int) : Int := if m = 2 then 28 else if m = 4 ∨ m = 6 ∨ m = 9 ∨ m = 11 then 30 else 31
def val_monthDays.f (a0 : Int) (a1 : Int) : Option (Int) := if 1 ≤ a1 ∧ a1 ≤ 12 then (if a1 = 2 then (val_isLeap.f 1 a0).bind fun l => some (if l = true then 29 else 28) else some (mdS a1)) else none
theorem md_1 (y : Int) (w : World) : Calls Tryz.prog 179 #[.int .i64 y, .int .i64 1] w fun e w' => e = .returned (.int .i64 31) ∧ Below w.heap.size w w' := by
 have HB := Z0 (Below.refl w.heap.size w)
 go_enter Tryz.func179, Tryz.ntmps179
 go_wp2_with (first | fail)
 go_ret
 exact ⟨rfl, by repeat (first | exact HB.out | exact below_alloc HB.out _ | refine below_set ?_ (Nat.le_refl _))⟩
theorem md_2t (y : Int) (w : World) (hl : ∀ W, Calls Tryz.prog 183 #[.int .i64 y] W fun e w' => e = .returned (.bool true) ∧ Below W.heap.size W w') : Calls Tryz.prog 179 #[.int .i64 y, .int .i64 2] w fun e w' => e = .returned (.int .i64 29) ∧ Below w.heap.size w w' := by
 have HB := Z0 (Below.refl w.heap.size w)
 go_enter Tryz.func179, Tryz.ntmps179
 go_wp2_with (first | fail | (go_at_call 183; refine (hl _).mono ?_; rintro e w7 ⟨rfl, hb⟩; have n0_ := Z0 (Z1 (by repeat (first | exact HB.out | exact below_alloc HB.out _ | refine below_set ?_ (Nat.le_refl _))) hb); clear HB; have HB := n0_; clear n0_ hb))
 go_ret
 exact ⟨rfl, by repeat (first | exact HB.out | exact below_alloc HB.out _ | refine below_set ?_ (Nat.le_refl _))⟩
theorem md_2f (y : Int) (w : World) (hl : ∀ W, Calls Tryz.prog 183 #[.int .i64 y] W fun e w' => e = .returned (.bool false) ∧ Below W.heap.size W w') : Calls Tryz.prog 179 #[.int .i64 y, .int .i64 2] w fun e w' => e = .returned (.int .i64 28) ∧ Below w.heap.size w w' := by
 have HB := Z0 (Below.refl w.heap.size w)
 go_enter Tryz.func179, Tryz.ntmps179
 go_wp2_with (first | fail | (go_at_call 183; refine (hl _).mono ?_; rintro e w7 ⟨rfl, hb⟩; have hk7 := Z2 (blk_new w _) hb; have hc7 : w7.cell? ⟨w.heap.size, 1, none⟩ = some (.int .i64 28) := (Z4 hk7 1).trans rfl; clear hk7; have n0_ := Z0 (Z1 (by repeat (first | exact HB.out | exact below_alloc HB.out _ | refine below_set ?_ (Nat.le_refl _))) hb); clear HB; have HB := n0_; clear n0_ hb))
 go_ret
 exact ⟨rfl, by repeat (first | exact HB.out | exact below_alloc HB.out _ | refine below_set ?_ (Nat.le_refl _))⟩
theorem md_3 (y : Int) (w : World) : Calls Tryz.prog 179 #[.int .i64 y, .int .i64 3] w fun e w' => e = .returned (.int .i64 31) ∧ Below w.heap.size w w' := by
 have HB := Z0 (Below.refl w.heap.size w)
 go_enter Tryz.func179, Tryz.ntmps179
 go_wp2_with (first | fail)
 go_ret
 exact ⟨rfl, by repeat (first | exact HB.out | exact below_alloc HB.out _ | refine below_set ?_ (Nat.le_refl _))⟩
theorem md_4 (y : Int) (w : World) : Calls Tryz.prog 179 #[.int .i64 y, .int .i64 4] w fun e w' => e = .returned (.int .i64 30) ∧ Below w.heap.size w w' := by
 have HB := Z0 (Below.refl w.heap.size w)
 go_enter Tryz.func179, Tryz.ntmps179
 go_wp2_with (first | fail)
 go_ret
 exact ⟨rfl, by repeat (first | exact HB.out | exact below_alloc HB.out _ | refine below_set ?_ (Nat.le_refl _))⟩
theorem md_5 (y : Int) (w : World) : Calls Tryz.prog 179 #[.int .i64 y, .int .i64 5] w fun e w' => e = .returned (.int .i64 31) ∧ Below w.heap.size w w' := by
 have HB := Z0 (Below.refl w.heap.size w)
 go_enter Tryz.func179, Tryz.ntmps179
 go_wp2_with (first | fail)
 go_ret
 exact ⟨rfl, by repeat (first | exact HB.out | exact below_alloc HB.out _ | refine below_set ?_ (Nat.le_refl _))⟩
theorem md_6 (y : Int) (w : World) : Calls Tryz.prog 179 #[.int .i64 y, .int .i64 6] w fun e w' => e = .returned (.int .i64 30) ∧ Below w.heap.size w w' := by
 have HB := Z0 (Below.refl w.heap.size w)
 go_enter Tryz.func179, Tryz.ntmps179
 go_wp2_with (first | fail)
 go_ret
 exact ⟨rfl, by repeat (first | exact HB.out | exact below_alloc HB.out _ | refine below_set ?_ (Nat.le_refl _))⟩
theorem md_7 (y : Int) (w : World) : Calls Tryz.prog 179 #[.int .i64 y, .int .i64 7] w fun e w' => e = .returned (.int .i64 31) ∧ Below w.heap.size w w' := by
 have HB := Z0 (Below.refl w.heap.size w)
 go_enter Tryz.func179, Tryz.ntmps179
 go_wp2_with (first | fail)
 go_ret
 exact ⟨rfl, by repeat (first | exact HB.out | exact below_alloc HB.out _ | refine below_set ?_ (Nat.le_refl _))⟩
theorem md_8 (y : Int) (w : World) : Calls Tryz.prog 179 #[.int .i64 y, .int .i64 8] w fun e w' => e = .returned (.int .i64 31) ∧ Below w.heap.size w w' := by
 have HB := Z0 (Below.refl w.heap.size w)
 go_enter Tryz.func179, Tryz.ntmps179
 go_wp2_with (first | fail)
 go_ret
 exact ⟨rfl, by repeat (first | exact HB.out | exact below_alloc HB.out _ | refine below_set ?_ (Nat.le_refl _))⟩
theorem md_9 (y : Int) (w : World) : Calls Tryz.prog 179 #[.int .i64 y, .int .i64 9] w fun e w' => e = .returned (.int .i64 30) ∧ Below w.heap.size w w' := by
 have HB := Z0 (Below.refl w.heap.size w)
 go_enter Tryz.func179, Tryz.ntmps179
 go_wp2_with (first | fail)
 go_ret
 exact ⟨rfl, by repeat (first | exact HB.out | exact below_alloc HB.out _ | refine below_set ?_ (Nat.le_refl _))⟩
theorem md_10 (y : Int) (w : World) : Calls Tryz.prog 179 #[.int .i64 y, .int .i64 10] w fun e w' => e = .returned (.int .i64 31) ∧ Below w.heap.size w w' := by
 have HB := Z0 (Below.refl w.heap.size w)
 go_enter Tryz.func179, Tryz.ntmps179
 go_wp2_with (first | fail)
 go_ret
 exact ⟨rfl, by repeat (first | exact HB.out | exact below_alloc HB.out _ | refine below_set ?_ (Nat.le_refl _))⟩
theorem md_11 (y : Int) (w : World) : Calls Tryz.prog 179 #[.int .i64 y, .int .i64 11] w fun e w' => e = .returned (.int .i64 30) ∧ Below w.heap.size w w' := by
 have HB := Z0 (Below.refl w.heap.size w)
 go_enter Tryz.func179, Tryz.ntmps179
 go_wp2_with (first | fail)
 go_ret
 exact ⟨rfl, by repeat (first | exact HB.out | exact below_alloc HB.out _ | refine below_set ?_ (Nat.le_refl _))⟩
theorem md_12 (y : Int) (w : World) : Calls Tryz.prog 179 #[.int .i64 y, .int .i64 12] w fun e w' => e = .returned (.int .i64 31) ∧ Below w.heap.size w w' := by
 have HB := Z0 (Below.refl w.heap.size w)
 go_enter Tryz.func179, Tryz.ntmps179
 go_wp2_with (first | fail)
 go_ret
 exact ⟨rfl, by repeat (first | exact HB.out | exact below_alloc HB.out _ | refine below_set ?_ (Nat.le_refl _))⟩
theorem val_monthDays.calls (a0 : Int) (a1 : Int) (r : Int) (w : World) (h : val_monthDays.f a0 a1 = some r) :
  Calls Tryz.prog 179 #[.int .i64 a0, .int .i64 a1] w fun e w' => e = .returned (.int .i64 r) ∧ Below w.heap.size w w' := by
 unfold val_monthDays.f at h
 split at h
 rotate_left
 ·cases h
 rename_i hm
 by_cases h2 : a1 = 2
 ·subst h2
  rw [if_pos rfl] at h
  obtain ⟨l, hl, h⟩ := Option.bind_eq_some_iff.mp h
  cases l with
  | true => cases h; exact md_2t a0 w (fun W => (val_isLeap.calls 1 a0 true W hl).mono (fun _ _ hx => ⟨hx.1, hx.2.below⟩))
  | false => cases h; exact md_2f a0 w (fun W => (val_isLeap.calls 1 a0 false W hl).mono (fun _ _ hx => ⟨hx.1, hx.2.below⟩))
 rw [if_neg h2] at h
 by_cases h1 : a1 = 1
 ·subst h1; cases h; exact md_1 a0 w
 by_cases h3 : a1 = 3
 ·subst h3; cases h; exact md_3 a0 w
 by_cases h4 : a1 = 4
 ·subst h4; cases h; exact md_4 a0 w
 by_cases h5 : a1 = 5
 ·subst h5; cases h; exact md_5 a0 w
 by_cases h6 : a1 = 6
 ·subst h6; cases h; exact md_6 a0 w
 by_cases h7 : a1 = 7
 ·subst h7; cases h; exact md_7 a0 w
 by_cases h8 : a1 = 8
 ·subst h8; cases h; exact md_8 a0 w
 by_cases h9 : a1 = 9
 ·subst h9; cases h; exact md_9 a0 w
 by_cases h10 : a1 = 10
 ·subst h10; cases h; exact md_10 a0 w
 by_cases h11 : a1 = 11
 ·subst h11; cases h; exact md_11 a0 w
 have h12 : a1 = 12 := by omega
 subst h12; cases h; exact md_12 a0 w
section
attribute [local go_sem] max2_int min2_int max_two min_two max_three min_three max_four min_four
mutual
def val_Split.l0 : Nat → Int → Int → Option (Int × Int × Int × Int)
 | 0, _, _ => none
 | k + 1, x0, x6 => (val_yearsDays.f (wrap64 (x6 + 1))).bind fun t573 => (if t573 < x0 then (val_Split.l0 k x0 (wrap64 (x6 + 1))) else ((val_yearsDays.f x6).bind fun t574 => (val_Split.l1 k x6 (wrap64 (x0 - t574)) 1)))
def val_Split.l1 : Nat → Int → Int → Int → Option (Int × Int × Int × Int)
 | 0, _, _, _ => none
 | k + 1, x6, x7, x8 => (val_monthDays.f x6 x8).bind fun t575 => (if x7 > t575 then ((val_monthDays.f x6 x8).bind fun t576 => (val_Split.l1 k x6 (wrap64 (x7 - t576)) (wrap64 (x8 + 1)))) else (some (x6, x8, x7, 0)))
end
def val_Split.f (k : Nat) (a0 : Int) : Option (Int × Int × Int × Int) := (val_isDay.f a0).bind fun t572 => (if t572 = true then (if a0 = 0 then (some (0, 0, 0, 0)) else (val_Split.l0 k a0 (wrap64 ((wrap64 (Int.tdiv a0 366)) + 1)))) else (some (0, 0, 0, 1)))
theorem val_Split.mono_l : ∀ k, (∀ y0 y1, LeO (val_Split.l0 k y0 y1) (val_Split.l0 (k + 1) y0 y1)) ∧ (∀ y0 y1 y2, LeO (val_Split.l1 k y0 y1 y2) (val_Split.l1 (k + 1) y0 y1 y2))
 | 0 => ⟨fun _ _ r h => by simp [val_Split.l0] at h, fun _ _ _ r h => by simp [val_Split.l1] at h⟩
 | k + 1 => by
  obtain ⟨ih0, ih1⟩ := val_Split.mono_l k
  refine ⟨?_, ?_⟩
  ·intro y0 y1
   unfold val_Split.l0
   repeat' first
   | (with_reducible exact ih0 _ _)
   | (with_reducible exact ih1 _ _ _)
   | (with_reducible exact LeO.refl _)
   | (with_reducible exact LeO.none _)
   | (with_reducible refine LeO.ite ?_ ?_)
   | (with_reducible refine LeO.bind ?_ (fun _ => ?_))
  ·intro y0 y1 y2
   unfold val_Split.l1
   repeat' first
   | (with_reducible exact ih0 _ _)
   | (with_reducible exact ih1 _ _ _)
   | (with_reducible exact LeO.refl _)
   | (with_reducible exact LeO.none _)
   | (with_reducible refine LeO.ite ?_ ?_)
   | (with_reducible refine LeO.bind ?_ (fun _ => ?_))
theorem val_Split.mono : ∀ a0 k, LeO (val_Split.f k a0) (val_Split.f (k + 1) a0) := by
 intro a0 k
 obtain ⟨ih0, ih1⟩ := val_Split.mono_l k
 unfold val_Split.f
 repeat' first
   | (with_reducible exact ih0 _ _)
   | (with_reducible exact ih1 _ _ _)
   | (with_reducible exact LeO.refl _)
   | (with_reducible exact LeO.none _)
   | (with_reducible refine LeO.ite ?_ ?_)
   | (with_reducible refine LeO.bind ?_ (fun _ => ?_))
theorem val_Split.calls (k : Nat) (a0 : Int) (r1 : Int) (r2 : Int) (r3 : Int) (r4 : Int) (w : World) (h : val_Split.f k a0 = some (r1, r2, r3, r4)) :
  Calls Tryz.prog 177 #[.int .i64 a0] w fun e w' => e = .returned (.tuple #[.int .i64 r1, .int .i64 r2, .int .i64 r3, .int .i64 r4]) ∧ Below w.heap.size w w' := by
 have HB := Z0 (Below.refl w.heap.size w)
 unfold val_Split.f at h
 have H := h
 clear h
 replace H := Option.bind_eq_some_iff.mp H
 obtain ⟨t572, A20, H⟩ := H
 replace H : (if t572 = true then (if a0 = 0 then (some (0, 0, 0, 0)) else (val_Split.l0 k a0 (wrap64 ((wrap64 (Int.tdiv a0 366)) + 1)))) else (some (0, 0, 0, 1))) = some (r1, r2, r3, r4) := H
 have A2 := Z0 A20
 clear A20
 by_cases c3 : t572 = true
 rotate_left
 ·replace c3 := Bool.eq_false_iff.mpr c3
  subst c3
  have H1 : (some (0, 0, 0, 1)) = some (r1, r2, r3, r4) := by rw [if_neg (show ¬ (false = true) by decide)] at H; exact H
  clear H
  have H := H1
  clear H1
  simp only [Option.some.injEq, Prod.mk.injEq] at H
  obtain ⟨rfl, rfl, rfl, rfl⟩ := H
  go_enter Tryz.func177, Tryz.ntmps177
  go_wp2_with (first | ((with_reducible refine Z5 (f := 136) rfl ?_); refine goesL_ (some 10) rfl rfl Tryz.func136 (by kernel_rfl) rfl #[.int .i64 a0] rfl V1 ?_; (with_reducible refine (val_isDay.calls a0 false _ A2.out).mono ?_); rintro e w' ⟨rfl, ⟨nd, rfl⟩⟩; refine ⟨_, rfl, ?_⟩))
  refine bodyPost_ret (results_list (rs := [.tmp 2, .tmp 3, .tmp 4, .tmp 5]) rfl (by simp) (.tmp (.tmp (.tmp (.tmp .nil))))) rfl ?_
  exact ⟨rfl, V0⟩
 subst c3
 have H1 : (if a0 = 0 then (some (0, 0, 0, 0)) else (val_Split.l0 k a0 (wrap64 ((wrap64 (Int.tdiv a0 366)) + 1)))) = some (r1, r2, r3, r4) := by rw [if_pos rfl] at H; exact H
 clear H
 have H := H1
 clear H1
 by_cases c4 : a0 = 0
 ·rw [if_pos c4] at H
  have c4b0 : (a0 == 0) = true := beq_iff_eq.mpr c4
  have c4b1 : (a0 != 0) = false := bne_eq_false_iff_eq.mpr c4
  clear c4
  simp only [Option.some.injEq, Prod.mk.injEq] at H
  obtain ⟨rfl, rfl, rfl, rfl⟩ := H
  go_enter Tryz.func177, Tryz.ntmps177
  go_wp2_with (first | ((with_reducible refine Z5 (f := 136) rfl ?_); refine goesL_ (some 10) rfl rfl Tryz.func136 (by kernel_rfl) rfl #[.int .i64 a0] rfl V1 ?_; (with_reducible refine (val_isDay.calls a0 true _ A2.out).mono ?_); rintro e w' ⟨rfl, ⟨nd, rfl⟩⟩; refine ⟨_, rfl, ?_⟩))
  refine bodyPost_ret (results_list (rs := [.tmp 2, .tmp 3, .tmp 4, .tmp 5]) rfl (by simp) (.tmp (.tmp (.tmp (.tmp .nil))))) rfl ?_
  exact ⟨rfl, V0⟩
 rw [if_neg c4] at H
 have c4b0 : (a0 == 0) = false := beq_eq_false_iff_ne.mpr c4
 have c4b1 : (a0 != 0) = true := bne_iff_ne.mpr c4
 have H' := Z0 H
 clear H
 go_enter Tryz.func177, Tryz.ntmps177
 go_wp2_with (first | ((with_reducible refine Z5 (f := 136) rfl ?_); refine goesL_ (some 10) rfl rfl Tryz.func136 (by kernel_rfl) rfl #[.int .i64 a0] rfl V1 ?_; (with_reducible refine (val_isDay.calls a0 true _ A2.out).mono ?_); rintro e w' ⟨rfl, ⟨nd, rfl⟩⟩; refine ⟨_, rfl, ?_⟩))
 go_loopg [6] k (fun kq v6 w' => ∃ (x6_1 : Int), v6 = .int .i64 x6_1 ∧ Aside0 (val_Split.l0 kq a0 x6_1 = some (r1, r2, r3, r4)) ∧ Aside0 (kq ≤ k) ∧ Aside0 (Below w.heap.size w w'))
 case atStart => exact ⟨(wrap64 ((wrap64 (Int.tdiv a0 366)) + 1)), V2, H', ⟨Nat.le_refl _⟩, ⟨V0⟩⟩
 case round =>
  clear H'
  obtain ⟨x6_1, rfl, HA, HK1, HB⟩ := hrel
  cases gk with
  | zero => exact absurd HA.out (by simp [val_Split.l0])
  | succ k1 =>
   have H := HA.out
   clear HA
   simp only [val_Split.l0] at H
   replace H := Option.bind_eq_some_iff.mp H
   obtain ⟨t573, A50, H⟩ := H
   replace H : (if t573 < a0 then (val_Split.l0 k1 a0 (wrap64 (x6_1 + 1))) else ((val_yearsDays.f x6_1).bind fun t574 => (val_Split.l1 k1 x6_1 (wrap64 (a0 - t574)) 1))) = some (r1, r2, r3, r4) := H
   have A5 := Z0 A50
   clear A50
   by_cases c6 : t573 < a0
   ·rw [if_pos c6] at H
    have c6b0 : decide (t573 < a0) = true := decide_eq_true c6
    clear c6
    have H' := Z0 H
    clear H
    go_wp2_with (first | ((with_reducible refine Z5 (f := 180) rfl ?_); refine goesL_ (some 19) rfl rfl Tryz.func180 (by kernel_rfl) rfl #[.int .i64 (wrap64 (x6_1 + 1))] rfl V1 ?_; (with_reducible refine (val_yearsDays.calls (wrap64 (x6_1 + 1)) t573 _ A5.out).mono ?_); rintro e w' ⟨rfl, ⟨nd, rfl⟩⟩; refine ⟨_, rfl, ?_⟩))
    go_roundg k1
    case measure => have := HK1.out; omega
    case rel => exact ⟨(wrap64 (x6_1 + 1)), V2, H', ⟨by have := HK1.out; omega⟩, ⟨V0⟩⟩
   rw [if_neg c6] at H
   have c6b0 : decide (t573 < a0) = false := decide_eq_false c6
   clear c6
   replace H := Option.bind_eq_some_iff.mp H
   obtain ⟨t574, A70, H⟩ := H
   replace H : (val_Split.l1 k1 x6_1 (wrap64 (a0 - t574)) 1) = some (r1, r2, r3, r4) := H
   have A7 := Z0 A70
   clear A70
   have H' := Z0 H
   clear H
   go_wp2_with (first | ((with_reducible refine Z5 (f := 180) rfl ?_); refine goesL_ (some 19) rfl rfl Tryz.func180 (by kernel_rfl) rfl #[.int .i64 (wrap64 (x6_1 + 1))] rfl V1 ?_; (with_reducible refine (val_yearsDays.calls (wrap64 (x6_1 + 1)) t573 _ A5.out).mono ?_); rintro e w' ⟨rfl, ⟨nd, rfl⟩⟩; refine ⟨_, rfl, ?_⟩) | ((with_reducible refine Z5 (f := 180) rfl ?_); refine goesL_ (some 26) rfl rfl Tryz.func180 (by kernel_rfl) rfl #[.int .i64 x6_1] rfl V1 ?_; (with_reducible refine (val_yearsDays.calls x6_1 t574 _ A7.out).mono ?_); rintro e w' ⟨rfl, ⟨nd, rfl⟩⟩; refine ⟨_, rfl, ?_⟩))
   go_loopg [7, 8] k1 (fun kq v7 v8 w' => ∃ (x7_2 : Int) (x8_2 : Int), v7 = .int .i64 x7_2 ∧ v8 = .int .i64 x8_2 ∧ Aside0 (val_Split.l1 kq x6_1 x7_2 x8_2 = some (r1, r2, r3, r4)) ∧ Aside0 (kq ≤ k1) ∧ Aside0 (Below w.heap.size w w'))
   case atStart => exact ⟨(wrap64 (a0 - t574)), (1), V2, V2, H', ⟨Nat.le_refl _⟩, ⟨V0⟩⟩
   case round =>
    clear H'
    obtain ⟨x7_2, x8_2, rfl, rfl, HA, HK2, HB⟩ := hrel
    cases gk with
    | zero => exact absurd HA.out (by simp [val_Split.l1])
    | succ k2 =>
     have H := HA.out
     clear HA
     simp only [val_Split.l1] at H
     replace H := Option.bind_eq_some_iff.mp H
     obtain ⟨t575, A80, H⟩ := H
     replace H : (if x7_2 > t575 then ((val_monthDays.f x6_1 x8_2).bind fun t576 => (val_Split.l1 k2 x6_1 (wrap64 (x7_2 - t576)) (wrap64 (x8_2 + 1)))) else (some (x6_1, x8_2, x7_2, 0))) = some (r1, r2, r3, r4) := H
     have A8 := Z0 A80
     clear A80
     by_cases c9 : x7_2 > t575
     rotate_left
     ·rw [if_neg c9] at H
      have c9b0 : decide (t575 < x7_2) = false := decide_eq_false c9
      clear c9
      simp only [Option.some.injEq, Prod.mk.injEq] at H
      obtain ⟨rfl, rfl, rfl, rfl⟩ := H
      go_wp2_with (first | ((with_reducible refine Z5 (f := 179) rfl ?_); refine goesL_ (some 31) rfl rfl Tryz.func179 (by kernel_rfl) rfl #[.int .i64 x6_1, .int .i64 x8_2] rfl V1 ?_; (with_reducible refine (val_monthDays.calls x6_1 x8_2 t575 _ A8.out).mono ?_); rintro e w13 ⟨rfl, hb⟩; refine ⟨_, rfl, ?_⟩; replace HB := Z0 (Z1 HB.out hb)))
      refine bodyPost_ret (results_list (rs := [.tmp 2, .tmp 3, .tmp 4, .tmp 5]) rfl (by simp) (.tmp (.tmp (.tmp (.tmp .nil))))) rfl ?_
      exact ⟨rfl, V0⟩
     rw [if_pos c9] at H
     have c9b0 : decide (t575 < x7_2) = true := decide_eq_true c9
     clear c9
     replace H := Option.bind_eq_some_iff.mp H
     obtain ⟨t576, A100, H⟩ := H
     replace H : (val_Split.l1 k2 x6_1 (wrap64 (x7_2 - t576)) (wrap64 (x8_2 + 1))) = some (r1, r2, r3, r4) := H
     have A10 := Z0 A100
     clear A100
     have H' := Z0 H
     clear H
     go_wp2_with (first | ((with_reducible refine Z5 (f := 179) rfl ?_); refine goesL_ (some 31) rfl rfl Tryz.func179 (by kernel_rfl) rfl #[.int .i64 x6_1, .int .i64 x8_2] rfl V1 ?_; (with_reducible refine (val_monthDays.calls x6_1 x8_2 t575 _ A8.out).mono ?_); rintro e w11 ⟨rfl, hb⟩; refine ⟨_, rfl, ?_⟩; replace HB := Z0 (Z1 HB.out hb)) | ((with_reducible refine Z5 (f := 179) rfl ?_); refine goesL_ (some 36) rfl rfl Tryz.func179 (by kernel_rfl) rfl #[.int .i64 x6_1, .int .i64 x8_2] rfl V1 ?_; (with_reducible refine (val_monthDays.calls x6_1 x8_2 t576 _ A10.out).mono ?_); rintro e w12 ⟨rfl, hb⟩; refine ⟨_, rfl, ?_⟩; replace HB := Z0 (Z1 HB.out hb)))
     go_roundg k2
     case measure => have := HK1.out; have := HK2.out; omega
     case rel => exact ⟨(wrap64 (x7_2 - t576)), (wrap64 (x8_2 + 1)), V2, V2, H', ⟨by have := HK1.out; have := HK2.out; omega⟩, ⟨V0⟩⟩
def val_padded.f (a0 : Int) (a1 : Int) : Option (ByteArray) := (val_decimal.f a0).bind fun t577 => ((strings_Repeat.f (⟨#[48]⟩ : ByteArray) (wrap64 (a1 - (t577.size : Int)))).bind fun t578 => (if t578.size + t577.size ≤ 9223372036854775807 then (some (t578 ++ t577)) else (none)))
theorem val_padded.calls (a0 : Int) (a1 : Int) (r : ByteArray) (w : World) (h : val_padded.f a0 a1 = some r) :
  Calls Tryz.prog 178 #[.int .i64 a0, .int .i64 a1] w fun e w' => e = .returned (.string r) ∧ Below w.heap.size w w' := by
 have HB := Z0 (Below.refl w.heap.size w)
 unfold val_padded.f at h
 have H := h
 clear h
 replace H := Option.bind_eq_some_iff.mp H
 obtain ⟨t577, A30, H⟩ := H
 replace H : ((strings_Repeat.f (⟨#[48]⟩ : ByteArray) (wrap64 (a1 - (t577.size : Int)))).bind fun t578 => (if t578.size + t577.size ≤ 9223372036854775807 then (some (t578 ++ t577)) else (none))) = some r := H
 have A3 := Z0 A30
 clear A30
 replace H := Option.bind_eq_some_iff.mp H
 obtain ⟨t578, A40, H⟩ := H
 replace H : (if t578.size + t577.size ≤ 9223372036854775807 then (some (t578 ++ t577)) else (none)) = some r := H
 have A4 := Z0 A40
 clear A40
 by_cases c5 : t578.size + t577.size ≤ 9223372036854775807
 rotate_left
 ·rw [if_neg c5] at H
  exact absurd H (by simp)
 rw [if_pos c5] at H
 have c5b0 := eq_true c5
 have c5b1 : decide (t578.size + t577.size ≤ 9223372036854775807) = true := decide_eq_true c5
 try have c5b2 : (9223372036854775807 < t578.size + t577.size) = False := eq_false (Nat.not_lt.2 c5)
 obtain rfl := Option.some.inj H
 go_enter Tryz.func178, Tryz.ntmps178
 go_wp2_with (first | ((with_reducible refine Z5 (f := 98) rfl ?_); refine gl Tryz.func98 (val_decimal.calls a0 t577 _ A3.out) ?_; rintro e w6 ⟨rfl, hb⟩; refine ⟨_, rfl, ?_⟩; have n0_ := Z0 (Z1 V0 hb); clear HB; have HB := n0_; clear n0_) | ((with_reducible refine Z5 (f := 99) rfl ?_); refine gl Tryz.func99 (strings_Repeat.calls (⟨#[48]⟩ : ByteArray) (wrap64 (a1 - (t577.size : Int))) t578 _ A4.out) ?_; rintro e w7 ⟨rfl, hb⟩; refine ⟨_, rfl, ?_⟩; have n0_ := Z0 (Z1 V0 hb); clear HB; have HB := n0_; clear n0_))
 go_ret
 exact ⟨by first | rfl | (simp [errW_none, errW_some] <;> rfl) | (simp [*, errW_none, errW_some] <;> rfl), V0⟩
def val_stamp.f (k : Nat) (a0 : Int) : Option (ByteArray) := (val_Split.f k a0).bind fun bt561 => ((val_padded.f bt561.1 4).bind fun t565 => ((val_padded.f bt561.2.1 2).bind fun t566 => (if t565.size + t566.size ≤ 9223372036854775807 then ((val_padded.f bt561.2.2.1 2).bind fun t567 => (if (t565 ++ t566).size + t567.size ≤ 9223372036854775807 then (some ((t565 ++ t566) ++ t567)) else (none))) else (none))))
theorem val_stamp.mono : ∀ a0 k, LeO (val_stamp.f k a0) (val_stamp.f (k + 1) a0) := by
 intro a0 k
 unfold val_stamp.f
 repeat' first
   | (with_reducible exact val_Split.mono _ _)
   | (with_reducible exact LeO.refl _)
   | (with_reducible exact LeO.none _)
   | (with_reducible refine LeO.ite ?_ ?_)
   | (with_reducible refine LeO.bind ?_ (fun _ => ?_))
theorem val_stamp.calls (k : Nat) (a0 : Int) (r : ByteArray) (w : World) (h : val_stamp.f k a0 = some r) :
  Calls Tryz.prog 167 #[.int .i64 a0] w fun e w' => e = .returned (.string r) ∧ Below w.heap.size w w' := by
 have HB := Z0 (Below.refl w.heap.size w)
 unfold val_stamp.f at h
 have H := h
 clear h
 replace H := Option.bind_eq_some_iff.mp H
 obtain ⟨⟨t561, t562, t563, t564⟩, A20, H⟩ := H
 replace H : ((val_padded.f t561 4).bind fun t565 => ((val_padded.f t562 2).bind fun t566 => (if t565.size + t566.size ≤ 9223372036854775807 then ((val_padded.f t563 2).bind fun t567 => (if (t565 ++ t566).size + t567.size ≤ 9223372036854775807 then (some ((t565 ++ t566) ++ t567)) else (none))) else (none)))) = some r := H
 have A2 := Z0 A20
 clear A20
 replace H := Option.bind_eq_some_iff.mp H
 obtain ⟨t565, A30, H⟩ := H
 replace H : ((val_padded.f t562 2).bind fun t566 => (if t565.size + t566.size ≤ 9223372036854775807 then ((val_padded.f t563 2).bind fun t567 => (if (t565 ++ t566).size + t567.size ≤ 9223372036854775807 then (some ((t565 ++ t566) ++ t567)) else (none))) else (none))) = some r := H
 have A3 := Z0 A30
 clear A30
 replace H := Option.bind_eq_some_iff.mp H
 obtain ⟨t566, A40, H⟩ := H
 replace H : (if t565.size + t566.size ≤ 9223372036854775807 then ((val_padded.f t563 2).bind fun t567 => (if (t565 ++ t566).size + t567.size ≤ 9223372036854775807 then (some ((t565 ++ t566) ++ t567)) else (none))) else (none)) = some r := H
 have A4 := Z0 A40
 clear A40
 by_cases c5 : t565.size + t566.size ≤ 9223372036854775807
 rotate_left
 ·rw [if_neg c5] at H
  exact absurd H (by simp)
 rw [if_pos c5] at H
 have c5b0 := eq_true c5
 have c5b1 : decide (t565.size + t566.size ≤ 9223372036854775807) = true := decide_eq_true c5
 try have c5b2 : (9223372036854775807 < t565.size + t566.size) = False := eq_false (Nat.not_lt.2 c5)
 replace H := Option.bind_eq_some_iff.mp H
 obtain ⟨t567, A60, H⟩ := H
 replace H : (if (t565 ++ t566).size + t567.size ≤ 9223372036854775807 then (some ((t565 ++ t566) ++ t567)) else (none)) = some r := H
 have A6 := Z0 A60
 clear A60
 by_cases c7 : (t565 ++ t566).size + t567.size ≤ 9223372036854775807
 rotate_left
 ·rw [if_neg c7] at H
  exact absurd H (by simp)
 rw [if_pos c7] at H
 have c7b0 := eq_true c7
 have c7b1 : decide ((t565 ++ t566).size + t567.size ≤ 9223372036854775807) = true := decide_eq_true c7
 try have c7b2 : (9223372036854775807 < (t565 ++ t566).size + t567.size) = False := eq_false (Nat.not_lt.2 c7)
 have c7b3 : (9223372036854775807 < t565.size + t566.size + t567.size) = False := eq_false (by rw [ByteArray.size_append] at c7; omega)
 obtain rfl := Option.some.inj H
 go_enter Tryz.func167, Tryz.ntmps167
 go_wp2_with (first | ((with_reducible refine Z5 (f := 177) rfl ?_); refine gl Tryz.func177 (val_Split.calls k a0 t561 t562 t563 t564 _ A2.out) ?_; rintro e w8 ⟨rfl, hb⟩; refine ⟨_, rfl, ?_⟩; replace HB := Z0 (Z1 HB.out hb)) | ((with_reducible refine Z5 (f := 178) rfl ?_); refine gl Tryz.func178 (val_padded.calls t561 4 t565 _ A3.out) ?_; rintro e w9 ⟨rfl, hb⟩; refine ⟨_, rfl, ?_⟩; replace HB := Z0 (Z1 HB.out hb)) | ((with_reducible refine Z5 (f := 178) rfl ?_); refine gl Tryz.func178 (val_padded.calls t562 2 t566 _ A4.out) ?_; rintro e w10 ⟨rfl, hb⟩; refine ⟨_, rfl, ?_⟩; replace HB := Z0 (Z1 HB.out hb)) | ((with_reducible refine Z5 (f := 178) rfl ?_); refine gl Tryz.func178 (val_padded.calls t563 2 t567 _ A6.out) ?_; rintro e w11 ⟨rfl, hb⟩; refine ⟨_, rfl, ?_⟩; replace HB := Z0 (Z1 HB.out hb)))
 go_ret
 exact ⟨rfl, V0⟩
def cabinetryref01_leap.j0 : Nat → Bool → Option (Bool)
 | 0, _ => none
 | k + 1, x2 => some x2
def cabinetryref01_leap.f (k : Nat) (a0 : Int) : Option (Bool) := if (Int.tmod a0 4) = 0 then (if (Int.tmod a0 100) = 0 then (cabinetryref01_leap.j0 k ((Int.tmod a0 400) == 0)) else (cabinetryref01_leap.j0 k true)) else (cabinetryref01_leap.j0 k ((Int.tmod a0 400) == 0))
theorem cabinetryref01_leap.mono_l : ∀ k, (∀ y0, LeO (cabinetryref01_leap.j0 k y0) (cabinetryref01_leap.j0 (k + 1) y0))
 | 0 => fun _ r h => by simp [cabinetryref01_leap.j0] at h
 | k + 1 => by
  have ih0 := cabinetryref01_leap.mono_l k
  ·intro y0
   unfold cabinetryref01_leap.j0
   repeat' first
   | (with_reducible exact ih0 _)
   | (with_reducible exact LeO.refl _)
   | (with_reducible exact LeO.none _)
   | (with_reducible refine LeO.ite ?_ ?_)
   | (with_reducible refine LeO.bind ?_ (fun _ => ?_))
theorem cabinetryref01_leap.mono : ∀ a0 k, LeO (cabinetryref01_leap.f k a0) (cabinetryref01_leap.f (k + 1) a0) := by
 intro a0 k
 have ih0 := cabinetryref01_leap.mono_l k
 unfold cabinetryref01_leap.f
 repeat' first
   | (with_reducible exact ih0 _)
   | (with_reducible exact LeO.refl _)
   | (with_reducible exact LeO.none _)
   | (with_reducible refine LeO.ite ?_ ?_)
   | (with_reducible refine LeO.bind ?_ (fun _ => ?_))
theorem cabinetryref01_leap.calls (k : Nat) (a0 : Int) (r : Bool) (w : World) (h : cabinetryref01_leap.f k a0 = some r) :
  Calls Tryz.prog 181 #[.int .i64 a0] w fun e w' => e = .returned (.bool r) ∧ Drawn0 w w' := by
 unfold cabinetryref01_leap.f at h
 have H := h
 clear h
 have HC2 := Z0 H
 clear H
 go_enter Tryz.func181, Tryz.ntmps181
 go_upto_region 1 with (fail)
 go_cut [2] (fun v2 wc => ∃ (kq : Nat) (x2_1 : Bool), v2 = .bool x2_1 ∧ Aside0 (cabinetryref01_leap.j0 kq x2_1 = some r) ∧ Aside0 (kq ≤ k) ∧ Drawn0 w wc)
 case first =>
  have H := HC2.out
  clear HC2
  by_cases c3 : (Int.tmod a0 4) = 0
  rotate_left
  ·rw [if_neg c3] at H
   have c3b0 : ((Int.tmod a0 4) == 0) = false := beq_eq_false_iff_ne.mpr c3
   have c3b1 : ((Int.tmod a0 4) != 0) = true := bne_iff_ne.mpr c3
   (first | rw [c3b0] | (simp only [i64_w, i32_w]; rw [c3b0]) | skip)
   have H' := Z0 H
   clear H
   go_wp2
   go_meet
   case rel => exact ⟨_, (((Int.tmod a0 400) == 0)), V2, H', ⟨by first | omega | exact Nat.le_refl _⟩, by repeat (first | exact Y4 _ | apply Y0)⟩
  rw [if_pos c3] at H
  have c3b0 : ((Int.tmod a0 4) == 0) = true := beq_iff_eq.mpr c3
  have c3b1 : ((Int.tmod a0 4) != 0) = false := bne_eq_false_iff_eq.mpr c3
  clear c3
  (first | rw [c3b0] | (simp only [i64_w, i32_w]; rw [c3b0]) | skip)
  by_cases c4 : (Int.tmod a0 100) = 0
  rotate_left
  ·rw [if_neg c4] at H
   have c4b0 : ((Int.tmod a0 100) == 0) = false := beq_eq_false_iff_ne.mpr c4
   have c4b1 : ((Int.tmod a0 100) != 0) = true := bne_iff_ne.mpr c4
   have H' := Z0 H
   clear H
   go_wp2
   go_meet
   case rel => exact ⟨_, (true), V2, H', ⟨by first | omega | exact Nat.le_refl _⟩, by repeat (first | exact Y4 _ | apply Y0)⟩
  rw [if_pos c4] at H
  have c4b0 : ((Int.tmod a0 100) == 0) = true := beq_iff_eq.mpr c4
  have c4b1 : ((Int.tmod a0 100) != 0) = false := bne_eq_false_iff_eq.mpr c4
  clear c4
  have H' := Z0 H
  clear H
  go_wp2
  go_meet
  case rel => exact ⟨_, (((Int.tmod a0 400) == 0)), V2, H', ⟨by first | omega | exact Nat.le_refl _⟩, by repeat (first | exact Y4 _ | apply Y0)⟩
 case rest =>
  clear HC2
  obtain ⟨kq, x2_1, rfl, HA, HJ1, ⟨mc1, rfl⟩⟩ := hcut
  cases kq with
  | zero => exact absurd HA.out (by simp [cabinetryref01_leap.j0])
  | succ kj1 =>
   have H := HA.out
   clear HA
   simp only [cabinetryref01_leap.j0] at H
   obtain rfl := Option.some.inj H
   go_wp2
   go_ret
   exact ⟨V2, by repeat (first | exact Y4 _ | apply Y0)⟩
def cabinetryref01_length.j0 : Nat → Bool → Option (Int)
 | 0, _ => none
 | k + 1, x22 => if x22 = true then (some 30) else (some 31)
def cabinetryref01_length.f (k : Nat) (a0 : Int) (a1 : Int) : Option (Int) := if a1 = 2 then ((cabinetryref01_leap.f k a0).bind fun t582 => (if t582 = true then (some 29) else (some 28))) else (if a1 = 4 then (cabinetryref01_length.j0 k true) else (if a1 = 6 then (cabinetryref01_length.j0 k true) else (if a1 = 9 then (cabinetryref01_length.j0 k true) else (cabinetryref01_length.j0 k (a1 == 11)))))
theorem cabinetryref01_length.mono_l : ∀ k, (∀ y0, LeO (cabinetryref01_length.j0 k y0) (cabinetryref01_length.j0 (k + 1) y0))
 | 0 => fun _ r h => by simp [cabinetryref01_length.j0] at h
 | k + 1 => by
  have ih0 := cabinetryref01_length.mono_l k
  ·intro y0
   unfold cabinetryref01_length.j0
   repeat' first
   | (with_reducible exact ih0 _)
   | (with_reducible exact cabinetryref01_leap.mono _ _)
   | (with_reducible exact LeO.refl _)
   | (with_reducible exact LeO.none _)
   | (with_reducible refine LeO.ite ?_ ?_)
   | (with_reducible refine LeO.bind ?_ (fun _ => ?_))
theorem cabinetryref01_length.mono : ∀ a0 a1 k, LeO (cabinetryref01_length.f k a0 a1) (cabinetryref01_length.f (k + 1) a0 a1) := by
 intro a0 a1 k
 have ih0 := cabinetryref01_length.mono_l k
 unfold cabinetryref01_length.f
 repeat' first
   | (with_reducible exact ih0 _)
   | (with_reducible exact cabinetryref01_leap.mono _ _)
   | (with_reducible exact LeO.refl _)
   | (with_reducible exact LeO.none _)
   | (with_reducible refine LeO.ite ?_ ?_)
   | (with_reducible refine LeO.bind ?_ (fun _ => ?_))
theorem cabinetryref01_length.calls (k : Nat) (a0 : Int) (a1 : Int) (r : Int) (w : World) (h : cabinetryref01_length.f k a0 a1 = some r) :
  Calls Tryz.prog 170 #[.int .i64 a0, .int .i64 a1] w fun e w' => e = .returned (.int .i64 r) ∧ Drawn0 w w' := by
 unfold cabinetryref01_length.f at h
 have H := h
 clear h
 by_cases c3 : a1 = 2
 ·rw [if_pos c3] at H
  have c3b0 : (a1 == 2) = true := beq_iff_eq.mpr c3
  have c3b1 : (a1 != 2) = false := bne_eq_false_iff_eq.mpr c3
  clear c3
  replace H := Option.bind_eq_some_iff.mp H
  obtain ⟨t582, A40, H⟩ := H
  replace H : (if t582 = true then (some 29) else (some 28)) = some r := H
  have A4 := Z0 A40
  clear A40
  by_cases c5 : t582 = true
  ·subst c5
   have H1 : (some 29) = some r := by rw [if_pos rfl] at H; exact H
   clear H
   have H := H1
   clear H1
   obtain rfl := Option.some.inj H
   go_enter Tryz.func170, Tryz.ntmps170
   go_wp2_with (first | ((with_reducible refine Z5 (f := 181) rfl ?_); refine gl Tryz.func181 (cabinetryref01_leap.calls k a0 true _ A4.out) ?_; rintro e w' ⟨rfl, ⟨nd, rfl⟩⟩; refine ⟨_, rfl, ?_⟩))
   go_ret
   exact ⟨V2, by repeat (first | exact Y4 _ | apply Y0)⟩
  replace c5 := Bool.eq_false_iff.mpr c5
  subst c5
  have H1 : (some 28) = some r := by rw [if_neg (show ¬ (false = true) by decide)] at H; exact H
  clear H
  have H := H1
  clear H1
  obtain rfl := Option.some.inj H
  go_enter Tryz.func170, Tryz.ntmps170
  go_wp2_with (first | ((with_reducible refine Z5 (f := 181) rfl ?_); refine gl Tryz.func181 (cabinetryref01_leap.calls k a0 false _ A4.out) ?_; rintro e w' ⟨rfl, ⟨nd, rfl⟩⟩; refine ⟨_, rfl, ?_⟩))
  go_ret
  exact ⟨V2, by repeat (first | exact Y4 _ | apply Y0)⟩
 rw [if_neg c3] at H
 have c3b0 : (a1 == 2) = false := beq_eq_false_iff_ne.mpr c3
 have c3b1 : (a1 != 2) = true := bne_iff_ne.mpr c3
 have HC6 := Z0 H
 clear H
 go_enter Tryz.func170, Tryz.ntmps170
 go_upto_region 5 with (fail)
 go_cut [22] (fun v22 wc => ∃ (kq : Nat) (x22_5 : Bool), v22 = .bool x22_5 ∧ Aside0 (cabinetryref01_length.j0 kq x22_5 = some r) ∧ Aside0 (kq ≤ k) ∧ Drawn0 w wc)
 case first =>
  have H := HC6.out
  clear HC6
  by_cases c7 : a1 = 4
  ·rw [if_pos c7] at H
   have c7b0 : (a1 == 4) = true := beq_iff_eq.mpr c7
   have c7b1 : (a1 != 4) = false := bne_eq_false_iff_eq.mpr c7
   clear c7
   (first | rw [c7b0] | (simp only [i64_w, i32_w]; rw [c7b0]) | skip)
   have H' := Z0 H
   clear H
   go_wp2
   go_meet
   case rel => exact ⟨_, (true), V2, H', ⟨by first | omega | exact Nat.le_refl _⟩, by repeat (first | exact Y4 _ | apply Y0)⟩
  rw [if_neg c7] at H
  have c7b0 : (a1 == 4) = false := beq_eq_false_iff_ne.mpr c7
  have c7b1 : (a1 != 4) = true := bne_iff_ne.mpr c7
  (first | rw [c7b0] | (simp only [i64_w, i32_w]; rw [c7b0]) | skip)
  by_cases c8 : a1 = 6
  ·rw [if_pos c8] at H
   have c8b0 : (a1 == 6) = true := beq_iff_eq.mpr c8
   have c8b1 : (a1 != 6) = false := bne_eq_false_iff_eq.mpr c8
   clear c8
   have H' := Z0 H
   clear H
   go_wp2
   go_meet
   case rel => exact ⟨_, (true), V2, H', ⟨by first | omega | exact Nat.le_refl _⟩, by repeat (first | exact Y4 _ | apply Y0)⟩
  rw [if_neg c8] at H
  have c8b0 : (a1 == 6) = false := beq_eq_false_iff_ne.mpr c8
  have c8b1 : (a1 != 6) = true := bne_iff_ne.mpr c8
  by_cases c9 : a1 = 9
  ·rw [if_pos c9] at H
   have c9b0 : (a1 == 9) = true := beq_iff_eq.mpr c9
   have c9b1 : (a1 != 9) = false := bne_eq_false_iff_eq.mpr c9
   clear c9
   have H' := Z0 H
   clear H
   go_wp2
   go_meet
   case rel => exact ⟨_, (true), V2, H', ⟨by first | omega | exact Nat.le_refl _⟩, by repeat (first | exact Y4 _ | apply Y0)⟩
  rw [if_neg c9] at H
  have c9b0 : (a1 == 9) = false := beq_eq_false_iff_ne.mpr c9
  have c9b1 : (a1 != 9) = true := bne_iff_ne.mpr c9
  have H' := Z0 H
  clear H
  go_wp2
  go_meet
  case rel => exact ⟨_, ((a1 == 11)), V2, H', ⟨by first | omega | exact Nat.le_refl _⟩, by repeat (first | exact Y4 _ | apply Y0)⟩
 case rest =>
  clear HC6
  obtain ⟨kq, x22_5, rfl, HA, HJ5, ⟨mc5, rfl⟩⟩ := hcut
  cases kq with
  | zero => exact absurd HA.out (by simp [cabinetryref01_length.j0])
  | succ kj5 =>
   have H := HA.out
   clear HA
   simp only [cabinetryref01_length.j0] at H
   by_cases c10 : x22_5 = true
   ·subst c10
    have H1 : (some 30) = some r := by rw [if_pos rfl] at H; exact H
    clear H
    have H := H1
    clear H1
    obtain rfl := Option.some.inj H
    go_wp2
    go_ret
    exact ⟨V2, by repeat (first | exact Y4 _ | apply Y0)⟩
   replace c10 := Bool.eq_false_iff.mpr c10
   subst c10
   have H1 : (some 31) = some r := by rw [if_neg (show ¬ (false = true) by decide)] at H; exact H
   clear H
   have H := H1
   clear H1
   obtain rfl := Option.some.inj H
   go_wp2
   go_ret
   exact ⟨V2, by repeat (first | exact Y4 _ | apply Y0)⟩
mutual
def cabinetryref01_Days.j0 : Nat → Int → Int → Int → Bool → Option (Int × Int)
 | 0, _, _, _, _ => none
 | k + 1, x0, x1, x2, x35 => if x35 = true then (some (0, 1)) else (cabinetryref01_Days.l0 k x0 x1 x2 1)
def cabinetryref01_Days.l0 : Nat → Int → Int → Int → Int → Option (Int × Int)
 | 0, _, _, _, _ => none
 | k + 1, x0, x1, x8, x9 => if x9 < x1 then ((cabinetryref01_length.f k x0 x9).bind fun t584 => (cabinetryref01_Days.l0 k x0 x1 (wrap64 (x8 + t584)) (wrap64 (x9 + 1)))) else (some (wrap64 ((wrap64 ((wrap64 ((wrap64 (x8 + (wrap64 (365 * (wrap64 (x0 - 1)))))) + (wrap64 (Int.tdiv (wrap64 (x0 - 1)) 4)))) - (wrap64 (Int.tdiv (wrap64 (x0 - 1)) 100)))) + (wrap64 (Int.tdiv (wrap64 (x0 - 1)) 400))), 0))
end
def cabinetryref01_Days.f (k : Nat) (a0 : Int) (a1 : Int) (a2 : Int) : Option (Int × Int) := if a0 < 1 then (cabinetryref01_Days.j0 k a0 a1 a2 true) else (if a0 > 9999 then (cabinetryref01_Days.j0 k a0 a1 a2 true) else (if a1 < 1 then (cabinetryref01_Days.j0 k a0 a1 a2 true) else (if a1 > 12 then (cabinetryref01_Days.j0 k a0 a1 a2 true) else (if a2 < 1 then (cabinetryref01_Days.j0 k a0 a1 a2 true) else ((cabinetryref01_length.f k a0 a1).bind fun t583 => (cabinetryref01_Days.j0 k a0 a1 a2 (decide (a2 > t583))))))))
theorem cabinetryref01_Days.mono_l : ∀ k, (∀ y0 y1 y2 y3, LeO (cabinetryref01_Days.j0 k y0 y1 y2 y3) (cabinetryref01_Days.j0 (k + 1) y0 y1 y2 y3)) ∧ (∀ y0 y1 y2 y3, LeO (cabinetryref01_Days.l0 k y0 y1 y2 y3) (cabinetryref01_Days.l0 (k + 1) y0 y1 y2 y3))
 | 0 => ⟨fun _ _ _ _ r h => by simp [cabinetryref01_Days.j0] at h, fun _ _ _ _ r h => by simp [cabinetryref01_Days.l0] at h⟩
 | k + 1 => by
  obtain ⟨ih0, ih1⟩ := cabinetryref01_Days.mono_l k
  refine ⟨?_, ?_⟩
  ·intro y0 y1 y2 y3
   unfold cabinetryref01_Days.j0
   repeat' first
   | (with_reducible exact ih0 _ _ _ _)
   | (with_reducible exact ih1 _ _ _ _)
   | (with_reducible exact cabinetryref01_length.mono _ _ _)
   | (with_reducible exact LeO.refl _)
   | (with_reducible exact LeO.none _)
   | (with_reducible refine LeO.ite ?_ ?_)
   | (with_reducible refine LeO.bind ?_ (fun _ => ?_))
  ·intro y0 y1 y2 y3
   unfold cabinetryref01_Days.l0
   repeat' first
   | (with_reducible exact ih0 _ _ _ _)
   | (with_reducible exact ih1 _ _ _ _)
   | (with_reducible exact cabinetryref01_length.mono _ _ _)
   | (with_reducible exact LeO.refl _)
   | (with_reducible exact LeO.none _)
   | (with_reducible refine LeO.ite ?_ ?_)
   | (with_reducible refine LeO.bind ?_ (fun _ => ?_))
theorem cabinetryref01_Days.mono : ∀ a0 a1 a2 k, LeO (cabinetryref01_Days.f k a0 a1 a2) (cabinetryref01_Days.f (k + 1) a0 a1 a2) := by
 intro a0 a1 a2 k
 obtain ⟨ih0, ih1⟩ := cabinetryref01_Days.mono_l k
 unfold cabinetryref01_Days.f
 repeat' first
   | (with_reducible exact ih0 _ _ _ _)
   | (with_reducible exact ih1 _ _ _ _)
   | (with_reducible exact cabinetryref01_length.mono _ _ _)
   | (with_reducible exact LeO.refl _)
   | (with_reducible exact LeO.none _)
   | (with_reducible refine LeO.ite ?_ ?_)
   | (with_reducible refine LeO.bind ?_ (fun _ => ?_))
theorem cabinetryref01_Days.calls (k : Nat) (a0 : Int) (a1 : Int) (a2 : Int) (r1 : Int) (r2 : Int) (w : World) (h : cabinetryref01_Days.f k a0 a1 a2 = some (r1, r2)) :
  Calls Tryz.prog 155 #[.int .i64 a0, .int .i64 a1, .int .i64 a2] w fun e w' => e = .returned (.tuple #[.int .i64 r1, .int .i64 r2]) ∧ Drawn0 w w' := by
 unfold cabinetryref01_Days.f at h
 have H := h
 clear h
 have HC4 := Z0 H
 clear H
 go_enter Tryz.func155, Tryz.ntmps155
 go_upto_region 1 with (fail)
 go_cut [35] (fun v35 wc => ∃ (kq : Nat) (x35_3 : Bool), v35 = .bool x35_3 ∧ Aside0 (cabinetryref01_Days.j0 kq a0 a1 a2 x35_3 = some (r1, r2)) ∧ Aside0 (kq ≤ k) ∧ Drawn0 w wc)
 case first =>
  have H := HC4.out
  clear HC4
  by_cases c5 : a0 < 1
  ·rw [if_pos c5] at H
   have c5b0 : decide (a0 < 1) = true := decide_eq_true c5
   clear c5
   (first | rw [c5b0] | (simp only [i64_w, i32_w]; rw [c5b0]) | skip)
   have H' := Z0 H
   clear H
   go_wp2
   go_meet
   case rel => exact ⟨_, (true), V2, H', ⟨by first | omega | exact Nat.le_refl _⟩, by repeat (first | exact Y4 _ | apply Y0)⟩
  rw [if_neg c5] at H
  have c5b0 : decide (a0 < 1) = false := decide_eq_false c5
  clear c5
  (first | rw [c5b0] | (simp only [i64_w, i32_w]; rw [c5b0]) | skip)
  by_cases c6 : a0 > 9999
  ·rw [if_pos c6] at H
   have c6b0 : decide (9999 < a0) = true := decide_eq_true c6
   clear c6
   have H' := Z0 H
   clear H
   go_wp2
   go_meet
   case rel => exact ⟨_, (true), V2, H', ⟨by first | omega | exact Nat.le_refl _⟩, by repeat (first | exact Y4 _ | apply Y0)⟩
  rw [if_neg c6] at H
  have c6b0 : decide (9999 < a0) = false := decide_eq_false c6
  clear c6
  by_cases c7 : a1 < 1
  ·rw [if_pos c7] at H
   have c7b0 : decide (a1 < 1) = true := decide_eq_true c7
   clear c7
   have H' := Z0 H
   clear H
   go_wp2
   go_meet
   case rel => exact ⟨_, (true), V2, H', ⟨by first | omega | exact Nat.le_refl _⟩, by repeat (first | exact Y4 _ | apply Y0)⟩
  rw [if_neg c7] at H
  have c7b0 : decide (a1 < 1) = false := decide_eq_false c7
  clear c7
  by_cases c8 : a1 > 12
  ·rw [if_pos c8] at H
   have c8b0 : decide (12 < a1) = true := decide_eq_true c8
   clear c8
   have H' := Z0 H
   clear H
   go_wp2
   go_meet
   case rel => exact ⟨_, (true), V2, H', ⟨by first | omega | exact Nat.le_refl _⟩, by repeat (first | exact Y4 _ | apply Y0)⟩
  rw [if_neg c8] at H
  have c8b0 : decide (12 < a1) = false := decide_eq_false c8
  clear c8
  by_cases c9 : a2 < 1
  ·rw [if_pos c9] at H
   have c9b0 : decide (a2 < 1) = true := decide_eq_true c9
   clear c9
   have H' := Z0 H
   clear H
   go_wp2
   go_meet
   case rel => exact ⟨_, (true), V2, H', ⟨by first | omega | exact Nat.le_refl _⟩, by repeat (first | exact Y4 _ | apply Y0)⟩
  rw [if_neg c9] at H
  have c9b0 : decide (a2 < 1) = false := decide_eq_false c9
  clear c9
  replace H := Option.bind_eq_some_iff.mp H
  obtain ⟨t583, A100, H⟩ := H
  replace H : (cabinetryref01_Days.j0 k a0 a1 a2 (decide (a2 > t583))) = some (r1, r2) := H
  have A10 := Z0 A100
  clear A100
  have H' := Z0 H
  clear H
  go_wp2_with (first | (go_at_call 170; (with_reducible refine (cabinetryref01_length.calls k a0 a1 t583 _ A10.out).mono ?_); rintro e w' ⟨rfl, ⟨nd, rfl⟩⟩))
  go_meet
  case rel => exact ⟨_, (decide (a2 > t583)), V2, H', ⟨by first | omega | exact Nat.le_refl _⟩, by repeat (first | exact Y4 _ | apply Y0)⟩
 case rest =>
  clear HC4
  obtain ⟨kq, x35_3, rfl, HA, HJ3, ⟨mc3, rfl⟩⟩ := hcut
  cases kq with
  | zero => exact absurd HA.out (by simp [cabinetryref01_Days.j0])
  | succ kj3 =>
   have H := HA.out
   clear HA
   simp only [cabinetryref01_Days.j0] at H
   by_cases c11 : x35_3 = true
   ·subst c11
    have H1 : (some (0, 1)) = some (r1, r2) := by rw [if_pos rfl] at H; exact H
    clear H
    have H := H1
    clear H1
    simp only [Option.some.injEq, Prod.mk.injEq] at H
    obtain ⟨rfl, rfl⟩ := H
    go_wp2
    go_ret2
    exact ⟨V2, by repeat (first | exact Y4 _ | apply Y0)⟩
   replace c11 := Bool.eq_false_iff.mpr c11
   subst c11
   have H1 : (cabinetryref01_Days.l0 kj3 a0 a1 a2 1) = some (r1, r2) := by rw [if_neg (show ¬ (false = true) by decide)] at H; exact H
   clear H
   have H := H1
   clear H1
   have H' := Z0 H
   clear H
   go_wp2
   go_loopg [8, 9] kj3 (fun kq v8 v9 w' => ∃ (x8_2 : Int) (x9_2 : Int), v8 = .int .i64 x8_2 ∧ v9 = .int .i64 x9_2 ∧ Aside0 (cabinetryref01_Days.l0 kq a0 a1 x8_2 x9_2 = some (r1, r2)) ∧ Aside0 (kq ≤ kj3) ∧ Drawn0 w w')
   case atStart => exact ⟨(a2), (1), V2, V2, H', ⟨Nat.le_refl _⟩, by repeat (first | exact Y4 _ | apply Y0)⟩
   case round =>
    clear H'
    obtain ⟨x8_2, x9_2, rfl, rfl, HA, HK2, ⟨m2, rfl⟩⟩ := hrel
    cases gk with
    | zero => exact absurd HA.out (by simp [cabinetryref01_Days.l0])
    | succ k2 =>
     have H := HA.out
     clear HA
     simp only [cabinetryref01_Days.l0] at H
     by_cases c12 : x9_2 < a1
     rotate_left
     ·rw [if_neg c12] at H
      have c12b0 : decide (x9_2 < a1) = false := decide_eq_false c12
      clear c12
      simp only [Option.some.injEq, Prod.mk.injEq] at H
      obtain ⟨rfl, rfl⟩ := H
      go_wp2
      go_ret2
      exact ⟨V2, by repeat (first | exact Y4 _ | apply Y0)⟩
     rw [if_pos c12] at H
     have c12b0 : decide (x9_2 < a1) = true := decide_eq_true c12
     clear c12
     replace H := Option.bind_eq_some_iff.mp H
     obtain ⟨t584, A130, H⟩ := H
     replace H : (cabinetryref01_Days.l0 k2 a0 a1 (wrap64 (x8_2 + t584)) (wrap64 (x9_2 + 1))) = some (r1, r2) := H
     have A13 := Z0 A130
     clear A130
     have H' := Z0 H
     clear H
     go_wp2_with (first | ((with_reducible refine Z5 (f := 170) rfl ?_); refine gl Tryz.func170 (cabinetryref01_length.calls k2 a0 x9_2 t584 _ A13.out) ?_; rintro e w' ⟨rfl, ⟨nd, rfl⟩⟩; refine ⟨_, rfl, ?_⟩))
     go_roundg k2
     case measure => have := HJ3.out; have := HK2.out; omega
     case rel => exact ⟨(wrap64 (x8_2 + t584)), (wrap64 (x9_2 + 1)), V2, V2, H', ⟨by have := HJ3.out; have := HK2.out; omega⟩, by repeat (first | exact Y4 _ | apply Y0)⟩
mutual
def cabinetryref01_Split.j0 : Nat → Int → Bool → Option (Int × Int × Int × Int)
 | 0, _, _ => none
 | k + 1, x0, x19 => if x19 = true then (some (0, 0, 0, 1)) else (if x0 = 0 then (some (0, 0, 0, 0)) else (cabinetryref01_Split.l0 k x0 1 9999))
def cabinetryref01_Split.l0 : Nat → Int → Int → Int → Option (Int × Int × Int × Int)
 | 0, _, _, _ => none
 | k + 1, x0, x6, x7 => if x6 < x7 then ((cabinetryref01_Days.f k (wrap64 (Int.tdiv (wrap64 ((wrap64 (x6 + x7)) + 1)) 2)) 1 1).bind fun bt585 => (if bt585.1 ≤ x0 then (cabinetryref01_Split.l0 k x0 (wrap64 (Int.tdiv (wrap64 ((wrap64 (x6 + x7)) + 1)) 2)) x7) else (cabinetryref01_Split.l0 k x0 x6 (wrap64 ((wrap64 (Int.tdiv (wrap64 ((wrap64 (x6 + x7)) + 1)) 2)) - 1))))) else ((cabinetryref01_Days.f k x6 12 1).bind fun bt587 => (cabinetryref01_Split.l1 k x0 x6 12 bt587.1))
def cabinetryref01_Split.l1 : Nat → Int → Int → Int → Int → Option (Int × Int × Int × Int)
 | 0, _, _, _, _ => none
 | k + 1, x0, x6, x11, x12 => if x12 > x0 then ((cabinetryref01_Days.f k x6 (wrap64 (x11 - 1)) 1).bind fun bt589 => (cabinetryref01_Split.l1 k x0 x6 (wrap64 (x11 - 1)) bt589.1)) else (some (x6, x11, wrap64 ((wrap64 (x0 - x12)) + 1), 0))
end
def cabinetryref01_Split.f (k : Nat) (a0 : Int) : Option (Int × Int × Int × Int) := if a0 < 0 then (cabinetryref01_Split.j0 k a0 true) else (cabinetryref01_Split.j0 k a0 (decide (a0 > 3652059)))
theorem cabinetryref01_Split.mono_l : ∀ k, (∀ y0 y1, LeO (cabinetryref01_Split.j0 k y0 y1) (cabinetryref01_Split.j0 (k + 1) y0 y1)) ∧ (∀ y0 y1 y2, LeO (cabinetryref01_Split.l0 k y0 y1 y2) (cabinetryref01_Split.l0 (k + 1) y0 y1 y2)) ∧ (∀ y0 y1 y2 y3, LeO (cabinetryref01_Split.l1 k y0 y1 y2 y3) (cabinetryref01_Split.l1 (k + 1) y0 y1 y2 y3))
 | 0 => ⟨fun _ _ r h => by simp [cabinetryref01_Split.j0] at h, fun _ _ _ r h => by simp [cabinetryref01_Split.l0] at h, fun _ _ _ _ r h => by simp [cabinetryref01_Split.l1] at h⟩
 | k + 1 => by
  obtain ⟨ih0, ih1, ih2⟩ := cabinetryref01_Split.mono_l k
  refine ⟨?_, ?_, ?_⟩
  ·intro y0 y1
   unfold cabinetryref01_Split.j0
   repeat' first
   | (with_reducible exact ih0 _ _)
   | (with_reducible exact ih1 _ _ _)
   | (with_reducible exact ih2 _ _ _ _)
   | (with_reducible exact cabinetryref01_Days.mono _ _ _ _)
   | (with_reducible exact LeO.refl _)
   | (with_reducible exact LeO.none _)
   | (with_reducible refine LeO.ite ?_ ?_)
   | (with_reducible refine LeO.bind ?_ (fun _ => ?_))
  ·intro y0 y1 y2
   unfold cabinetryref01_Split.l0
   repeat' first
   | (with_reducible exact ih0 _ _)
   | (with_reducible exact ih1 _ _ _)
   | (with_reducible exact ih2 _ _ _ _)
   | (with_reducible exact cabinetryref01_Days.mono _ _ _ _)
   | (with_reducible exact LeO.refl _)
   | (with_reducible exact LeO.none _)
   | (with_reducible refine LeO.ite ?_ ?_)
   | (with_reducible refine LeO.bind ?_ (fun _ => ?_))
  ·intro y0 y1 y2 y3
   unfold cabinetryref01_Split.l1
   repeat' first
   | (with_reducible exact ih0 _ _)
   | (with_reducible exact ih1 _ _ _)
   | (with_reducible exact ih2 _ _ _ _)
   | (with_reducible exact cabinetryref01_Days.mono _ _ _ _)
   | (with_reducible exact LeO.refl _)
   | (with_reducible exact LeO.none _)
   | (with_reducible refine LeO.ite ?_ ?_)
   | (with_reducible refine LeO.bind ?_ (fun _ => ?_))
theorem cabinetryref01_Split.mono : ∀ a0 k, LeO (cabinetryref01_Split.f k a0) (cabinetryref01_Split.f (k + 1) a0) := by
 intro a0 k
 obtain ⟨ih0, ih1, ih2⟩ := cabinetryref01_Split.mono_l k
 unfold cabinetryref01_Split.f
 repeat' first
   | (with_reducible exact ih0 _ _)
   | (with_reducible exact ih1 _ _ _)
   | (with_reducible exact ih2 _ _ _ _)
   | (with_reducible exact cabinetryref01_Days.mono _ _ _ _)
   | (with_reducible exact LeO.refl _)
   | (with_reducible exact LeO.none _)
   | (with_reducible refine LeO.ite ?_ ?_)
   | (with_reducible refine LeO.bind ?_ (fun _ => ?_))
theorem cabinetryref01_Split.calls (k : Nat) (a0 : Int) (r1 : Int) (r2 : Int) (r3 : Int) (r4 : Int) (w : World) (h : cabinetryref01_Split.f k a0 = some (r1, r2, r3, r4)) :
  Calls Tryz.prog 153 #[.int .i64 a0] w fun e w' => e = .returned (.tuple #[.int .i64 r1, .int .i64 r2, .int .i64 r3, .int .i64 r4]) ∧ Drawn0 w w' := by
 unfold cabinetryref01_Split.f at h
 have H := h
 clear h
 have HC2 := Z0 H
 clear H
 go_enter Tryz.func153, Tryz.ntmps153
 go_upto_region 1 with (fail)
 go_cut [19] (fun v19 wc => ∃ (kq : Nat) (x19_1 : Bool), v19 = .bool x19_1 ∧ Aside0 (cabinetryref01_Split.j0 kq a0 x19_1 = some (r1, r2, r3, r4)) ∧ Aside0 (kq ≤ k) ∧ Drawn0 w wc)
 case first =>
  have H := HC2.out
  clear HC2
  by_cases c3 : a0 < 0
  ·rw [if_pos c3] at H
   have c3b0 : decide (a0 < 0) = true := decide_eq_true c3
   clear c3
   (first | rw [c3b0] | (simp only [i64_w, i32_w]; rw [c3b0]) | skip)
   have H' := Z0 H
   clear H
   go_wp2
   go_meet
   case rel => exact ⟨_, (true), V2, H', ⟨by first | omega | exact Nat.le_refl _⟩, by repeat (first | exact Y4 _ | apply Y0)⟩
  rw [if_neg c3] at H
  have c3b0 : decide (a0 < 0) = false := decide_eq_false c3
  clear c3
  (first | rw [c3b0] | (simp only [i64_w, i32_w]; rw [c3b0]) | skip)
  have H' := Z0 H
  clear H
  go_wp2
  go_meet
  case rel => exact ⟨_, (decide (a0 > 3652059)), V2, H', ⟨by first | omega | exact Nat.le_refl _⟩, by repeat (first | exact Y4 _ | apply Y0)⟩
 case rest =>
  clear HC2
  obtain ⟨kq, x19_1, rfl, HA, HJ1, ⟨mc1, rfl⟩⟩ := hcut
  cases kq with
  | zero => exact absurd HA.out (by simp [cabinetryref01_Split.j0])
  | succ kj1 =>
   have H := HA.out
   clear HA
   simp only [cabinetryref01_Split.j0] at H
   by_cases c4 : x19_1 = true
   ·subst c4
    have H1 : (some (0, 0, 0, 1)) = some (r1, r2, r3, r4) := by rw [if_pos rfl] at H; exact H
    clear H
    have H := H1
    clear H1
    simp only [Option.some.injEq, Prod.mk.injEq] at H
    obtain ⟨rfl, rfl, rfl, rfl⟩ := H
    go_wp2
    refine bodyPost_ret (results_list (rs := [.tmp 2, .tmp 3, .tmp 4, .tmp 5]) rfl (by simp) (.tmp (.tmp (.tmp (.tmp .nil))))) rfl ?_
    exact ⟨V2, by repeat (first | exact Y4 _ | apply Y0)⟩
   replace c4 := Bool.eq_false_iff.mpr c4
   subst c4
   have H1 : (if a0 = 0 then (some (0, 0, 0, 0)) else (cabinetryref01_Split.l0 kj1 a0 1 9999)) = some (r1, r2, r3, r4) := by rw [if_neg (show ¬ (false = true) by decide)] at H; exact H
   clear H
   have H := H1
   clear H1
   by_cases c5 : a0 = 0
   ·rw [if_pos c5] at H
    have c5b0 : (a0 == 0) = true := beq_iff_eq.mpr c5
    have c5b1 : (a0 != 0) = false := bne_eq_false_iff_eq.mpr c5
    clear c5
    simp only [Option.some.injEq, Prod.mk.injEq] at H
    obtain ⟨rfl, rfl, rfl, rfl⟩ := H
    go_wp2
    refine bodyPost_ret (results_list (rs := [.tmp 2, .tmp 3, .tmp 4, .tmp 5]) rfl (by simp) (.tmp (.tmp (.tmp (.tmp .nil))))) rfl ?_
    exact ⟨V2, by repeat (first | exact Y4 _ | apply Y0)⟩
   rw [if_neg c5] at H
   have c5b0 : (a0 == 0) = false := beq_eq_false_iff_ne.mpr c5
   have c5b1 : (a0 != 0) = true := bne_iff_ne.mpr c5
   have H' := Z0 H
   clear H
   go_wp2
   go_loopg [6, 7] kj1 (fun kq v6 v7 w' => ∃ (x6_2 : Int) (x7_2 : Int), v6 = .int .i64 x6_2 ∧ v7 = .int .i64 x7_2 ∧ Aside0 (cabinetryref01_Split.l0 kq a0 x6_2 x7_2 = some (r1, r2, r3, r4)) ∧ Aside0 (kq ≤ kj1) ∧ Drawn0 w w')
   case atStart => exact ⟨(1), (9999), V2, V2, H', ⟨Nat.le_refl _⟩, by repeat (first | exact Y4 _ | apply Y0)⟩
   case round =>
    clear H'
    obtain ⟨x6_2, x7_2, rfl, rfl, HA, HK2, ⟨m2, rfl⟩⟩ := hrel
    cases gk with
    | zero => exact absurd HA.out (by simp [cabinetryref01_Split.l0])
    | succ k2 =>
     have H := HA.out
     clear HA
     simp only [cabinetryref01_Split.l0] at H
     by_cases c6 : x6_2 < x7_2
     ·rw [if_pos c6] at H
      have c6b0 : decide (x6_2 < x7_2) = true := decide_eq_true c6
      clear c6
      replace H := Option.bind_eq_some_iff.mp H
      obtain ⟨⟨t585, t586⟩, A70, H⟩ := H
      replace H : (if t585 ≤ a0 then (cabinetryref01_Split.l0 k2 a0 (wrap64 (Int.tdiv (wrap64 ((wrap64 (x6_2 + x7_2)) + 1)) 2)) x7_2) else (cabinetryref01_Split.l0 k2 a0 x6_2 (wrap64 ((wrap64 (Int.tdiv (wrap64 ((wrap64 (x6_2 + x7_2)) + 1)) 2)) - 1)))) = some (r1, r2, r3, r4) := H
      have A7 := Z0 A70
      clear A70
      by_cases c8 : t585 ≤ a0
      ·rw [if_pos c8] at H
       have c8b0 : decide (t585 ≤ a0) = true := decide_eq_true c8
       clear c8
       have H' := Z0 H
       clear H
       go_wp2_with (first | ((with_reducible refine Z5 (f := 155) rfl ?_); refine gl Tryz.func155 (cabinetryref01_Days.calls k2 (wrap64 (Int.tdiv (wrap64 ((wrap64 (x6_2 + x7_2)) + 1)) 2)) 1 1 t585 t586 _ A7.out) ?_; rintro e w' ⟨rfl, ⟨nd, rfl⟩⟩; refine ⟨_, rfl, ?_⟩))
       go_roundg k2
       case measure => have := HJ1.out; have := HK2.out; omega
       case rel => exact ⟨(wrap64 (Int.tdiv (wrap64 ((wrap64 (x6_2 + x7_2)) + 1)) 2)), (x7_2), V2, V2, H', ⟨by have := HJ1.out; have := HK2.out; omega⟩, by repeat (first | exact Y4 _ | apply Y0)⟩
      rw [if_neg c8] at H
      have c8b0 : decide (t585 ≤ a0) = false := decide_eq_false c8
      clear c8
      have H' := Z0 H
      clear H
      go_wp2_with (first | ((with_reducible refine Z5 (f := 155) rfl ?_); refine gl Tryz.func155 (cabinetryref01_Days.calls k2 (wrap64 (Int.tdiv (wrap64 ((wrap64 (x6_2 + x7_2)) + 1)) 2)) 1 1 t585 t586 _ A7.out) ?_; rintro e w' ⟨rfl, ⟨nd, rfl⟩⟩; refine ⟨_, rfl, ?_⟩))
      go_roundg k2
      case measure => have := HJ1.out; have := HK2.out; omega
      case rel => exact ⟨(x6_2), (wrap64 ((wrap64 (Int.tdiv (wrap64 ((wrap64 (x6_2 + x7_2)) + 1)) 2)) - 1)), V2, V2, H', ⟨by have := HJ1.out; have := HK2.out; omega⟩, by repeat (first | exact Y4 _ | apply Y0)⟩
     rw [if_neg c6] at H
     have c6b0 : decide (x6_2 < x7_2) = false := decide_eq_false c6
     clear c6
     replace H := Option.bind_eq_some_iff.mp H
     obtain ⟨⟨t587, t588⟩, A90, H⟩ := H
     replace H : (cabinetryref01_Split.l1 k2 a0 x6_2 12 t587) = some (r1, r2, r3, r4) := H
     have A9 := Z0 A90
     clear A90
     have H' := Z0 H
     clear H
     go_wp2_with (first | ((with_reducible refine Z5 (f := 155) rfl ?_); refine gl Tryz.func155 (cabinetryref01_Days.calls k2 x6_2 12 1 t587 t588 _ A9.out) ?_; rintro e w' ⟨rfl, ⟨nd, rfl⟩⟩; refine ⟨_, rfl, ?_⟩))
     go_loopg [11, 12] k2 (fun kq v11 v12 w' => ∃ (x11_3 : Int) (x12_3 : Int), v11 = .int .i64 x11_3 ∧ v12 = .int .i64 x12_3 ∧ Aside0 (cabinetryref01_Split.l1 kq a0 x6_2 x11_3 x12_3 = some (r1, r2, r3, r4)) ∧ Aside0 (kq ≤ k2) ∧ Drawn0 w w')
     case atStart => exact ⟨(12), (t587), V2, V2, H', ⟨Nat.le_refl _⟩, by repeat (first | exact Y4 _ | apply Y0)⟩
     case round =>
      clear H'
      obtain ⟨x11_3, x12_3, rfl, rfl, HA, HK3, ⟨m3, rfl⟩⟩ := hrel
      cases gk with
      | zero => exact absurd HA.out (by simp [cabinetryref01_Split.l1])
      | succ k3 =>
       have H := HA.out
       clear HA
       simp only [cabinetryref01_Split.l1] at H
       by_cases c10 : x12_3 > a0
       rotate_left
       ·rw [if_neg c10] at H
        have c10b0 : decide (a0 < x12_3) = false := decide_eq_false c10
        clear c10
        simp only [Option.some.injEq, Prod.mk.injEq] at H
        obtain ⟨rfl, rfl, rfl, rfl⟩ := H
        go_wp2
        refine bodyPost_ret (results_list (rs := [.tmp 2, .tmp 3, .tmp 4, .tmp 5]) rfl (by simp) (.tmp (.tmp (.tmp (.tmp .nil))))) rfl ?_
        exact ⟨V2, by repeat (first | exact Y4 _ | apply Y0)⟩
       rw [if_pos c10] at H
       have c10b0 : decide (a0 < x12_3) = true := decide_eq_true c10
       clear c10
       replace H := Option.bind_eq_some_iff.mp H
       obtain ⟨⟨t589, t590⟩, A110, H⟩ := H
       replace H : (cabinetryref01_Split.l1 k3 a0 x6_2 (wrap64 (x11_3 - 1)) t589) = some (r1, r2, r3, r4) := H
       have A11 := Z0 A110
       clear A110
       have H' := Z0 H
       clear H
       go_wp2_with (first | ((with_reducible refine Z5 (f := 155) rfl ?_); refine gl Tryz.func155 (cabinetryref01_Days.calls k3 x6_2 (wrap64 (x11_3 - 1)) 1 t589 t590 _ A11.out) ?_; rintro e w' ⟨rfl, ⟨nd, rfl⟩⟩; refine ⟨_, rfl, ?_⟩))
       go_roundg k3
       case measure => have := HJ1.out; have := HK2.out; have := HK3.out; omega
       case rel => exact ⟨(wrap64 (x11_3 - 1)), (t589), V2, V2, H', ⟨by have := HJ1.out; have := HK2.out; have := HK3.out; omega⟩, by repeat (first | exact Y4 _ | apply Y0)⟩
def cabinetryref01_Padded.l0 : Nat → Int → ByteArray → Option (ByteArray)
 | 0, _, _ => none
 | k + 1, x1, x5 => if (x5.size : Int) < x1 then (if 1 + x5.size ≤ 9223372036854775807 then (cabinetryref01_Padded.l0 k x1 ((⟨#[48]⟩ : ByteArray) ++ x5)) else (none)) else (some x5)
def cabinetryref01_Padded.f (k : Nat) (a0 : Int) (a1 : Int) : Option (ByteArray) := (cabinetryref01_Written.f k a0).bind fun t591 => (cabinetryref01_Padded.l0 k a1 t591)
theorem cabinetryref01_Padded.mono_l : ∀ k, (∀ y0 y1, LeO (cabinetryref01_Padded.l0 k y0 y1) (cabinetryref01_Padded.l0 (k + 1) y0 y1))
 | 0 => fun _ _ r h => by simp [cabinetryref01_Padded.l0] at h
 | k + 1 => by
  have ih0 := cabinetryref01_Padded.mono_l k
  ·intro y0 y1
   unfold cabinetryref01_Padded.l0
   repeat' first
   | (with_reducible exact ih0 _ _)
   | (with_reducible exact cabinetryref01_Written.mono _ _)
   | (with_reducible exact LeO.refl _)
   | (with_reducible exact LeO.none _)
   | (with_reducible refine LeO.ite ?_ ?_)
   | (with_reducible refine LeO.bind ?_ (fun _ => ?_))
theorem cabinetryref01_Padded.mono : ∀ a0 a1 k, LeO (cabinetryref01_Padded.f k a0 a1) (cabinetryref01_Padded.f (k + 1) a0 a1) := by
 intro a0 a1 k
 have ih0 := cabinetryref01_Padded.mono_l k
 unfold cabinetryref01_Padded.f
 repeat' first
   | (with_reducible exact ih0 _ _)
   | (with_reducible exact cabinetryref01_Written.mono _ _)
   | (with_reducible exact LeO.refl _)
   | (with_reducible exact LeO.none _)
   | (with_reducible refine LeO.ite ?_ ?_)
   | (with_reducible refine LeO.bind ?_ (fun _ => ?_))
theorem cabinetryref01_Padded.calls (k : Nat) (a0 : Int) (a1 : Int) (r : ByteArray) (w : World) (h : cabinetryref01_Padded.f k a0 a1 = some r) :
  Calls Tryz.prog 154 #[.int .i64 a0, .int .i64 a1] w fun e w' => e = .returned (.string r) ∧ Drawn0 w w' := by
 unfold cabinetryref01_Padded.f at h
 have H := h
 clear h
 replace H := Option.bind_eq_some_iff.mp H
 obtain ⟨t591, A30, H⟩ := H
 replace H : (cabinetryref01_Padded.l0 k a1 t591) = some r := H
 have A3 := Z0 A30
 clear A30
 have H' := Z0 H
 clear H
 go_enter Tryz.func154, Tryz.ntmps154
 go_wp2_with (first | ((with_reducible refine Z5 (f := 119) rfl ?_); refine gl Tryz.func119 (cabinetryref01_Written.calls k a0 t591 _ A3.out) ?_; rintro e w' ⟨rfl, ⟨nd, rfl⟩⟩; refine ⟨_, rfl, ?_⟩))
 go_loopg [5] k (fun kq v5 w' => ∃ (x5_1 : ByteArray), v5 = .string x5_1 ∧ Aside0 (cabinetryref01_Padded.l0 kq a1 x5_1 = some r) ∧ Aside0 (kq ≤ k) ∧ Drawn0 w w')
 case atStart => exact ⟨(t591), V2, H', ⟨Nat.le_refl _⟩, by repeat (first | exact Y4 _ | apply Y0)⟩
 case round =>
  clear H'
  obtain ⟨x5_1, rfl, HA, HK1, ⟨m1, rfl⟩⟩ := hrel
  cases gk with
  | zero => exact absurd HA.out (by simp [cabinetryref01_Padded.l0])
  | succ k1 =>
   have H := HA.out
   clear HA
   simp only [cabinetryref01_Padded.l0] at H
   by_cases c4 : (x5_1.size : Int) < a1
   rotate_left
   ·rw [if_neg c4] at H
    have c4b0 : decide ((x5_1.size : Int) < a1) = false := decide_eq_false c4
    clear c4
    obtain rfl := Option.some.inj H
    go_wp2
    go_ret
    exact ⟨V2, by repeat (first | exact Y4 _ | apply Y0)⟩
   rw [if_pos c4] at H
   have c4b0 : decide ((x5_1.size : Int) < a1) = true := decide_eq_true c4
   clear c4
   by_cases c5 : 1 + x5_1.size ≤ 9223372036854775807
   rotate_left
   ·rw [if_neg c5] at H
    exact absurd H (by simp)
   rw [if_pos c5] at H
   have c5b0 := eq_true c5
   have c5b1 : decide (1 + x5_1.size ≤ 9223372036854775807) = true := decide_eq_true c5
   try have c5b2 : (9223372036854775807 < 1 + x5_1.size) = False := eq_false (Nat.not_lt.2 c5)
   have H' := Z0 H
   clear H
   go_wp2
   go_roundg k1
   case measure => have := HK1.out; omega
   case rel => exact ⟨((⟨#[48]⟩ : ByteArray) ++ x5_1), V2, H', ⟨by have := HK1.out; omega⟩, by repeat (first | exact Y4 _ | apply Y0)⟩
def cabinetryref01_Stamp.f (k : Nat) (a0 : Int) : Option (ByteArray × Int) := (cabinetryref01_Split.f k a0).bind fun bt592 => (if bt592.2.2.2 = 0 then (if a0 = 0 then (some ((⟨#[32, 32, 32, 32, 32, 32, 32, 32]⟩ : ByteArray), 0)) else ((cabinetryref01_Padded.f k bt592.1 4).bind fun t596 => ((cabinetryref01_Padded.f k bt592.2.1 2).bind fun t597 => (if t596.size + t597.size ≤ 9223372036854775807 then ((cabinetryref01_Padded.f k bt592.2.2.1 2).bind fun t598 => (if (t596 ++ t597).size + t598.size ≤ 9223372036854775807 then (some ((t596 ++ t597) ++ t598, 0)) else (none))) else (none))))) else (some ((⟨#[]⟩ : ByteArray), bt592.2.2.2)))
theorem cabinetryref01_Stamp.mono : ∀ a0 k, LeO (cabinetryref01_Stamp.f k a0) (cabinetryref01_Stamp.f (k + 1) a0) := by
 intro a0 k
 unfold cabinetryref01_Stamp.f
 repeat' first
   | (with_reducible exact cabinetryref01_Padded.mono _ _ _)
   | (with_reducible exact cabinetryref01_Split.mono _ _)
   | (with_reducible exact LeO.refl _)
   | (with_reducible exact LeO.none _)
   | (with_reducible refine LeO.ite ?_ ?_)
   | (with_reducible refine LeO.bind ?_ (fun _ => ?_))
theorem cabinetryref01_Stamp.calls (k : Nat) (a0 : Int) (r1 : ByteArray) (r2 : Int) (w : World) (h : cabinetryref01_Stamp.f k a0 = some (r1, r2)) :
  Calls Tryz.prog 121 #[.int .i64 a0] w fun e w' => e = .returned (.tuple #[.string r1, .int .i64 r2]) ∧ Drawn0 w w' := by
 unfold cabinetryref01_Stamp.f at h
 have H := h
 clear h
 replace H := Option.bind_eq_some_iff.mp H
 obtain ⟨⟨t592, t593, t594, t595⟩, A20, H⟩ := H
 replace H : (if t595 = 0 then (if a0 = 0 then (some ((⟨#[32, 32, 32, 32, 32, 32, 32, 32]⟩ : ByteArray), 0)) else ((cabinetryref01_Padded.f k t592 4).bind fun t596 => ((cabinetryref01_Padded.f k t593 2).bind fun t597 => (if t596.size + t597.size ≤ 9223372036854775807 then ((cabinetryref01_Padded.f k t594 2).bind fun t598 => (if (t596 ++ t597).size + t598.size ≤ 9223372036854775807 then (some ((t596 ++ t597) ++ t598, 0)) else (none))) else (none))))) else (some ((⟨#[]⟩ : ByteArray), t595))) = some (r1, r2) := H
 have A2 := Z0 A20
 clear A20
 by_cases c3 : t595 = 0
 rotate_left
 ·rw [if_neg c3] at H
  have c3b0 : (t595 == 0) = false := beq_eq_false_iff_ne.mpr c3
  have c3b1 : (t595 != 0) = true := bne_iff_ne.mpr c3
  simp only [Option.some.injEq, Prod.mk.injEq] at H
  obtain ⟨rfl, rfl⟩ := H
  go_enter Tryz.func121, Tryz.ntmps121
  go_wp2_with (first | ((with_reducible refine Z5 (f := 153) rfl ?_); refine gl Tryz.func153 (cabinetryref01_Split.calls k a0 t592 t593 t594 t595 _ A2.out) ?_; rintro e w' ⟨rfl, ⟨nd, rfl⟩⟩; refine ⟨_, rfl, ?_⟩))
  go_ret2
  exact ⟨V2, by repeat (first | exact Y4 _ | apply Y0)⟩
 rw [if_pos c3] at H
 have c3b0 : (t595 == 0) = true := beq_iff_eq.mpr c3
 have c3b1 : (t595 != 0) = false := bne_eq_false_iff_eq.mpr c3
 clear c3
 by_cases c4 : a0 = 0
 ·rw [if_pos c4] at H
  have c4b0 : (a0 == 0) = true := beq_iff_eq.mpr c4
  have c4b1 : (a0 != 0) = false := bne_eq_false_iff_eq.mpr c4
  clear c4
  simp only [Option.some.injEq, Prod.mk.injEq] at H
  obtain ⟨rfl, rfl⟩ := H
  go_enter Tryz.func121, Tryz.ntmps121
  go_wp2_with (first | ((with_reducible refine Z5 (f := 153) rfl ?_); refine gl Tryz.func153 (cabinetryref01_Split.calls k a0 t592 t593 t594 t595 _ A2.out) ?_; rintro e w' ⟨rfl, ⟨nd, rfl⟩⟩; refine ⟨_, rfl, ?_⟩))
  go_ret2
  exact ⟨V2, by repeat (first | exact Y4 _ | apply Y0)⟩
 rw [if_neg c4] at H
 have c4b0 : (a0 == 0) = false := beq_eq_false_iff_ne.mpr c4
 have c4b1 : (a0 != 0) = true := bne_iff_ne.mpr c4
 replace H := Option.bind_eq_some_iff.mp H
 obtain ⟨t596, A50, H⟩ := H
 replace H : ((cabinetryref01_Padded.f k t593 2).bind fun t597 => (if t596.size + t597.size ≤ 9223372036854775807 then ((cabinetryref01_Padded.f k t594 2).bind fun t598 => (if (t596 ++ t597).size + t598.size ≤ 9223372036854775807 then (some ((t596 ++ t597) ++ t598, 0)) else (none))) else (none))) = some (r1, r2) := H
 have A5 := Z0 A50
 clear A50
 replace H := Option.bind_eq_some_iff.mp H
 obtain ⟨t597, A60, H⟩ := H
 replace H : (if t596.size + t597.size ≤ 9223372036854775807 then ((cabinetryref01_Padded.f k t594 2).bind fun t598 => (if (t596 ++ t597).size + t598.size ≤ 9223372036854775807 then (some ((t596 ++ t597) ++ t598, 0)) else (none))) else (none)) = some (r1, r2) := H
 have A6 := Z0 A60
 clear A60
 by_cases c7 : t596.size + t597.size ≤ 9223372036854775807
 rotate_left
 ·rw [if_neg c7] at H
  exact absurd H (by simp)
 rw [if_pos c7] at H
 have c7b0 := eq_true c7
 have c7b1 : decide (t596.size + t597.size ≤ 9223372036854775807) = true := decide_eq_true c7
 try have c7b2 : (9223372036854775807 < t596.size + t597.size) = False := eq_false (Nat.not_lt.2 c7)
 replace H := Option.bind_eq_some_iff.mp H
 obtain ⟨t598, A80, H⟩ := H
 replace H : (if (t596 ++ t597).size + t598.size ≤ 9223372036854775807 then (some ((t596 ++ t597) ++ t598, 0)) else (none)) = some (r1, r2) := H
 have A8 := Z0 A80
 clear A80
 by_cases c9 : (t596 ++ t597).size + t598.size ≤ 9223372036854775807
 rotate_left
 ·rw [if_neg c9] at H
  exact absurd H (by simp)
 rw [if_pos c9] at H
 have c9b0 := eq_true c9
 have c9b1 : decide ((t596 ++ t597).size + t598.size ≤ 9223372036854775807) = true := decide_eq_true c9
 try have c9b2 : (9223372036854775807 < (t596 ++ t597).size + t598.size) = False := eq_false (Nat.not_lt.2 c9)
 have c9b3 : t596.size + t597.size + t598.size ≤ 9223372036854775807 := by rw [← ByteArray.size_append]; exact c9
 have c9b4 := eq_true c9b3
 have c9b5 : (9223372036854775807 < t596.size + t597.size + t598.size) = False := eq_false (Nat.not_lt.2 c9b3)
 simp only [Option.some.injEq, Prod.mk.injEq] at H
 obtain ⟨rfl, rfl⟩ := H
 go_enter Tryz.func121, Tryz.ntmps121
 go_wp2_with (first | ((with_reducible refine Z5 (f := 153) rfl ?_); refine gl Tryz.func153 (cabinetryref01_Split.calls k a0 t592 t593 t594 t595 _ A2.out) ?_; rintro e w' ⟨rfl, ⟨nd, rfl⟩⟩; refine ⟨_, rfl, ?_⟩) | ((with_reducible refine Z5 (f := 154) rfl ?_); refine gl Tryz.func154 (cabinetryref01_Padded.calls k t592 4 t596 _ A5.out) ?_; rintro e w' ⟨rfl, ⟨nd, rfl⟩⟩; refine ⟨_, rfl, ?_⟩) | ((with_reducible refine Z5 (f := 154) rfl ?_); refine gl Tryz.func154 (cabinetryref01_Padded.calls k t593 2 t597 _ A6.out) ?_; rintro e w' ⟨rfl, ⟨nd, rfl⟩⟩; refine ⟨_, rfl, ?_⟩) | ((with_reducible refine Z5 (f := 154) rfl ?_); refine gl Tryz.func154 (cabinetryref01_Padded.calls k t594 2 t598 _ A8.out) ?_; rintro e w' ⟨rfl, ⟨nd, rfl⟩⟩; refine ⟨_, rfl, ?_⟩))
 go_ret2
 exact ⟨V2, by repeat (first | exact Y4 _ | apply Y0)⟩
end
end Go.Proofs.YtldpdidlfbphcaaGreatDoor.P
end
