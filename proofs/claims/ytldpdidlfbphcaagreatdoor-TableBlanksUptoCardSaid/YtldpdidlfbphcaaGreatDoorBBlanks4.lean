/- Part 4 of this proof: what the last part leans on. -/
import Derived.Test.YtldpdidlfbphcaaGreatDoorBBlanks3
import Derived.Laws.EntriesVeiled
import Derived.Lib.BufferWrite
set_option linter.unusedVariables false
set_option linter.unusedSimpArgs false
section
namespace Go.Proofs.YtldpdidlfbphcaaGreatDoor.P
open Go.RowKit Go.Proofs.YtldpdidlfbphcaaGreatDoorW.PrintWords Go.Proofs.YtldpdidlfbphcaaGreatDoorW.PrintLast Go.Proofs.YtldpdidlfbphcaaGreatDoorW.PrintMore
attribute [local go_sem] max2_int min2_int max_two min_two max_three min_three max_four min_four
def table_length.l0 : Nat → Int → List (S23) → Int → Int → Option (Int)
 | 0, _, _, _, _ => none
 | k + 1, x3, x9, x10, x11 => if x11 < x10 then (if 0 ≤ x11 then (if x11 < (x9.length : Int) then (table_length.l0 k (wrap64 (x3 + ((rd_T23 x9 x11).f2))) x9 x10 (wrap64 (x11 + 1))) else (none)) else (none)) else (some x3)
def table_length.f (k : Nat) (l0 : List (S23)) : Option (Int) := (table_nullBytes.f k l0).bind fun t359 => (table_length.l0 k (wrap64 (1 + t359)) l0 (l0.length : Int) 0)
theorem table_length.mono_l : ∀ k, (∀ y0 y1 y2 y3, LeO (table_length.l0 k y0 y1 y2 y3) (table_length.l0 (k + 1) y0 y1 y2 y3))
 | 0 => fun _ _ _ _ r h => by simp [table_length.l0] at h
 | k + 1 => by
  have ih0 := table_length.mono_l k
  ·intro y0 y1 y2 y3
   unfold table_length.l0
   repeat' first
   | (with_reducible exact ih0 _ _ _ _)
   | (with_reducible exact table_nullBytes.mono _ _)
   | (with_reducible exact LeO.refl _)
   | (with_reducible exact X2 _)
   | (with_reducible refine X4 ?_ ?_)
   | (with_reducible refine X3 ?_ (fun _ => ?_))
   | exact ih0 _ _ _ _
   | exact table_nullBytes.mono _ _
   | exact X2 _
   | refine X4 ?_ ?_
   | refine X3 ?_ (fun _ => ?_)
theorem table_length.mono : ∀ a0 k, LeO (table_length.f k a0) (table_length.f (k + 1) a0) := by
 intro a0 k
 have ih0 := table_length.mono_l k
 unfold table_length.f
 repeat' first
   | (with_reducible exact ih0 _ _ _ _)
   | (with_reducible exact table_nullBytes.mono _ _)
   | (with_reducible exact LeO.refl _)
   | (with_reducible exact X2 _)
   | (with_reducible refine X4 ?_ ?_)
   | (with_reducible refine X3 ?_ (fun _ => ?_))
   | exact ih0 _ _ _ _
   | exact table_nullBytes.mono _ _
   | exact X2 _
   | refine X4 ?_ ?_
   | refine X3 ?_ (fun _ => ?_)
set_option maxHeartbeats 8000000 in
set_option maxRecDepth 100000 in
theorem table_length.calls (k : Nat) (A0 : Option Addr) (c0 : Nat) (l0 : List (S23)) (r : Int) (w : World) (hr0 : Kd.C k23 w A0 l0.length l0) (hc0 : l0.length ≤ c0) (h : table_length.f k l0 = some r) :
  Calls Tryz.prog 69 #[.slice A0 l0.length c0] w fun e w' => e = .returned (.int .i64 r) ∧ Below w.heap.size w w' := by
 have hu23 := Tryz.underlying23
 have HR0 := Z0 hr0
 have HC0 := Z0 hc0
 clear hr0 hc0
 have HB := Z0 (Below.refl w.heap.size w)
 have H : ((table_nullBytes.f k l0).bind fun t359 => (table_length.l0 k (wrap64 (1 + t359)) l0 (l0.length : Int) 0)) = some r := h
 clear h
 replace H := Option.bind_eq_some_iff.mp H
 obtain ⟨t359, A20, H⟩ := H
 replace H : (table_length.l0 k (wrap64 (1 + t359)) l0 (l0.length : Int) 0) = some r := H
 have A2 := Z0 A20
 clear A20
 have H' := Z0 H
 clear H
 go_enter Tryz.func69, Tryz.ntmps69
 go_wp2_with (first | ((with_reducible refine X1 (f := 71) rfl ?_); refine goesL_ (some 7) rfl rfl Tryz.func71 (by kernel_rfl) rfl #[.slice A0 l0.length c0] rfl (by (try simp only [Y2, Y7, Y8]); first | done | rfl) ?_; (with_reducible refine (table_nullBytes.calls k _ _ l0 t359 _ ?side1 ?side2 A2.out).mono ?_); (case side1 => repeat (first | exact HR0.out | (with_reducible refine Kd.C_alloc ?_ _) | (with_reducible refine Kd.C_drewN ?_ _) | (with_reducible refine Kd.C_drew ?_))); (case side2 => exact HC0.out); rintro e w3 ⟨rfl, hb⟩; refine ⟨_, rfl, ?_⟩; have n0_ := Z0 (Y0 HB.out hb); clear HB; have HB := n0_; clear n0_; (try clear hb); (try clear hb2); (try clear hk); (try clear hi)))
 go_loopg [3, 11] k (fun kq v3 v11 w' => ∃ (x3_1 : Int) (x11_1 : Int), v3 = .int .i64 x3_1 ∧ v11 = .int .i64 x11_1 ∧ Aside0 (table_length.l0 kq x3_1 l0 (l0.length : Int) x11_1 = some r) ∧ Aside0 (kq ≤ k) ∧ Aside0 (Below w.heap.size w w'))
 case atStart => exact ⟨(wrap64 (1 + t359)), (0), (by first | rfl | (simp; done) | (simp [*]; done)), (by first | rfl | (simp; done) | (simp [*]; done)), H', ⟨Nat.le_refl _⟩, ⟨by repeat (first | (with_reducible first | exact HB.out | apply Z7 | apply Z4 | apply Z9) | exact HB.out)⟩⟩
 case round =>
  clear H'
  (try clear p2)
  obtain ⟨x3_1, x11_1, rfl, rfl, HA, HK1, HB⟩ := hrel
  cases gk with
  | zero => exact absurd HA.out (by simp [table_length.l0])
  | succ k1 =>
   have H := HA.out
   clear HA
   simp only [table_length.l0] at H
   by_cases c4 : x11_1 < (l0.length : Int)
   ·rw [if_pos c4] at H
    have c4b0 : decide (x11_1 < (l0.length : Int)) = true := decide_eq_true c4
    clear c4
    by_cases c5 : 0 ≤ x11_1
    ·rw [if_pos c5] at H
     have c5b0 : decide (0 ≤ x11_1) = true := decide_eq_true c5
     clear c5
     by_cases c6 : x11_1 < (l0.length : Int)
     ·rw [if_pos c6] at H
      have c6b0 : decide (x11_1 < (l0.length : Int)) = true := decide_eq_true c6
      clear c6
      have H' := Z0 H
      clear H
      have p360 : 0 ≤ (x11_1 : Int) := of_decide_eq_true (by first | (with_reducible assumption) | assumption)
      have q360 : x11_1 < (l0.length : Int) := of_decide_eq_true (by first | (with_reducible assumption) | assumption)
      obtain ⟨ad360, e360, hx360_0, hx360_1, hx360_2, hx360_3⟩ := at_T23 HR0.out x11_1 p360 q360
      cases e360
      replace hx360_0 := (HB.out.cell (World.block_lt_of_cell? w _ hx360_0)).trans hx360_0
      replace hx360_1 := (HB.out.cell (World.block_lt_of_cell? w _ hx360_1)).trans hx360_1
      replace hx360_2 := (HB.out.cell (World.block_lt_of_cell? w _ hx360_2)).trans hx360_2
      replace hx360_3 := (HB.out.cell (World.block_lt_of_cell? w _ hx360_3)).trans hx360_3
      replace p360 := eq_true p360
      replace q360 := eq_true q360
      go_wp2_with (first | ((with_reducible refine X0 (N := 5) rfl ?_); refine Y9 ?hg (N := 5) ?hd (cs := #[.string (⟨#[]⟩ : ByteArray), .int .i64 0, .int .i64 0, .bool false]) (t := 23) ?hr ?_; (case hd => rfl); (case hg => rfl); (case hr => go_simp; try rfl); intro gb361 hg w7 hbox hb; have n0_ := Z0 (Y0 HB.out hb); have n1_ := Z0 (hbox); have n3_ := Z0 ((by rw [hg]; exact (Y6 HB.out) : w.heap.size ≤ gb361)); clear HB; have HB := n0_; have BK361 := n1_; have GE361 := n3_; clear n0_ n1_ n3_; clear hb hbox hg; have hcz8_0 : w7.cell? ⟨gb361, 0, none⟩ = some (.string (⟨#[]⟩ : ByteArray)) := (Z2 BK361.out 0).trans rfl; have hcz8_1 : w7.cell? ⟨gb361, 1, none⟩ = some (.int .i64 0) := (Z2 BK361.out 1).trans rfl; have hcz8_2 : w7.cell? ⟨gb361, 2, none⟩ = some (.int .i64 0) := (Z2 BK361.out 2).trans rfl; have hcz8_3 : w7.cell? ⟨gb361, 3, none⟩ = some (.bool false) := (Z2 BK361.out 3).trans rfl; have hfz8_0 := Z1 BK361.out 0; have hfz8_1 := Z1 BK361.out 1; have hfz8_2 := Z1 BK361.out 2; have hfz8_3 := Z1 BK361.out 3))
      go_roundg k1
      case measure => have := HK1.out; omega
      case rel => exact ⟨(wrap64 (x3_1 + ((rd_T23 l0 x11_1).f2))), (wrap64 (x11_1 + 1)), (by first | rfl | (simp; done) | (simp [*]; done)), (by first | rfl | (simp; done) | (simp [*]; done)), H', ⟨by have := HK1.out; omega⟩, ⟨by repeat (first | (with_reducible first | exact HB.out | apply Z7 | apply Z4 | apply Z9 | refine Z8 ?_ GE361.out) | exact HB.out)⟩⟩
     ·rw [if_neg c6] at H
      exact absurd H (by simp)
    ·rw [if_neg c5] at H
     exact absurd H (by simp)
   ·rw [if_neg c4] at H
    have c4b0 : decide (x11_1 < (l0.length : Int)) = false := decide_eq_false c4
    clear c4
    obtain rfl := Option.some.inj H
    go_wp2
    go_ret
    exact ⟨rfl, by repeat (first | (with_reducible first | exact HB.out | apply Z7 | apply Z4 | apply Z9) | exact HB.out)⟩
def fS (x : S23) : Bool := fieldS x.f0 x.f1 x.f2
theorem all_take_succ {α : Type} (p : α → Bool) (d : α) : ∀ (l : List α) (n : Nat), n < l.length → (l.take (n + 1)).all p = ((l.take n).all p && p (l.getD n d))
 | [], n, h => absurd h (Nat.not_lt_zero _)
 | x :: r, 0, _ => by simp
 | x :: r, n + 1, h => by
  have ih := all_take_succ p d r n (Nat.lt_of_succ_lt_succ h)
  rw [List.take_succ_cons, List.take_succ_cons, List.all_cons, List.all_cons, ih, List.getD_cons_succ, Bool.and_assoc]
theorem all_bad {α : Type} (p : α → Bool) (d : α) (l : List α) (n : Nat) (h : n < l.length) (hp : p (l.getD n d) = false) : l.all p = false := by
 rw [List.all_eq_false]
 refine ⟨l.getD n d, ?_, by rw [hp]; decide⟩
 rw [List.getD_eq_getElem?_getD, List.getElem?_eq_getElem h, Option.getD_some]
 exact List.getElem_mem h
set_option maxHeartbeats 8000000 in
set_option maxRecDepth 100000 in
theorem vf1_calls (s : ByteArray) (kd wd : Int) (nl b : Bool) (w : World) (hb1 : fieldS s kd wd = b) :
  Calls Tryz.prog 76 #[.agg #[.string s, .int .i64 kd, .int .i64 wd, .bool nl]] w fun e w' => e = .returned (.bool (!b)) ∧ Below w.heap.size w w' := by
 have CF := Z0 (fun W => table_isField.calls s kd wd nl b W (by rw [isField_is, hb1]))
 have hu23 := Tryz.underlying23
 clear hb1
 have HB := Z0 (Below.refl w.heap.size w)
 cases b
 all_goals
  go_enter Tryz.func76, Tryz.ntmps76
  go_wp2_with (first | ((with_reducible refine X0 (N := 1) rfl ?_); refine Y9 ?hg (N := 1) ?hd (cs := #[.string s, .int .i64 kd, .int .i64 wd, .bool nl]) (t := 23) ?hr ?_; (case hd => rfl); (case hg => rfl); (case hr => go_simp; try rfl); intro g1 hg w1 hbox hb; have BK := Z0 hbox; have GE := Z0 ((by rw [hg]; exact (Y6 HB.out)) : w.heap.size ≤ g1); have n0_ := Z0 (Y0 HB.out hb); clear HB; have HB := n0_; clear n0_; (try clear hb); clear hbox hg; have k0 : w1.cell? ⟨g1, 0, none⟩ = some (.string s) := (Z2 BK.out 0).trans rfl; have k1 : w1.cell? ⟨g1, 1, none⟩ = some (.int .i64 kd) := (Z2 BK.out 1).trans rfl; have k2 : w1.cell? ⟨g1, 2, none⟩ = some (.int .i64 wd) := (Z2 BK.out 2).trans rfl; have k3 : w1.cell? ⟨g1, 3, none⟩ = some (.bool nl) := (Z2 BK.out 3).trans rfl; have kz0 := Z1 BK.out 0; have kz1 := Z1 BK.out 1; have kz2 := Z1 BK.out 2; have kz3 := Z1 BK.out 3) | (go_at_call 47; (with_reducible refine (CF.out _).mono ?_); rintro e w2 ⟨rfl, hb⟩; have n0_ := Z0 (Y0 HB.out hb); clear HB; have HB := n0_; clear n0_; (try clear hb)))
  go_ret
  exact ⟨rfl, HB.out⟩
set_option maxHeartbeats 8000000 in
set_option maxRecDepth 100000 in
theorem vf_idx (A0 : Option Addr) (c0 : Nat) (l0 : List (S23)) (w : World) (hr0 : Kd.C k23 w A0 l0.length l0) (hc0 : l0.length ≤ c0) (hL : l0.length ≤ 1000000000) :
  Calls Tryz.prog 66 #[.slice A0 l0.length c0, .func (.func 76) #[] #[]] w fun e w' => ∃ n : Int, e = .returned (.int .i64 n) ∧ decide (n ≥ 0) = !l0.all fS ∧ Below w.heap.size w w' := by
 have hu23 := Tryz.underlying23
 have HR0 := Z0 hr0
 have HC0 := Z0 hc0
 have HL := Z0 hL
 clear hr0 hc0 hL
 have HB := Z0 (Below.refl w.heap.size w)
 go_enter Tryz.func66, Tryz.ntmps66
 go_wp2
 go_loopg [8] (l0.length + 1) (fun kq v8 w' => ∃ n : Nat, v8 = .int .i64 (n : Int) ∧ Aside0 (n ≤ l0.length) ∧ Aside0 ((l0.take n).all fS = true) ∧ Aside0 (kq + n = l0.length + 1) ∧ Aside0 (Below w.heap.size w w'))
 case atStart => exact ⟨0, rfl, ⟨Nat.zero_le _⟩, ⟨by simp⟩, ⟨by omega⟩, HB⟩
 case round =>
  obtain ⟨n, rfl, HN, HA, HK, HB⟩ := hrel
  by_cases c3 : (n : Int) < (l0.length : Int)
  ·have c3b := decide_eq_true c3
   have p2 : (0 : Int) ≤ n := Int.natCast_nonneg _
   obtain ⟨ad, ea, hx0, hx1, hx2, hx3⟩ := at_T23 HR0.out (n : Int) p2 c3
   cases ea
   replace hx0 := (HB.out.cell (World.block_lt_of_cell? w _ hx0)).trans hx0
   replace hx1 := (HB.out.cell (World.block_lt_of_cell? w _ hx1)).trans hx1
   replace hx2 := (HB.out.cell (World.block_lt_of_cell? w _ hx2)).trans hx2
   replace hx3 := (HB.out.cell (World.block_lt_of_cell? w _ hx3)).trans hx3
   obtain ⟨x, hxx⟩ : ∃ x, rd_T23 l0 (n : Int) = x := ⟨_, rfl⟩
   rw [hxx] at hx0 hx1 hx2 hx3
   rw [Int.toNat_natCast] at hx0 hx1 hx2 hx3
   have hget : l0.getD n z23 = x := hxx
   have hall := all_take_succ fS z23 l0 n (Int.ofNat_lt.1 c3)
   rw [hget, HA.out, Bool.true_and] at hall
   have HX := Z0 hget
   have HAL := Z0 hall
   have hw : wrap64 ((n : Int) + 1) = ((n + 1 : Nat) : Int) := by
    have := HL.out
    have e : ((n : Int) + 1) = ((n + 1 : Nat) : Int) := by omega
    rw [e]; exact (show wrap64 ((n + 1 : Nat) : Int) = _ by unfold wrap64; omega)
   have HN1 := Z0 (Int.ofNat_lt.1 c3)
   clear hget hall hxx
   obtain ⟨b, hb1⟩ : ∃ b, fS x = b := ⟨_, rfl⟩
   have CV := Z0 (fun W => vf1_calls x.f0 x.f1 x.f2 x.f3 b W hb1)
   have HB1 := Z0 hb1
   clear hb1
   cases b
   ·go_wp2_with (first | (go_at_call 76; (with_reducible refine (CV.out _).mono ?_); rintro e w7 ⟨rfl, hb⟩; have n0_ := Z0 (Y0 HB.out hb); clear HB; have HB := n0_; clear n0_; (try clear hb)))
    go_ret
    refine ⟨_, rfl, ?_, HB.out⟩
    rw [all_bad fS z23 l0 n HN1.out (by rw [HX.out]; exact HB1.out)]
    exact decide_eq_true (Int.natCast_nonneg _)
   ·go_wp2_with (first | (go_at_call 76; (with_reducible refine (CV.out _).mono ?_); rintro e w7 ⟨rfl, hb⟩; have n0_ := Z0 (Y0 HB.out hb); clear HB; have HB := n0_; clear n0_; (try clear hb)))
    go_roundg (gk - 1)
    case measure => have := HK.out; have := HN1.out; omega
    case rel => exact ⟨n + 1, by rw [hw], ⟨HN1.out⟩, ⟨by rw [HAL.out]; exact HB1.out⟩, ⟨by have := HK.out; have := HN1.out; omega⟩, HB⟩
  ·have c3b := decide_eq_false c3
   have hn : n = l0.length := by have := HN.out; omega
   have hA := HA.out
   rw [hn, List.take_length] at hA
   have HA' := Z0 hA
   clear hA
   go_wp2
   go_ret
   exact ⟨_, rfl, by rw [HA'.out]; rfl, HB.out⟩
set_option maxHeartbeats 8000000 in
set_option maxRecDepth 100000 in
theorem vf_con (A0 : Option Addr) (c0 : Nat) (l0 : List (S23)) (b : Bool) (w : World) (hr0 : Kd.C k23 w A0 l0.length l0) (hc0 : l0.length ≤ c0) (hL : l0.length ≤ 1000000000) (hb1 : l0.all fS = b) :
  Calls Tryz.prog 75 #[.slice A0 l0.length c0, .func (.func 76) #[] #[]] w fun e w' => e = .returned (.bool (!b)) ∧ Below w.heap.size w w' := by
 have CI := Z0 (vf_idx A0 c0 l0 w hr0 hc0 hL)
 rw [hb1] at CI
 clear hr0 hc0 hL hb1
 have HB := Z0 (Below.refl w.heap.size w)
 go_enter Tryz.func75, Tryz.ntmps75
 go_wp2_with (first | (go_at_call 66; (with_reducible refine (CI.out).mono ?_); rintro e w1 ⟨n, rfl, hn, hb⟩; have HN := Z0 hn; clear hn; have n0_ := Z0 (Y0 HB.out hb); clear HB; have HB := n0_; clear n0_; (try clear hb)))
 go_ret
 exact ⟨by rw [HN.out]; rfl, HB.out⟩
end Go.Proofs.YtldpdidlfbphcaaGreatDoor.P
end
section
namespace Go.Proofs.YtldpdidlfbphcaaGreatDoor.P
open Go.RowKit Go.Proofs.YtldpdidlfbphcaaGreatDoorW.PrintWords Go.Proofs.YtldpdidlfbphcaaGreatDoorW.PrintLast Go.Proofs.YtldpdidlfbphcaaGreatDoorW.PrintMore
open Go.ChangeMaps Go.ChangeShapes Go.WideShapes Go.MapKept
attribute [local go_sem] max2_int min2_int max_two min_two max_three min_three max_four min_four
theorem drop_getD {α : Type} (d : α) : ∀ (l : List α) (n : Nat), n < l.length → l.drop n = l.getD n d :: l.drop (n + 1)
 | [], n, h => absurd h (Nat.not_lt_zero _)
 | x :: r, 0, _ => rfl
 | x :: r, n + 1, h => by
  rw [List.drop_succ_cons, List.drop_succ_cons, List.getD_cons_succ]
  exact drop_getD d r n (Nat.lt_of_succ_lt_succ h)
theorem take_getD {α : Type} (d : α) : ∀ (l : List α) (n : Nat), n < l.length → l.take (n + 1) = l.take n ++ [l.getD n d]
 | [], n, h => absurd h (Nat.not_lt_zero _)
 | x :: r, 0, _ => rfl
 | x :: r, n + 1, h => by
  rw [List.take_succ_cons, List.take_succ_cons, List.getD_cons_succ, take_getD d r n (Nat.lt_of_succ_lt_succ h)]
  rfl
def nullsN : List S23 → Nat
 | [] => 0
 | x :: r => (if x.f3 = true then 1 else 0) + nullsN r
def wideN : List S23 → Int
 | [] => 0
 | x :: r => x.f2 + wideN r
def lenS (l : List S23) : Int := 1 + ((nullsN l + 7) / 8 : Nat) + wideN l
theorem nullsN_le : ∀ l, nullsN l ≤ l.length
 | [] => Nat.le_refl _
 | x :: r => by
  have := nullsN_le r
  unfold nullsN
  rw [List.length_cons]
  split <;> omega
theorem fS_width {x : S23} (h : fS x = true) : 0 ≤ x.f2 ∧ x.f2 ≤ 254 := by
 unfold fS fieldS kindLo kindHi at h
 simp only [Bool.and_eq_true, decide_eq_true_eq] at h
 obtain ⟨_, _, h1, h2⟩ := h
 constructor
 ·refine Int.le_trans ?_ h1
  repeat' split
  all_goals decide
 ·refine Int.le_trans h2 ?_
  repeat' split
  all_goals decide
theorem nulls_go (l0 : List S23) (hL : l0.length ≤ 1000000000) : ∀ (m n k acc : Nat), n + m = l0.length → m < k → acc ≤ n → table_nullBytes.l0 k (acc : Int) l0 (l0.length : Int) (n : Int) = some (((acc + nullsN (l0.drop n) + 7) / 8 : Nat) : Int)
 | 0, n, 0, acc, h, hk, ha => absurd hk (by omega)
 | m + 1, n, 0, acc, h, hk, ha => absurd hk (by omega)
 | 0, n, k + 1, acc, h, hk, ha => by
  unfold table_nullBytes.l0
  rw [if_neg (by omega), List.drop_eq_nil_of_le (by omega)]
  have e : wrap64 ((acc : Int) + 7) = ((acc + 7 : Nat) : Int) := by unfold wrap64; omega
  have e2 : Int.tdiv ((acc + 7 : Nat) : Int) 8 = (((acc + 7) / 8 : Nat) : Int) := rfl
  rw [e, e2]
  refine congrArg some ?_
  unfold nullsN wrap64
  omega
 | m + 1, n, k + 1, acc, h, hk, ha => by
  unfold table_nullBytes.l0
  rw [if_pos (by omega), if_pos (by omega), if_pos (by omega), drop_getD z23 l0 n (by omega)]
  have e : rd_T23 l0 (n : Int) = l0.getD n z23 := rfl
  have e1 : wrap64 ((n : Int) + 1) = ((n + 1 : Nat) : Int) := by unfold wrap64; omega
  have e2 : wrap64 ((acc : Int) + 1) = ((acc + 1 : Nat) : Int) := by unfold wrap64; omega
  rw [e, e1, e2]
  show _ = some (((acc + ((if (l0.getD n z23).f3 = true then 1 else 0) + nullsN (l0.drop (n + 1))) + 7) / 8 : Nat) : Int)
  split
  ·rw [nulls_go l0 hL m (n + 1) k (acc + 1) (by omega) (by omega) (by omega), Nat.add_assoc acc 1]
  ·rw [nulls_go l0 hL m (n + 1) k acc (by omega) (by omega) (by omega), Nat.zero_add]
theorem nulls_is (l0 : List S23) (hL : l0.length ≤ 1000000000) (k : Nat) (hk : l0.length < k) : table_nullBytes.f k l0 = some (((nullsN l0 + 7) / 8 : Nat) : Int) := by
 have := nulls_go l0 hL l0.length 0 k 0 (by omega) hk (Nat.le_refl _)
 rw [List.drop_zero, Nat.zero_add] at this
 exact this
theorem wide_go (l0 : List S23) (hL : l0.length ≤ 1000000000) (hf : l0.all fS = true) : ∀ (m n k : Nat) (acc : Int), n + m = l0.length → m < k → 0 ≤ acc → acc ≤ 1000000000 + 254 * n → table_length.l0 k acc l0 (l0.length : Int) (n : Int) = some (acc + wideN (l0.drop n))
 | 0, n, 0, acc, h, hk, ha, hb => absurd hk (by omega)
 | m + 1, n, 0, acc, h, hk, ha, hb => absurd hk (by omega)
 | 0, n, k + 1, acc, h, hk, ha, hb => by
  unfold table_length.l0
  rw [if_neg (by omega), List.drop_eq_nil_of_le (by omega)]
  refine congrArg some ?_
  unfold wideN
  omega
 | m + 1, n, k + 1, acc, h, hk, ha, hb => by
  unfold table_length.l0
  rw [if_pos (by omega), if_pos (by omega), if_pos (by omega), drop_getD z23 l0 n (by omega)]
  have e : rd_T23 l0 (n : Int) = l0.getD n z23 := rfl
  have hx : fS (l0.getD n z23) = true := by
   rw [List.getD_eq_getElem?_getD, List.getElem?_eq_getElem (show n < l0.length by omega), Option.getD_some]
   exact List.all_eq_true.1 hf _ (List.getElem_mem _)
  have hw := fS_width hx
  rw [e]
  generalize l0.getD n z23 = x at hw ⊢
  have e1 : wrap64 ((n : Int) + 1) = ((n + 1 : Nat) : Int) := by unfold wrap64; omega
  have e2 : wrap64 (acc + x.f2) = acc + x.f2 := by unfold wrap64; omega
  rw [e1, e2, wide_go l0 hL hf m (n + 1) k (acc + x.f2) (by omega) (by omega) (by omega) (by omega)]
  refine congrArg some ?_
  show _ = acc + (x.f2 + wideN (l0.drop (n + 1)))
  omega
theorem length_is (l0 : List S23) (hL : l0.length ≤ 1000000000) (hf : l0.all fS = true) (k : Nat) (hk : l0.length < k) : table_length.f k l0 = some (lenS l0) := by
 unfold table_length.f lenS
 have hn := nullsN_le l0
 rw [nulls_is l0 hL k hk, Option.bind_some]
 have e : wrap64 (1 + (((nullsN l0 + 7) / 8 : Nat) : Int)) = 1 + (((nullsN l0 + 7) / 8 : Nat) : Int) := by unfold wrap64; omega
 rw [e]
 have := wide_go l0 hL hf l0.length 0 k (1 + (((nullsN l0 + 7) / 8 : Nat) : Int)) (by omega) hk (by omega) (by omega)
 rw [List.drop_zero] at this
 exact this
def hasName (l : List S23) (s : ByteArray) : Bool := l.any (fun x => s == x.f0)
def dupA : List S23 → List S23 → Bool
 | _, [] => false
 | acc, x :: r => hasName acc x.f0 || dupA (acc ++ [x]) r
def vfS (l : List S23) : Int := if l.length = 0 then 1 else if l.all fS = false then 1 else if dupA [] l = true then 5 else if l.length > 16 then 3 else if lenS l > 2000 then 3 else 0
def seenE : List S23 → Nat → List MapEntry
 | [], _ => []
 | x :: r, i => ⟨.string x.f0, .bool true, i⟩ :: seenE r (i + 1)
theorem seenE_snoc (x : S23) : ∀ (l : List S23) (i : Nat), seenE (l ++ [x]) i = seenE l i ++ [⟨.string x.f0, .bool true, i + l.length⟩]
 | [], i => rfl
 | y :: r, i => by
  show _ :: seenE (r ++ [x]) (i + 1) = _
  rw [seenE_snoc x r (i + 1), List.length_cons, Nat.add_assoc, Nat.add_comm 1]
  rfl
theorem find_seen (s : ByteArray) : ∀ (l : List S23) (i j : Nat), Instr.findNow .string (.string s) (seenE l i) j = if hasName l s = true then some (some (j + (l.findIdx (fun x => s == x.f0)), .bool true)) else some none
 | [], i, j => rfl
 | x :: r, i, j => by
  have ih := find_seen s r (i + 1) (j + 1)
  show (match Instr.sameNow .string (.string s) (.string x.f0) with | some true => some (some (j, Value.bool true)) | some false => Instr.findNow .string (.string s) (seenE r (i + 1)) (j + 1) | none => none) = _
  have e : Instr.sameNow .string (.string s) (.string x.f0) = some (s == x.f0) := rfl
  rw [e, ih]
  unfold hasName
  rw [List.any_cons, List.findIdx_cons]
  cases s == x.f0
  ·simp only [Bool.false_or, cond_false, Nat.add_assoc, Nat.add_comm 1]
  ·rfl
theorem run_seen (W : World) (r : Nat) (l : List S23) (c : Nat) (s : ByteArray) (b : Bool) (hb : W.heap[r]? = some (.map (seenE l 0).toArray c)) (hs : hasName l s = b) :
  (Instr.lookup 88 (.map (some r)) (.string s) false).run Tryz.prog W = .ok (.bool b) W := by
 have ht := Tryz.underlying88
 have hk := Tryz.underlying9
 have hkey : IsKey .string (.string s) := trivial
 have hf := find_seen s l 0 0
 have hz : ∀ W, (zeroValue 4).run Tryz.prog W = .ok (.bool false) W := (Go.zero_of_info (n := 1) (by kernel_rfl)).1
 cases b
 ·rw [if_neg (by rw [hs]; decide)] at hf
  have hf' : Instr.findNow .string (.string s) (seenE l 0).toArray.toList 0 = some none := hf
  simp [Instr.lookup, run_underlying ht, MapKept.run_getObj_map hb, run_checkKey hk hkey, run_findKey hk hf', Result.andThen, hz]
 ·rw [if_pos hs] at hf
  have hf' : Instr.findNow .string (.string s) (seenE l 0).toArray.toList 0 = some (some (_, .bool true)) := hf
  simp [Instr.lookup, run_underlying ht, MapKept.run_getObj_map hb, run_checkKey hk hkey, run_findKey hk hf', Result.andThen]
theorem seen_ins {w W : World} {r : Nat} {l : List S23} {c : Nat} (x : S23) (hb : W.heap[r]? = some (.map (seenE l 0).toArray c)) (hc : l.length = c) (hs : hasName l x.f0 = false) (hB : Below w.heap.size w W) (hr : w.heap.size ≤ r) :
  ∃ W', (Instr.mapUpdate 88 (.map (some r)) (.string x.f0) (.bool true)).run Tryz.prog W = .ok () W' ∧ W'.heap[r]? = some (.map (seenE (l ++ [x]) 0).toArray (c + 1)) ∧ Below w.heap.size w W' := by
 have ht := Tryz.underlying88
 have hk := Tryz.underlying9
 have hkey : IsKey .string (.string x.f0) := trivial
 have hf := find_seen x.f0 l 0 0
 rw [if_neg (by rw [hs]; decide)] at hf
 have hf' : Instr.findNow .string (.string x.f0) (seenE l 0).toArray.toList 0 = some none := hf
 have he : (seenE (l ++ [x]) 0).toArray = (seenE l 0).toArray.push ⟨.string x.f0, .bool true, c⟩ := by
  rw [seenE_snoc, Nat.zero_add, hc, List.push_toArray]
 refine ⟨setBlock W r (.map ((seenE l 0).toArray.push ⟨.string x.f0, .bool true, c⟩) (c + 1)), ?_, by rw [he]; exact heap_setBlock_same hb _, hB.trans ⟨rfl, rfl, rfl, ?_, fun i hi => heap_setBlock_other hb _ (by omega)⟩⟩
 ·simp [Instr.mapUpdate, run_underlying ht, MapKept.run_getObj_map hb, run_checkKey hk hkey, run_findKey hk hf', MapKept.run_setObj_map _ hb, Result.andThen, setBlock]
 ·simp [setBlock]
theorem obj_far {w : World} {g : Nat} {o : Obj} (h : w.heap[g]? = some o) {p : Addr} (hp : g ≠ p.block) (u : Value) : (w.setCell p u).heap[g]? = some o := (Below.heap_setCell w p u g hp).trans h
set_option maxHeartbeats 8000000 in
set_option maxRecDepth 100000 in
theorem vf_walk (A0 : Option Addr) (c0 : Nat) (l0 : List (S23)) (w : World) (hr0 : Kd.C k23 w A0 l0.length l0) (hc0 : l0.length ≤ c0) (hL : l0.length ≤ 1000000000) :
  Calls Tryz.prog 36 #[.slice A0 l0.length c0] w fun e w' => e = .returned (.int .i64 (vfS l0)) ∧ Below w.heap.size w w' := by
 have hu23 := Tryz.underlying23
 have hmm := @run_makeMap Tryz.prog 88
 obtain ⟨b, hb1⟩ : ∃ b, l0.all fS = b := ⟨_, rfl⟩
 have CC := Z0 (vf_con A0 c0 l0 b w hr0 hc0 hL hb1)
 have HR0 := Z0 hr0
 have HC0 := Z0 hc0
 have HL := Z0 hL
 have HF := Z0 hb1
 clear hr0 hc0 hL hb1
 have HB := Z0 (Below.refl w.heap.size w)
 by_cases h0 : l0.length = 0
 ·have c0b : ((l0.length : Int) == 0) = true := by rw [h0]; rfl
  have HV : Aside0 (vfS l0 = 1) := ⟨by unfold vfS; rw [if_pos h0]⟩
  clear h0
  go_enter Tryz.func36, Tryz.ntmps36
  go_wp2
  go_ret
  exact ⟨by rw [HV.out]; rfl, HB.out⟩
 have c0b : ((l0.length : Int) == 0) = false := beq_eq_false_iff_ne.2 (by omega)
 have H0 := Z0 h0
 clear h0
 cases b
 ·have HV : Aside0 (vfS l0 = 1) := ⟨by unfold vfS; rw [if_neg H0.out, if_pos HF.out]⟩
  go_enter Tryz.func36, Tryz.ntmps36
  go_wp2_with (first | (go_at_call 75; (with_reducible refine (CC.out).mono ?_); rintro e w1 ⟨rfl, hb⟩; have n0_ := Z0 (Y0 HB.out hb); clear HB; have HB := n0_; clear n0_; (try clear hb)))
  go_ret
  exact ⟨by rw [HV.out]; rfl, HB.out⟩
 go_enter Tryz.func36, Tryz.ntmps36
 go_wp2_with (first | (go_at_call 75; (with_reducible refine (CC.out).mono ?_); rintro e w1 ⟨rfl, hb⟩; have n0_ := Z0 (Y0 HB.out hb); clear HB; have HB := n0_; clear n0_; (try clear hb)))
 have GM : Aside0 (w.heap.size ≤ w1.heap.size) := ⟨HB.out.size⟩
 go_loopg [16] (l0.length + 1) (fun kq v16 w' => ∃ n : Nat, v16 = .int .i64 (n : Int) ∧ Aside0 (n ≤ l0.length) ∧ Aside0 (dupA [] l0 = dupA (l0.take n) (l0.drop n)) ∧ Aside0 (kq + n = l0.length + 1) ∧ Aside0 (w'.heap[w1.heap.size]? = some (.map (seenE (l0.take n) 0).toArray n)) ∧ Aside0 (Below w.heap.size w w'))
 case atStart => exact ⟨0, rfl, ⟨Nat.zero_le _⟩, ⟨rfl⟩, ⟨by omega⟩, ⟨blk_new w1 _⟩, ⟨Z7 HB.out _⟩⟩
 case round =>
  clear HB
  obtain ⟨n, rfl, HN, HA, HK, HM, HB⟩ := hrel
  by_cases c3 : (n : Int) < (l0.length : Int)
  ·have c3b := decide_eq_true c3
   have p2 : (0 : Int) ≤ n := Int.natCast_nonneg _
   obtain ⟨ad, ea, hx0, hx1, hx2, hx3⟩ := at_T23 HR0.out (n : Int) p2 c3
   cases ea
   replace hx0 := (HB.out.cell (World.block_lt_of_cell? w _ hx0)).trans hx0
   replace hx1 := (HB.out.cell (World.block_lt_of_cell? w _ hx1)).trans hx1
   replace hx2 := (HB.out.cell (World.block_lt_of_cell? w _ hx2)).trans hx2
   replace hx3 := (HB.out.cell (World.block_lt_of_cell? w _ hx3)).trans hx3
   obtain ⟨x, hxx⟩ : ∃ x, rd_T23 l0 (n : Int) = x := ⟨_, rfl⟩
   rw [hxx] at hx0 hx1 hx2 hx3
   rw [Int.toNat_natCast] at hx0 hx1 hx2 hx3
   have hget : l0.getD n z23 = x := hxx
   have hdrop := drop_getD z23 l0 n (Int.ofNat_lt.1 c3)
   have htake := take_getD z23 l0 n (Int.ofNat_lt.1 c3)
   rw [hget] at hdrop htake
   have hdup := HA.out
   rw [hdrop] at hdup
   have hw : wrap64 ((n : Int) + 1) = ((n + 1 : Nat) : Int) := by
    have := HL.out
    have e : ((n : Int) + 1) = ((n + 1 : Nat) : Int) := by omega
    rw [e]; exact (show wrap64 ((n + 1 : Nat) : Int) = _ by unfold wrap64; omega)
   have HN1 := Z0 (Int.ofNat_lt.1 c3)
   have HLN : Aside0 ((l0.take n).length = n) := ⟨by rw [List.length_take]; exact Nat.min_eq_left HN.out⟩
   obtain ⟨d, hd⟩ : ∃ d, hasName (l0.take n) x.f0 = d := ⟨_, rfl⟩
   have HD := Z0 hd
   have HT := Z0 htake
   have HA2 : Aside0 (dupA [] l0 = (d || dupA (l0.take (n + 1)) (l0.drop (n + 1)))) := ⟨by rw [hdup, htake, ← hd]; rfl⟩
   clear hget hxx hd htake hdup hdrop HA
   cases d
   ·go_wp2_with (first | ((with_reducible refine X0 (N := 5) rfl ?_); refine Y9 ?hg (N := 5) ?hd (cs := #[.string (⟨#[]⟩ : ByteArray), .int .i64 0, .int .i64 0, .bool false]) (t := 23) ?hr ?_; (case hd => rfl); (case hg => rfl); (case hr => go_simp; try rfl); intro g5 hg w7 hbox hb; have NE := Z0 ((by rw [hg]; exact Nat.ne_of_lt (blk_lt HM.out)) : w1.heap.size ≠ g5); have HM7 := Z0 (Y1 HM.out hb); clear HM; have BK := Z0 hbox; have GE := Z0 ((by rw [hg]; exact (Y6 HB.out)) : w.heap.size ≤ g5); have n0_ := Z0 (Y0 HB.out hb); clear HB; have HB := n0_; clear n0_; (try clear hb); clear hbox hg; have k0 : w7.cell? ⟨g5, 0, none⟩ = some (.string (⟨#[]⟩ : ByteArray)) := (Z2 BK.out 0).trans rfl; have k1 : w7.cell? ⟨g5, 1, none⟩ = some (.int .i64 0) := (Z2 BK.out 1).trans rfl; have k2 : w7.cell? ⟨g5, 2, none⟩ = some (.int .i64 0) := (Z2 BK.out 2).trans rfl; have k3 : w7.cell? ⟨g5, 3, none⟩ = some (.bool false) := (Z2 BK.out 3).trans rfl; have kz0 := Z1 BK.out 0; have kz1 := Z1 BK.out 1; have kz2 := Z1 BK.out 2; have kz3 := Z1 BK.out 3; have m4 := obj_far (obj_far (obj_far (obj_far HM7.out NE.out (p := ⟨g5, 0, none⟩) (.string x.f0)) NE.out (p := ⟨g5, 1, none⟩) (.int .i64 x.f1)) NE.out (p := ⟨g5, 2, none⟩) (.int .i64 x.f2)) NE.out (p := ⟨g5, 3, none⟩) (.bool x.f3); have hlk := run_seen _ w1.heap.size (l0.take n) n x.f0 false m4 HD.out; obtain ⟨W5, hup, hm5, hb5⟩ := seen_ins x m4 HLN.out HD.out (Z8 (Z8 (Z8 (Z8 HB.out GE.out) GE.out) GE.out) GE.out) GM.out; have HM5 := Z0 hm5; have HB5 := Z0 hb5; clear hm5 hb5; clear m4))
    go_roundg (gk - 1)
    case measure => have := HK.out; have := HN1.out; omega
    case rel => exact ⟨n + 1, by rw [hw], ⟨HN1.out⟩, ⟨by rw [HA2.out]; rfl⟩, ⟨by have := HK.out; have := HN1.out; omega⟩, ⟨by rw [HT.out]; exact HM5.out⟩, HB5⟩
   ·have HV : Aside0 (vfS l0 = 5) := ⟨by unfold vfS; rw [if_neg H0.out, if_neg (by rw [HF.out]; decide), if_pos (by rw [HA2.out]; rfl)]⟩
    go_wp2_with (first | ((with_reducible refine X0 (N := 5) rfl ?_); refine Y9 ?hg (N := 5) ?hd (cs := #[.string (⟨#[]⟩ : ByteArray), .int .i64 0, .int .i64 0, .bool false]) (t := 23) ?hr ?_; (case hd => rfl); (case hg => rfl); (case hr => go_simp; try rfl); intro g5 hg w7 hbox hb; have NE := Z0 ((by rw [hg]; exact Nat.ne_of_lt (blk_lt HM.out)) : w1.heap.size ≠ g5); have HM7 := Z0 (Y1 HM.out hb); clear HM; have BK := Z0 hbox; have GE := Z0 ((by rw [hg]; exact (Y6 HB.out)) : w.heap.size ≤ g5); have n0_ := Z0 (Y0 HB.out hb); clear HB; have HB := n0_; clear n0_; (try clear hb); clear hbox hg; have k0 : w7.cell? ⟨g5, 0, none⟩ = some (.string (⟨#[]⟩ : ByteArray)) := (Z2 BK.out 0).trans rfl; have k1 : w7.cell? ⟨g5, 1, none⟩ = some (.int .i64 0) := (Z2 BK.out 1).trans rfl; have k2 : w7.cell? ⟨g5, 2, none⟩ = some (.int .i64 0) := (Z2 BK.out 2).trans rfl; have k3 : w7.cell? ⟨g5, 3, none⟩ = some (.bool false) := (Z2 BK.out 3).trans rfl; have kz0 := Z1 BK.out 0; have kz1 := Z1 BK.out 1; have kz2 := Z1 BK.out 2; have kz3 := Z1 BK.out 3; have m4 := obj_far (obj_far (obj_far (obj_far HM7.out NE.out (p := ⟨g5, 0, none⟩) (.string x.f0)) NE.out (p := ⟨g5, 1, none⟩) (.int .i64 x.f1)) NE.out (p := ⟨g5, 2, none⟩) (.int .i64 x.f2)) NE.out (p := ⟨g5, 3, none⟩) (.bool x.f3); have hlk := run_seen _ w1.heap.size (l0.take n) n x.f0 true m4 HD.out; clear m4))
    go_ret
    exact ⟨by rw [HV.out]; rfl, Z8 (Z8 (Z8 (Z8 HB.out GE.out) GE.out) GE.out) GE.out⟩
  ·have c3b := decide_eq_false c3
   have hn : n = l0.length := by have := HN.out; omega
   have hA := HA.out
   rw [hn, List.take_length, List.drop_length] at hA
   have HA' : Aside0 (dupA [] l0 = false) := ⟨hA⟩
   clear hA hn
   by_cases h16 : l0.length > 16
   ·have c16 : decide (16 < (l0.length : Int)) = true := decide_eq_true (by omega)
    have HV : Aside0 (vfS l0 = 3) := ⟨by unfold vfS; rw [if_neg H0.out, if_neg (by rw [HF.out]; decide), if_neg (by rw [HA'.out]; decide), if_pos h16]⟩
    clear h16
    go_wp2
    go_ret
    exact ⟨by rw [HV.out]; rfl, HB.out⟩
   ·have c16 : decide (16 < (l0.length : Int)) = false := decide_eq_false (by omega)
    obtain ⟨m, hm⟩ : ∃ m, lenS l0 = m := ⟨_, rfl⟩
    have CL := Z0 (fun W a b => table_length.calls (l0.length + 1) A0 c0 l0 m W a b (by rw [length_is l0 HL.out HF.out _ (Nat.lt_succ_self _), hm]))
    have H16 := Z0 h16
    clear h16
    by_cases h2 : m > 2000
    ·have c2 : decide (2000 < m) = true := decide_eq_true h2
     have HV : Aside0 (vfS l0 = 3) := ⟨by unfold vfS; rw [if_neg H0.out, if_neg (by rw [HF.out]; decide), if_neg (by rw [HA'.out]; decide), if_neg H16.out, hm, if_pos h2]⟩
     clear h2 hm
     go_wp2_with (first | (go_at_call 69; (with_reducible refine (CL.out _ (Kd.C_below HR0.out HB.out) HC0.out).mono ?_); rintro e w8 ⟨rfl, hb⟩; have n0_ := Z0 (Y0 HB.out hb); clear HB; have HB := n0_; clear n0_; (try clear hb)))
     go_ret
     exact ⟨by rw [HV.out]; rfl, HB.out⟩
    ·have c2 : decide (2000 < m) = false := decide_eq_false h2
     have HV : Aside0 (vfS l0 = 0) := ⟨by unfold vfS; rw [if_neg H0.out, if_neg (by rw [HF.out]; decide), if_neg (by rw [HA'.out]; decide), if_neg H16.out, hm, if_neg h2]⟩
     clear h2 hm
     go_wp2_with (first | (go_at_call 69; (with_reducible refine (CL.out _ (Kd.C_below HR0.out HB.out) HC0.out).mono ?_); rintro e w8 ⟨rfl, hb⟩; have n0_ := Z0 (Y0 HB.out hb); clear HB; have HB := n0_; clear n0_; (try clear hb)))
     go_ret
     exact ⟨by rw [HV.out]; rfl, HB.out⟩
def table_ValidateFields.f (l0 : List (S23)) : Option (Int) := if l0.length ≤ 1000000000 then some (vfS l0) else none
theorem table_ValidateFields.calls (A0 : Option Addr) (c0 : Nat) (l0 : List (S23)) (r : Int) (w : World) (hr0 : Kd.C k23 w A0 l0.length l0) (hc0 : l0.length ≤ c0) (h : table_ValidateFields.f l0 = some r) :
  Calls Tryz.prog 36 #[.slice A0 l0.length c0] w fun e w' => e = .returned (.int .i64 r) ∧ Below w.heap.size w w' := by
 unfold table_ValidateFields.f at h
 split at h
 ·rename_i hL
  cases h
  exact vf_walk A0 c0 l0 w hr0 hc0 hL
 ·cases h
end Go.Proofs.YtldpdidlfbphcaaGreatDoor.P
end
section
namespace Go.Proofs.YtldpdidlfbphcaaGreatDoor.P
open Go.RowKit Go.Proofs.YtldpdidlfbphcaaGreatDoorW.PrintWords Go.Proofs.YtldpdidlfbphcaaGreatDoorW.PrintLast Go.Proofs.YtldpdidlfbphcaaGreatDoorW.PrintMore
attribute [local go_sem] max2_int min2_int max_two min_two max_three min_three max_four min_four
def cabinetryref03_nulls.l0 : Nat → List (S23) → Int → Int → Option (Int)
 | 0, _, _, _ => none
 | k + 1, x0, x3, x4 => if x4 < (x0.length : Int) then (if 0 ≤ x4 then (if (rd_T23 x0 x4).f3 = true then (cabinetryref03_nulls.l0 k x0 (wrap64 (x3 + 1)) (wrap64 (x4 + 1))) else (cabinetryref03_nulls.l0 k x0 x3 (wrap64 (x4 + 1)))) else (none)) else (some (wrap64 (Int.tdiv (wrap64 (x3 + 7)) 8)))
def cabinetryref03_nulls.f (k : Nat) (l0 : List (S23)) : Option (Int) := cabinetryref03_nulls.l0 k l0 0 0
theorem cabinetryref03_nulls.mono_l : ∀ k, (∀ y0 y1 y2, LeO (cabinetryref03_nulls.l0 k y0 y1 y2) (cabinetryref03_nulls.l0 (k + 1) y0 y1 y2))
 | 0 => fun _ _ _ r h => by simp [cabinetryref03_nulls.l0] at h
 | k + 1 => by
  have ih0 := cabinetryref03_nulls.mono_l k
  ·intro y0 y1 y2
   unfold cabinetryref03_nulls.l0
   repeat' first
   | (with_reducible exact ih0 _ _ _)
   | (with_reducible exact LeO.refl _)
   | (with_reducible exact X2 _)
   | (with_reducible refine X4 ?_ ?_)
   | (with_reducible refine X3 ?_ (fun _ => ?_))
   | exact ih0 _ _ _
   | exact X2 _
   | refine X4 ?_ ?_
   | refine X3 ?_ (fun _ => ?_)
theorem cabinetryref03_nulls.mono : ∀ a0 k, LeO (cabinetryref03_nulls.f k a0) (cabinetryref03_nulls.f (k + 1) a0) := by
 intro a0 k
 have ih0 := cabinetryref03_nulls.mono_l k
 unfold cabinetryref03_nulls.f
 repeat' first
   | (with_reducible exact ih0 _ _ _)
   | (with_reducible exact LeO.refl _)
   | (with_reducible exact X2 _)
   | (with_reducible refine X4 ?_ ?_)
   | (with_reducible refine X3 ?_ (fun _ => ?_))
   | exact ih0 _ _ _
   | exact X2 _
   | refine X4 ?_ ?_
   | refine X3 ?_ (fun _ => ?_)
set_option maxHeartbeats 8000000 in
set_option maxRecDepth 100000 in
theorem cabinetryref03_nulls.calls (k : Nat) (A0 : Option Addr) (c0 : Nat) (l0 : List (S23)) (r : Int) (w : World) (hr0 : Kd.C k23 w A0 l0.length l0) (hc0 : l0.length ≤ c0) (h : cabinetryref03_nulls.f k l0 = some r) :
  Calls Tryz.prog 72 #[.slice A0 l0.length c0] w fun e w' => e = .returned (.int .i64 r) ∧ Drawn0 w w' := by
 have HR0 := Z0 hr0
 have HC0 := Z0 hc0
 clear hr0 hc0
 have H : (cabinetryref03_nulls.l0 k l0 0 0) = some r := h
 clear h
 have H' := Z0 H
 clear H
 go_enter Tryz.func72, Tryz.ntmps72
 go_wp2
 go_loopg [3, 4] k (fun kq v3 v4 w' => ∃ (x3_1 : Int) (x4_1 : Int), v3 = .int .i64 x3_1 ∧ v4 = .int .i64 x4_1 ∧ Aside0 (cabinetryref03_nulls.l0 kq l0 x3_1 x4_1 = some r) ∧ Aside0 (kq ≤ k) ∧ Drawn0 w w')
 case atStart => exact ⟨(0), (0), (by first | rfl | (simp; done) | (simp [*]; done)), (by first | rfl | (simp; done) | (simp [*]; done)), H', ⟨Nat.le_refl _⟩, by repeat (first | exact X6 _ | apply X5)⟩
 case round =>
  clear H'
  obtain ⟨x3_1, x4_1, rfl, rfl, HA, HK1, ⟨m1, rfl⟩⟩ := hrel
  cases gk with
  | zero => exact absurd HA.out (by simp [cabinetryref03_nulls.l0])
  | succ k1 =>
   have H := HA.out
   clear HA
   simp only [cabinetryref03_nulls.l0] at H
   by_cases c2 : x4_1 < (l0.length : Int)
   ·rw [if_pos c2] at H
    have c2b0 : decide (x4_1 < (l0.length : Int)) = true := decide_eq_true c2
    clear c2
    by_cases c3 : 0 ≤ x4_1
    ·rw [if_pos c3] at H
     have c3b0 : decide (0 ≤ x4_1) = true := decide_eq_true c3
     clear c3
     obtain ⟨bq4, hbq4⟩ : ∃ b_ : Bool, b_ = ((rd_T23 l0 x4_1).f3) := ⟨_, rfl⟩
     replace H : (if bq4 = true then (cabinetryref03_nulls.l0 k1 l0 (wrap64 (x3_1 + 1)) (wrap64 (x4_1 + 1))) else (cabinetryref03_nulls.l0 k1 l0 x3_1 (wrap64 (x4_1 + 1)))) = some r := by rw [← hbq4] at H; exact H
     have Nbq4 := Z0 hbq4
     clear hbq4
     by_cases c5 : bq4 = true
     ·subst c5
      have H1 : (cabinetryref03_nulls.l0 k1 l0 (wrap64 (x3_1 + 1)) (wrap64 (x4_1 + 1))) = some r := by rw [if_pos rfl] at H; exact H
      clear H
      have H := H1
      clear H1
      have H' := Z0 H
      clear H
      have p211 : 0 ≤ (x4_1 : Int) := of_decide_eq_true (by first | (with_reducible assumption) | assumption)
      have q211 : x4_1 < (l0.length : Int) := of_decide_eq_true (by first | (with_reducible assumption) | assumption)
      obtain ⟨ad211, e211, hx211_0, hx211_1, hx211_2, hx211_3⟩ := at_T23 HR0.out x4_1 p211 q211
      (try rw [← Nbq4.out] at hx211_3)
      cases e211
      replace p211 := eq_true p211
      replace q211 := eq_true q211
      go_wp2
      go_roundg k1
      case measure => have := HK1.out; omega
      case rel => exact ⟨(wrap64 (x3_1 + 1)), (wrap64 (x4_1 + 1)), (by first | rfl | (simp; done) | (simp [*]; done)), (by first | rfl | (simp; done) | (simp [*]; done)), H', ⟨by have := HK1.out; omega⟩, by repeat (first | exact X6 _ | apply X5)⟩
     ·replace c5 := Bool.eq_false_iff.mpr c5
      subst c5
      have H1 : (cabinetryref03_nulls.l0 k1 l0 x3_1 (wrap64 (x4_1 + 1))) = some r := by rw [if_neg (show ¬ (false = true) by decide)] at H; exact H
      clear H
      have H := H1
      clear H1
      have H' := Z0 H
      clear H
      have p211 : 0 ≤ (x4_1 : Int) := of_decide_eq_true (by first | (with_reducible assumption) | assumption)
      have q211 : x4_1 < (l0.length : Int) := of_decide_eq_true (by first | (with_reducible assumption) | assumption)
      obtain ⟨ad211, e211, hx211_0, hx211_1, hx211_2, hx211_3⟩ := at_T23 HR0.out x4_1 p211 q211
      (try rw [← Nbq4.out] at hx211_3)
      cases e211
      replace p211 := eq_true p211
      replace q211 := eq_true q211
      go_wp2
      go_roundg k1
      case measure => have := HK1.out; omega
      case rel => exact ⟨(x3_1), (wrap64 (x4_1 + 1)), (by first | rfl | (simp; done) | (simp [*]; done)), (by first | rfl | (simp; done) | (simp [*]; done)), H', ⟨by have := HK1.out; omega⟩, by repeat (first | exact X6 _ | apply X5)⟩
    ·rw [if_neg c3] at H
     exact absurd H (by simp)
   ·rw [if_neg c2] at H
    have c2b0 : decide (x4_1 < (l0.length : Int)) = false := decide_eq_false c2
    clear c2
    obtain rfl := Option.some.inj H
    go_wp2
    go_ret
    exact ⟨by first | rfl | (simp; done) | (simp [*]; done), by repeat (first | exact X6 _ | apply X5)⟩
def cabinetryref03_Wide.l0 : Nat → List (S23) → Int → Int → Option (Int)
 | 0, _, _, _ => none
 | k + 1, x0, x3, x4 => if x4 < (x0.length : Int) then (if 0 ≤ x4 then (cabinetryref03_Wide.l0 k x0 (wrap64 (x3 + ((rd_T23 x0 x4).f2))) (wrap64 (x4 + 1))) else (none)) else (some x3)
def cabinetryref03_Wide.f (k : Nat) (l0 : List (S23)) : Option (Int) := (cabinetryref03_nulls.f k l0).bind fun t212 => (cabinetryref03_Wide.l0 k l0 (wrap64 (1 + t212)) 0)
theorem cabinetryref03_Wide.mono_l : ∀ k, (∀ y0 y1 y2, LeO (cabinetryref03_Wide.l0 k y0 y1 y2) (cabinetryref03_Wide.l0 (k + 1) y0 y1 y2))
 | 0 => fun _ _ _ r h => by simp [cabinetryref03_Wide.l0] at h
 | k + 1 => by
  have ih0 := cabinetryref03_Wide.mono_l k
  ·intro y0 y1 y2
   unfold cabinetryref03_Wide.l0
   repeat' first
   | (with_reducible exact ih0 _ _ _)
   | (with_reducible exact cabinetryref03_nulls.mono _ _)
   | (with_reducible exact LeO.refl _)
   | (with_reducible exact X2 _)
   | (with_reducible refine X4 ?_ ?_)
   | (with_reducible refine X3 ?_ (fun _ => ?_))
   | exact ih0 _ _ _
   | exact cabinetryref03_nulls.mono _ _
   | exact X2 _
   | refine X4 ?_ ?_
   | refine X3 ?_ (fun _ => ?_)
theorem cabinetryref03_Wide.mono : ∀ a0 k, LeO (cabinetryref03_Wide.f k a0) (cabinetryref03_Wide.f (k + 1) a0) := by
 intro a0 k
 have ih0 := cabinetryref03_Wide.mono_l k
 unfold cabinetryref03_Wide.f
 repeat' first
   | (with_reducible exact ih0 _ _ _)
   | (with_reducible exact cabinetryref03_nulls.mono _ _)
   | (with_reducible exact LeO.refl _)
   | (with_reducible exact X2 _)
   | (with_reducible refine X4 ?_ ?_)
   | (with_reducible refine X3 ?_ (fun _ => ?_))
   | exact ih0 _ _ _
   | exact cabinetryref03_nulls.mono _ _
   | exact X2 _
   | refine X4 ?_ ?_
   | refine X3 ?_ (fun _ => ?_)
set_option maxHeartbeats 8000000 in
set_option maxRecDepth 100000 in
theorem cabinetryref03_Wide.calls (k : Nat) (A0 : Option Addr) (c0 : Nat) (l0 : List (S23)) (r : Int) (w : World) (hr0 : Kd.C k23 w A0 l0.length l0) (hc0 : l0.length ≤ c0) (h : cabinetryref03_Wide.f k l0 = some r) :
  Calls Tryz.prog 70 #[.slice A0 l0.length c0] w fun e w' => e = .returned (.int .i64 r) ∧ Drawn0 w w' := by
 have HR0 := Z0 hr0
 have HC0 := Z0 hc0
 clear hr0 hc0
 have H : ((cabinetryref03_nulls.f k l0).bind fun t212 => (cabinetryref03_Wide.l0 k l0 (wrap64 (1 + t212)) 0)) = some r := h
 clear h
 replace H := Option.bind_eq_some_iff.mp H
 obtain ⟨t212, A20, H⟩ := H
 replace H : (cabinetryref03_Wide.l0 k l0 (wrap64 (1 + t212)) 0) = some r := H
 have A2 := Z0 A20
 clear A20
 have H' := Z0 H
 clear H
 go_enter Tryz.func70, Tryz.ntmps70
 go_wp2_with (first | ((with_reducible refine X1 (f := 72) rfl ?_); refine goesL_ (some 6) rfl rfl Tryz.func72 (by kernel_rfl) rfl #[.slice A0 l0.length c0] rfl (by (try simp only [Y2, Y7, Y8]); first | done | rfl) ?_; (with_reducible refine (cabinetryref03_nulls.calls k _ _ l0 t212 _ ?side1 ?side2 A2.out).mono ?_); (case side1 => repeat (first | exact HR0.out | (with_reducible refine Kd.C_alloc ?_ _) | (with_reducible refine Kd.C_drewN ?_ _) | (with_reducible refine Kd.C_drew ?_))); (case side2 => exact HC0.out); rintro e w' ⟨rfl, ⟨nd, rfl⟩⟩; refine ⟨_, rfl, ?_⟩))
 go_loopg [3, 4] k (fun kq v3 v4 w' => ∃ (x3_1 : Int) (x4_1 : Int), v3 = .int .i64 x3_1 ∧ v4 = .int .i64 x4_1 ∧ Aside0 (cabinetryref03_Wide.l0 kq l0 x3_1 x4_1 = some r) ∧ Aside0 (kq ≤ k) ∧ Drawn0 w w')
 case atStart => exact ⟨(wrap64 (1 + t212)), (0), (by first | rfl | (simp; done) | (simp [*]; done)), (by first | rfl | (simp; done) | (simp [*]; done)), H', ⟨Nat.le_refl _⟩, by repeat (first | exact X6 _ | apply X5)⟩
 case round =>
  clear H'
  (try clear p2)
  obtain ⟨x3_1, x4_1, rfl, rfl, HA, HK1, ⟨m1, rfl⟩⟩ := hrel
  cases gk with
  | zero => exact absurd HA.out (by simp [cabinetryref03_Wide.l0])
  | succ k1 =>
   have H := HA.out
   clear HA
   simp only [cabinetryref03_Wide.l0] at H
   by_cases c3 : x4_1 < (l0.length : Int)
   ·rw [if_pos c3] at H
    have c3b0 : decide (x4_1 < (l0.length : Int)) = true := decide_eq_true c3
    clear c3
    by_cases c4 : 0 ≤ x4_1
    ·rw [if_pos c4] at H
     have c4b0 : decide (0 ≤ x4_1) = true := decide_eq_true c4
     clear c4
     have H' := Z0 H
     clear H
     have p213 : 0 ≤ (x4_1 : Int) := of_decide_eq_true (by first | (with_reducible assumption) | assumption)
     have q213 : x4_1 < (l0.length : Int) := of_decide_eq_true (by first | (with_reducible assumption) | assumption)
     obtain ⟨ad213, e213, hx213_0, hx213_1, hx213_2, hx213_3⟩ := at_T23 HR0.out x4_1 p213 q213
     cases e213
     replace p213 := eq_true p213
     replace q213 := eq_true q213
     go_wp2
     go_roundg k1
     case measure => have := HK1.out; omega
     case rel => exact ⟨(wrap64 (x3_1 + ((rd_T23 l0 x4_1).f2))), (wrap64 (x4_1 + 1)), (by first | rfl | (simp; done) | (simp [*]; done)), (by first | rfl | (simp; done) | (simp [*]; done)), H', ⟨by have := HK1.out; omega⟩, by repeat (first | exact X6 _ | apply X5)⟩
    ·rw [if_neg c4] at H
     exact absurd H (by simp)
   ·rw [if_neg c3] at H
    have c3b0 : decide (x4_1 < (l0.length : Int)) = false := decide_eq_false c3
    clear c3
    obtain rfl := Option.some.inj H
    go_wp2
    go_ret
    exact ⟨by first | rfl | (simp; done) | (simp [*]; done), by repeat (first | exact X6 _ | apply X5)⟩
mutual
def cabinetryref03_ValidateFields.l0 : Nat → List (S23) → Int → Option (Int)
 | 0, _, _ => none
 | k + 1, x0, x3 => if x3 < (x0.length : Int) then (if 0 ≤ x3 then ((cabinetryref03_isField.f k ((rd_T23 x0 x3).f0) ((rd_T23 x0 x3).f1) ((rd_T23 x0 x3).f2) ((rd_T23 x0 x3).f3)).bind fun t215 => (if t215 = true then (cabinetryref03_ValidateFields.l0 k x0 (wrap64 (x3 + 1))) else (some 1))) else (none)) else (cabinetryref03_ValidateFields.l1 k x0 0)
def cabinetryref03_ValidateFields.l1 : Nat → List (S23) → Int → Option (Int)
 | 0, _, _ => none
 | k + 1, x0, x4 => if x4 < (x0.length : Int) then (cabinetryref03_ValidateFields.l2 k x0 x4 0) else (if (x0.length : Int) > 16 then (some 3) else ((cabinetryref03_Wide.f k x0).bind fun t218 => (if t218 > 2000 then (some 3) else (some 0))))
def cabinetryref03_ValidateFields.l2 : Nat → List (S23) → Int → Int → Option (Int)
 | 0, _, _, _ => none
 | k + 1, x0, x4, x5 => if x5 < x4 then (if 0 ≤ x4 then (if x4 < (x0.length : Int) then (if 0 ≤ x5 then (if x5 < (x0.length : Int) then (if ((rd_T23 x0 x4).f0).toList = ((rd_T23 x0 x5).f0).toList then (some 5) else (cabinetryref03_ValidateFields.l2 k x0 x4 (wrap64 (x5 + 1)))) else (none)) else (none)) else (none)) else (none)) else (cabinetryref03_ValidateFields.l1 k x0 (wrap64 (x4 + 1)))
end
def cabinetryref03_ValidateFields.f (k : Nat) (l0 : List (S23)) : Option (Int) := if (l0.length : Int) = 0 then (some 1) else (cabinetryref03_ValidateFields.l0 k l0 0)
theorem cabinetryref03_ValidateFields.mono_l : ∀ k, (∀ y0 y1, LeO (cabinetryref03_ValidateFields.l0 k y0 y1) (cabinetryref03_ValidateFields.l0 (k + 1) y0 y1)) ∧ (∀ y0 y1, LeO (cabinetryref03_ValidateFields.l1 k y0 y1) (cabinetryref03_ValidateFields.l1 (k + 1) y0 y1)) ∧ (∀ y0 y1 y2, LeO (cabinetryref03_ValidateFields.l2 k y0 y1 y2) (cabinetryref03_ValidateFields.l2 (k + 1) y0 y1 y2))
 | 0 => ⟨fun _ _ r h => by simp [cabinetryref03_ValidateFields.l0] at h, fun _ _ r h => by simp [cabinetryref03_ValidateFields.l1] at h, fun _ _ _ r h => by simp [cabinetryref03_ValidateFields.l2] at h⟩
 | k + 1 => by
  obtain ⟨ih0, ih1, ih2⟩ := cabinetryref03_ValidateFields.mono_l k
  refine ⟨?_, ?_, ?_⟩
  ·intro y0 y1
   unfold cabinetryref03_ValidateFields.l0
   repeat' first
   | (with_reducible exact ih0 _ _)
   | (with_reducible exact ih1 _ _)
   | (with_reducible exact ih2 _ _ _)
   | (with_reducible exact cabinetryref03_Wide.mono _ _)
   | (with_reducible exact cabinetryref03_isField.mono _ _ _ _ _)
   | (with_reducible exact LeO.refl _)
   | (with_reducible exact X2 _)
   | (with_reducible refine X4 ?_ ?_)
   | (with_reducible refine X3 ?_ (fun _ => ?_))
   | exact ih0 _ _
   | exact ih1 _ _
   | exact ih2 _ _ _
   | exact cabinetryref03_Wide.mono _ _
   | exact cabinetryref03_isField.mono _ _ _ _ _
   | exact X2 _
   | refine X4 ?_ ?_
   | refine X3 ?_ (fun _ => ?_)
  ·intro y0 y1
   unfold cabinetryref03_ValidateFields.l1
   repeat' first
   | (with_reducible exact ih0 _ _)
   | (with_reducible exact ih1 _ _)
   | (with_reducible exact ih2 _ _ _)
   | (with_reducible exact cabinetryref03_Wide.mono _ _)
   | (with_reducible exact cabinetryref03_isField.mono _ _ _ _ _)
   | (with_reducible exact LeO.refl _)
   | (with_reducible exact X2 _)
   | (with_reducible refine X4 ?_ ?_)
   | (with_reducible refine X3 ?_ (fun _ => ?_))
   | exact ih0 _ _
   | exact ih1 _ _
   | exact ih2 _ _ _
   | exact cabinetryref03_Wide.mono _ _
   | exact cabinetryref03_isField.mono _ _ _ _ _
   | exact X2 _
   | refine X4 ?_ ?_
   | refine X3 ?_ (fun _ => ?_)
  ·intro y0 y1 y2
   unfold cabinetryref03_ValidateFields.l2
   repeat' first
   | (with_reducible exact ih0 _ _)
   | (with_reducible exact ih1 _ _)
   | (with_reducible exact ih2 _ _ _)
   | (with_reducible exact cabinetryref03_Wide.mono _ _)
   | (with_reducible exact cabinetryref03_isField.mono _ _ _ _ _)
   | (with_reducible exact LeO.refl _)
   | (with_reducible exact X2 _)
   | (with_reducible refine X4 ?_ ?_)
   | (with_reducible refine X3 ?_ (fun _ => ?_))
   | exact ih0 _ _
   | exact ih1 _ _
   | exact ih2 _ _ _
   | exact cabinetryref03_Wide.mono _ _
   | exact cabinetryref03_isField.mono _ _ _ _ _
   | exact X2 _
   | refine X4 ?_ ?_
   | refine X3 ?_ (fun _ => ?_)
theorem cabinetryref03_ValidateFields.mono : ∀ a0 k, LeO (cabinetryref03_ValidateFields.f k a0) (cabinetryref03_ValidateFields.f (k + 1) a0) := by
 intro a0 k
 obtain ⟨ih0, ih1, ih2⟩ := cabinetryref03_ValidateFields.mono_l k
 unfold cabinetryref03_ValidateFields.f
 repeat' first
   | (with_reducible exact ih0 _ _)
   | (with_reducible exact ih1 _ _)
   | (with_reducible exact ih2 _ _ _)
   | (with_reducible exact cabinetryref03_Wide.mono _ _)
   | (with_reducible exact cabinetryref03_isField.mono _ _ _ _ _)
   | (with_reducible exact LeO.refl _)
   | (with_reducible exact X2 _)
   | (with_reducible refine X4 ?_ ?_)
   | (with_reducible refine X3 ?_ (fun _ => ?_))
   | exact ih0 _ _
   | exact ih1 _ _
   | exact ih2 _ _ _
   | exact cabinetryref03_Wide.mono _ _
   | exact cabinetryref03_isField.mono _ _ _ _ _
   | exact X2 _
   | refine X4 ?_ ?_
   | refine X3 ?_ (fun _ => ?_)
set_option maxHeartbeats 8000000 in
set_option maxRecDepth 100000 in
theorem cabinetryref03_ValidateFields.calls (k : Nat) (A0 : Option Addr) (c0 : Nat) (l0 : List (S23)) (r : Int) (w : World) (hr0 : Kd.C k23 w A0 l0.length l0) (hc0 : l0.length ≤ c0) (h : cabinetryref03_ValidateFields.f k l0 = some r) :
  Calls Tryz.prog 37 #[.slice A0 l0.length c0] w fun e w' => e = .returned (.int .i64 r) ∧ Below w.heap.size w w' := by
 have hu23 := Tryz.underlying23
 have HR0 := Z0 hr0
 have HC0 := Z0 hc0
 clear hr0 hc0
 have HB := Z0 (Below.refl w.heap.size w)
 have H : (if (l0.length : Int) = 0 then (some 1) else (cabinetryref03_ValidateFields.l0 k l0 0)) = some r := h
 clear h
 by_cases c2 : (l0.length : Int) = 0
 ·rw [if_pos c2] at H
  have c2b0 : ((l0.length : Int) == 0) = true := beq_iff_eq.mpr c2
  have c2b1 : ((l0.length : Int) != 0) = false := bne_eq_false_iff_eq.mpr c2
  clear c2
  obtain rfl := Option.some.inj H
  go_enter Tryz.func37, Tryz.ntmps37
  go_wp2
  repeat (go_quiet (fail); try go_wp2)
  go_ret
  exact ⟨rfl, by repeat (first | (with_reducible first | exact HB.out | apply Z7 | apply Z4 | apply Z9) | exact HB.out)⟩
 ·rw [if_neg c2] at H
  have c2b0 : ((l0.length : Int) == 0) = false := beq_eq_false_iff_ne.mpr c2
  have c2b1 : ((l0.length : Int) != 0) = true := bne_iff_ne.mpr c2
  have c2b2 : ¬ (l0 = []) := fun h_ => c2 (by rw [h_]; rfl)
  have H' := Z0 H
  clear H
  go_enter Tryz.func37, Tryz.ntmps37
  go_wp2
  repeat (go_quiet (fail); try go_wp2)
  go_loopg [3] k (fun kq v3 w' => ∃ (x3_1 : Int), v3 = .int .i64 x3_1 ∧ Aside0 (cabinetryref03_ValidateFields.l0 kq l0 x3_1 = some r) ∧ Aside0 (kq ≤ k) ∧ Aside0 (Below w.heap.size w w'))
  case atStart => exact ⟨(0), (by first | rfl | (simp; done) | (simp [*]; done)), H', ⟨Nat.le_refl _⟩, ⟨by repeat (first | (with_reducible first | exact HB.out | apply Z7 | apply Z4 | apply Z9) | exact HB.out)⟩⟩
  case round =>
   clear H'
   (try clear c2);(try clear c2b0);(try clear c2b1);(try clear c2b2);(try clear p2)
   obtain ⟨x3_1, rfl, HA, HK1, HB⟩ := hrel
   cases gk with
   | zero => exact absurd HA.out (by simp [cabinetryref03_ValidateFields.l0])
   | succ k1 =>
    have H := HA.out
    clear HA
    simp only [cabinetryref03_ValidateFields.l0] at H
    by_cases c3 : x3_1 < (l0.length : Int)
    ·rw [if_pos c3] at H
     have c3b0 : decide (x3_1 < (l0.length : Int)) = true := decide_eq_true c3
     clear c3
     by_cases c4 : 0 ≤ x3_1
     ·rw [if_pos c4] at H
      have c4b0 : decide (0 ≤ x3_1) = true := decide_eq_true c4
      clear c4
      replace H := Option.bind_eq_some_iff.mp H
      obtain ⟨t215, A50, H⟩ := H
      replace H : (if t215 = true then (cabinetryref03_ValidateFields.l0 k1 l0 (wrap64 (x3_1 + 1))) else (some 1)) = some r := H
      have A5 := Z0 A50
      clear A50
      by_cases c6 : t215 = true
      ·subst c6
       have H1 : (cabinetryref03_ValidateFields.l0 k1 l0 (wrap64 (x3_1 + 1))) = some r := by rw [if_pos rfl] at H; exact H
       clear H
       have H := H1
       clear H1
       have H' := Z0 H
       clear H
       have p214 : 0 ≤ (x3_1 : Int) := of_decide_eq_true (by first | (with_reducible assumption) | assumption)
       have q214 : x3_1 < (l0.length : Int) := of_decide_eq_true (by first | (with_reducible assumption) | assumption)
       obtain ⟨ad214, e214, hx214_0, hx214_1, hx214_2, hx214_3⟩ := at_T23 HR0.out x3_1 p214 q214
       cases e214
       replace hx214_0 := (HB.out.cell (World.block_lt_of_cell? w _ hx214_0)).trans hx214_0
       replace hx214_1 := (HB.out.cell (World.block_lt_of_cell? w _ hx214_1)).trans hx214_1
       replace hx214_2 := (HB.out.cell (World.block_lt_of_cell? w _ hx214_2)).trans hx214_2
       replace hx214_3 := (HB.out.cell (World.block_lt_of_cell? w _ hx214_3)).trans hx214_3
       replace p214 := eq_true p214
       replace q214 := eq_true q214
       go_wp2_with (first | (go_at_call 55; (with_reducible refine (cabinetryref03_isField.calls k1 ((rd_T23 l0 x3_1).f0) ((rd_T23 l0 x3_1).f1) ((rd_T23 l0 x3_1).f2) ((rd_T23 l0 x3_1).f3) true _ A5.out).mono ?_); rintro e w7 ⟨rfl, hb⟩; have n0_ := Z0 (Y0 HB.out hb); clear HB; have HB := n0_; clear n0_; (try clear hb); (try clear hb2); (try clear hk); (try clear hi)))
       go_roundg k1
       case measure => have := HK1.out; omega
       case rel => exact ⟨(wrap64 (x3_1 + 1)), (by first | rfl | (simp; done) | (simp [*]; done)), H', ⟨by have := HK1.out; omega⟩, ⟨by repeat (first | (with_reducible first | exact HB.out | apply Z7 | apply Z4 | apply Z9) | exact HB.out)⟩⟩
      ·replace c6 := Bool.eq_false_iff.mpr c6
       subst c6
       have H1 : (some 1) = some r := by rw [if_neg (show ¬ (false = true) by decide)] at H; exact H
       clear H
       have H := H1
       clear H1
       obtain rfl := Option.some.inj H
       have p214 : 0 ≤ (x3_1 : Int) := of_decide_eq_true (by first | (with_reducible assumption) | assumption)
       have q214 : x3_1 < (l0.length : Int) := of_decide_eq_true (by first | (with_reducible assumption) | assumption)
       obtain ⟨ad214, e214, hx214_0, hx214_1, hx214_2, hx214_3⟩ := at_T23 HR0.out x3_1 p214 q214
       cases e214
       replace hx214_0 := (HB.out.cell (World.block_lt_of_cell? w _ hx214_0)).trans hx214_0
       replace hx214_1 := (HB.out.cell (World.block_lt_of_cell? w _ hx214_1)).trans hx214_1
       replace hx214_2 := (HB.out.cell (World.block_lt_of_cell? w _ hx214_2)).trans hx214_2
       replace hx214_3 := (HB.out.cell (World.block_lt_of_cell? w _ hx214_3)).trans hx214_3
       replace p214 := eq_true p214
       replace q214 := eq_true q214
       go_wp2_with (first | (go_at_call 55; (with_reducible refine (cabinetryref03_isField.calls k1 ((rd_T23 l0 x3_1).f0) ((rd_T23 l0 x3_1).f1) ((rd_T23 l0 x3_1).f2) ((rd_T23 l0 x3_1).f3) false _ A5.out).mono ?_); rintro e w8 ⟨rfl, hb⟩; have n0_ := Z0 (Y0 HB.out hb); clear HB; have HB := n0_; clear n0_; (try clear hb); (try clear hb2); (try clear hk); (try clear hi)))
       go_ret
       exact ⟨rfl, by repeat (first | (with_reducible first | exact HB.out | apply Z7 | apply Z4 | apply Z9) | exact HB.out)⟩
     ·rw [if_neg c4] at H
      exact absurd H (by simp)
    ·rw [if_neg c3] at H
     have c3b0 : decide (x3_1 < (l0.length : Int)) = false := decide_eq_false c3
     clear c3
     have H' := Z0 H
     clear H
     go_wp2
     repeat (go_quiet (fail); try go_wp2)
     go_loopg [4] k1 (fun kq v4 w' => ∃ (x4_2 : Int), v4 = .int .i64 x4_2 ∧ Aside0 (cabinetryref03_ValidateFields.l1 kq l0 x4_2 = some r) ∧ Aside0 (kq ≤ k1) ∧ Aside0 (Below w.heap.size w w'))
     case atStart => exact ⟨(0), (by first | rfl | (simp; done) | (simp [*]; done)), H', ⟨Nat.le_refl _⟩, ⟨by repeat (first | (with_reducible first | exact HB.out | apply Z7 | apply Z4 | apply Z9) | exact HB.out)⟩⟩
     case round =>
      clear H'
      (try clear c2);(try clear c2b0);(try clear c2b1);(try clear c2b2);(try clear p2);(try clear q2);(try clear hx2);(try clear c3);(try clear c3b0);(try clear c4);(try clear c4b0);(try clear c6);(try clear p6);(try clear hx214_0);(try clear hx214_1);(try clear hx214_2);(try clear hx214_3);(try clear p2);(try clear p214);(try clear q214)
      obtain ⟨x4_2, rfl, HA, HK2, HB⟩ := hrel
      cases gk with
      | zero => exact absurd HA.out (by simp [cabinetryref03_ValidateFields.l1])
      | succ k2 =>
       have H := HA.out
       clear HA
       simp only [cabinetryref03_ValidateFields.l1] at H
       by_cases c9 : x4_2 < (l0.length : Int)
       ·rw [if_pos c9] at H
        have c9b0 : decide (x4_2 < (l0.length : Int)) = true := decide_eq_true c9
        clear c9
        have H' := Z0 H
        clear H
        go_wp2
        repeat (go_quiet (fail); try go_wp2)
        go_loopg [5] k2 (fun kq v5 w' => ∃ (x5_3 : Int), v5 = .int .i64 x5_3 ∧ Aside0 (cabinetryref03_ValidateFields.l2 kq l0 x4_2 x5_3 = some r) ∧ Aside0 (kq ≤ k2) ∧ Aside0 (Below w.heap.size w w'))
        case atStart => exact ⟨(0), (by first | rfl | (simp; done) | (simp [*]; done)), H', ⟨Nat.le_refl _⟩, ⟨by repeat (first | (with_reducible first | exact HB.out | apply Z7 | apply Z4 | apply Z9) | exact HB.out)⟩⟩
        case round =>
         clear H'
         (try clear c2);(try clear c2b0);(try clear c2b1);(try clear c2b2);(try clear p2);(try clear q2);(try clear hx2);(try clear c3);(try clear c3b0);(try clear c4);(try clear c4b0);(try clear c6);(try clear p6);(try clear c9);(try clear c9b0);(try clear hx214_0);(try clear hx214_1);(try clear hx214_2);(try clear hx214_3);(try clear p2);(try clear p214);(try clear p6);(try clear q2);(try clear q214)
         obtain ⟨x5_3, rfl, HA, HK3, HB⟩ := hrel
         cases gk with
         | zero => exact absurd HA.out (by simp [cabinetryref03_ValidateFields.l2])
         | succ k3 =>
          have H := HA.out
          clear HA
          simp only [cabinetryref03_ValidateFields.l2] at H
          by_cases c10 : x5_3 < x4_2
          ·rw [if_pos c10] at H
           have c10b0 : decide (x5_3 < x4_2) = true := decide_eq_true c10
           clear c10
           by_cases c11 : 0 ≤ x4_2
           ·rw [if_pos c11] at H
            have c11b0 : decide (0 ≤ x4_2) = true := decide_eq_true c11
            clear c11
            by_cases c12 : x4_2 < (l0.length : Int)
            ·rw [if_pos c12] at H
             have c12b0 : decide (x4_2 < (l0.length : Int)) = true := decide_eq_true c12
             clear c12
             by_cases c13 : 0 ≤ x5_3
             ·rw [if_pos c13] at H
              have c13b0 : decide (0 ≤ x5_3) = true := decide_eq_true c13
              clear c13
              by_cases c14 : x5_3 < (l0.length : Int)
              ·rw [if_pos c14] at H
               have c14b0 : decide (x5_3 < (l0.length : Int)) = true := decide_eq_true c14
               clear c14
               by_cases c15 : ((rd_T23 l0 x4_2).f0).toList = ((rd_T23 l0 x5_3).f0).toList
               ·rw [if_pos c15] at H
                have c15b0 : (((rd_T23 l0 x4_2).f0).toList == ((rd_T23 l0 x5_3).f0).toList) = true := beq_iff_eq.mpr c15
                have c15b1 : (((rd_T23 l0 x4_2).f0).toList != ((rd_T23 l0 x5_3).f0).toList) = false := bne_eq_false_iff_eq.mpr c15
                clear c15
                obtain rfl := Option.some.inj H
                have p216 : 0 ≤ (x4_2 : Int) := of_decide_eq_true (by first | (with_reducible assumption) | assumption)
                have q216 : x4_2 < (l0.length : Int) := of_decide_eq_true (by first | (with_reducible assumption) | assumption)
                obtain ⟨ad216, e216, hx216_0, hx216_1, hx216_2, hx216_3⟩ := at_T23 HR0.out x4_2 p216 q216
                cases e216
                replace hx216_0 := (HB.out.cell (World.block_lt_of_cell? w _ hx216_0)).trans hx216_0
                replace hx216_1 := (HB.out.cell (World.block_lt_of_cell? w _ hx216_1)).trans hx216_1
                replace hx216_2 := (HB.out.cell (World.block_lt_of_cell? w _ hx216_2)).trans hx216_2
                replace hx216_3 := (HB.out.cell (World.block_lt_of_cell? w _ hx216_3)).trans hx216_3
                replace p216 := eq_true p216
                replace q216 := eq_true q216
                have p217 : 0 ≤ (x5_3 : Int) := of_decide_eq_true (by first | (with_reducible assumption) | assumption)
                have q217 : x5_3 < (l0.length : Int) := of_decide_eq_true (by first | (with_reducible assumption) | assumption)
                obtain ⟨ad217, e217, hx217_0, hx217_1, hx217_2, hx217_3⟩ := at_T23 HR0.out x5_3 p217 q217
                obtain rfl : ad216 = ad217 := (by injection e217)
                replace hx217_0 := (HB.out.cell (World.block_lt_of_cell? w _ hx217_0)).trans hx217_0
                replace hx217_1 := (HB.out.cell (World.block_lt_of_cell? w _ hx217_1)).trans hx217_1
                replace hx217_2 := (HB.out.cell (World.block_lt_of_cell? w _ hx217_2)).trans hx217_2
                replace hx217_3 := (HB.out.cell (World.block_lt_of_cell? w _ hx217_3)).trans hx217_3
                replace p217 := eq_true p217
                replace q217 := eq_true q217
                go_wp2
                repeat (go_quiet (fail); try go_wp2)
                go_ret
                exact ⟨rfl, by repeat (first | (with_reducible first | exact HB.out | apply Z7 | apply Z4 | apply Z9) | exact HB.out)⟩
               ·rw [if_neg c15] at H
                have c15b0 : (((rd_T23 l0 x4_2).f0).toList == ((rd_T23 l0 x5_3).f0).toList) = false := beq_eq_false_iff_ne.mpr c15
                have c15b1 : (((rd_T23 l0 x4_2).f0).toList != ((rd_T23 l0 x5_3).f0).toList) = true := bne_iff_ne.mpr c15
                have H' := Z0 H
                clear H
                have p216 : 0 ≤ (x4_2 : Int) := of_decide_eq_true (by first | (with_reducible assumption) | assumption)
                have q216 : x4_2 < (l0.length : Int) := of_decide_eq_true (by first | (with_reducible assumption) | assumption)
                obtain ⟨ad216, e216, hx216_0, hx216_1, hx216_2, hx216_3⟩ := at_T23 HR0.out x4_2 p216 q216
                cases e216
                replace hx216_0 := (HB.out.cell (World.block_lt_of_cell? w _ hx216_0)).trans hx216_0
                replace hx216_1 := (HB.out.cell (World.block_lt_of_cell? w _ hx216_1)).trans hx216_1
                replace hx216_2 := (HB.out.cell (World.block_lt_of_cell? w _ hx216_2)).trans hx216_2
                replace hx216_3 := (HB.out.cell (World.block_lt_of_cell? w _ hx216_3)).trans hx216_3
                replace p216 := eq_true p216
                replace q216 := eq_true q216
                have p217 : 0 ≤ (x5_3 : Int) := of_decide_eq_true (by first | (with_reducible assumption) | assumption)
                have q217 : x5_3 < (l0.length : Int) := of_decide_eq_true (by first | (with_reducible assumption) | assumption)
                obtain ⟨ad217, e217, hx217_0, hx217_1, hx217_2, hx217_3⟩ := at_T23 HR0.out x5_3 p217 q217
                obtain rfl : ad216 = ad217 := (by injection e217)
                replace hx217_0 := (HB.out.cell (World.block_lt_of_cell? w _ hx217_0)).trans hx217_0
                replace hx217_1 := (HB.out.cell (World.block_lt_of_cell? w _ hx217_1)).trans hx217_1
                replace hx217_2 := (HB.out.cell (World.block_lt_of_cell? w _ hx217_2)).trans hx217_2
                replace hx217_3 := (HB.out.cell (World.block_lt_of_cell? w _ hx217_3)).trans hx217_3
                replace p217 := eq_true p217
                replace q217 := eq_true q217
                go_wp2
                repeat (go_quiet (fail); try go_wp2)
                go_roundg k3
                case measure => have := HK1.out; have := HK2.out; have := HK3.out; omega
                case rel => exact ⟨(wrap64 (x5_3 + 1)), (by first | rfl | (simp; done) | (simp [*]; done)), H', ⟨by have := HK1.out; have := HK2.out; have := HK3.out; omega⟩, ⟨by repeat (first | (with_reducible first | exact HB.out | apply Z7 | apply Z4 | apply Z9) | exact HB.out)⟩⟩
              ·rw [if_neg c14] at H
               exact absurd H (by simp)
             ·rw [if_neg c13] at H
              exact absurd H (by simp)
            ·rw [if_neg c12] at H
             exact absurd H (by simp)
           ·rw [if_neg c11] at H
            exact absurd H (by simp)
          ·rw [if_neg c10] at H
           have c10b0 : decide (x5_3 < x4_2) = false := decide_eq_false c10
           clear c10
           have H' := Z0 H
           clear H
           go_wp2
           repeat (go_quiet (fail); try go_wp2)
           go_roundg k3
           case measure => have := HK1.out; have := HK2.out; have := HK3.out; omega
           case rel => exact ⟨(wrap64 (x4_2 + 1)), (by first | rfl | (simp; done) | (simp [*]; done)), H', ⟨by have := HK1.out; have := HK2.out; have := HK3.out; omega⟩, ⟨by repeat (first | (with_reducible first | exact HB.out | apply Z7 | apply Z4 | apply Z9) | exact HB.out)⟩⟩
       ·rw [if_neg c9] at H
        have c9b0 : decide (x4_2 < (l0.length : Int)) = false := decide_eq_false c9
        clear c9
        by_cases c16 : (l0.length : Int) > 16
        ·rw [if_pos c16] at H
         have c16b0 : decide (16 < (l0.length : Int)) = true := decide_eq_true c16
         have c16b1 : decide (16 < l0.length) = true := decide_eq_true (by omega)
         clear c16
         obtain rfl := Option.some.inj H
         go_wp2
         repeat (go_quiet (fail); try go_wp2)
         go_ret
         exact ⟨rfl, by repeat (first | (with_reducible first | exact HB.out | apply Z7 | apply Z4 | apply Z9) | exact HB.out)⟩
        ·rw [if_neg c16] at H
         have c16b0 : decide (16 < (l0.length : Int)) = false := decide_eq_false c16
         have c16b1 : decide (16 < l0.length) = false := decide_eq_false (by omega)
         clear c16
         replace H := Option.bind_eq_some_iff.mp H
         obtain ⟨t218, A170, H⟩ := H
         replace H : (if t218 > 2000 then (some 3) else (some 0)) = some r := H
         have A17 := Z0 A170
         clear A170
         by_cases c18 : t218 > 2000
         ·rw [if_pos c18] at H
          have c18b0 : decide (2000 < t218) = true := decide_eq_true c18
          clear c18
          obtain rfl := Option.some.inj H
          go_wp2_with (first | (go_at_call 70; (with_reducible refine (cabinetryref03_Wide.calls k2 _ _ l0 t218 _ ?side1 ?side2 A17.out).mono ?_); (case side1 => repeat (first | exact (Kd.C_below HR0.out HB.out) | (with_reducible refine Kd.C_alloc ?_ _) | (with_reducible refine Kd.C_drewN ?_ _) | (with_reducible refine Kd.C_drew ?_))); (case side2 => exact HC0.out); rintro e w' ⟨rfl, ⟨nd, rfl⟩⟩; (try first | exact ⟨rfl, _, World.drewN_drewN _ _ _⟩ | exact ⟨rfl, _, Eq.trans (World.drewN_drewN _ _ _) (congrArg (World.drewN _) (Nat.add_assoc _ _ _))⟩)))
          go_ret
          exact ⟨rfl, by repeat (first | (with_reducible first | exact HB.out | apply Z7 | apply Z4 | apply Z9) | exact HB.out)⟩
         ·rw [if_neg c18] at H
          have c18b0 : decide (2000 < t218) = false := decide_eq_false c18
          clear c18
          obtain rfl := Option.some.inj H
          go_wp2_with (first | (go_at_call 70; (with_reducible refine (cabinetryref03_Wide.calls k2 _ _ l0 t218 _ ?side1 ?side2 A17.out).mono ?_); (case side1 => repeat (first | exact (Kd.C_below HR0.out HB.out) | (with_reducible refine Kd.C_alloc ?_ _) | (with_reducible refine Kd.C_drewN ?_ _) | (with_reducible refine Kd.C_drew ?_))); (case side2 => exact HC0.out); rintro e w' ⟨rfl, ⟨nd, rfl⟩⟩; (try first | exact ⟨rfl, _, World.drewN_drewN _ _ _⟩ | exact ⟨rfl, _, Eq.trans (World.drewN_drewN _ _ _) (congrArg (World.drewN _) (Nat.add_assoc _ _ _))⟩)))
          go_ret
          exact ⟨rfl, by repeat (first | (with_reducible first | exact HB.out | apply Z7 | apply Z4 | apply Z9) | exact HB.out)⟩
def cabinetryref03_WeightOf.l0 : Nat → List (S25) → Int → Int → Option (Int)
 | 0, _, _, _ => none
 | k + 1, x0, x3, x4 => if x4 < (x0.length : Int) then (if 0 ≤ x4 then (cabinetryref03_WeightOf.l0 k x0 (wrap64 (x3 + (((rd_T25 x0 x4).f2).size : Int))) (wrap64 (x4 + 1))) else (none)) else (some x3)
def cabinetryref03_WeightOf.f (k : Nat) (l0 : List (S25)) : Option (Int) := cabinetryref03_WeightOf.l0 k l0 (wrap64 (8 * (l0.length : Int))) 0
theorem cabinetryref03_WeightOf.mono_l : ∀ k, (∀ y0 y1 y2, LeO (cabinetryref03_WeightOf.l0 k y0 y1 y2) (cabinetryref03_WeightOf.l0 (k + 1) y0 y1 y2))
 | 0 => fun _ _ _ r h => by simp [cabinetryref03_WeightOf.l0] at h
 | k + 1 => by
  have ih0 := cabinetryref03_WeightOf.mono_l k
  ·intro y0 y1 y2
   unfold cabinetryref03_WeightOf.l0
   repeat' first
   | (with_reducible exact ih0 _ _ _)
   | (with_reducible exact LeO.refl _)
   | (with_reducible exact X2 _)
   | (with_reducible refine X4 ?_ ?_)
   | (with_reducible refine X3 ?_ (fun _ => ?_))
   | exact ih0 _ _ _
   | exact X2 _
   | refine X4 ?_ ?_
   | refine X3 ?_ (fun _ => ?_)
theorem cabinetryref03_WeightOf.mono : ∀ a0 k, LeO (cabinetryref03_WeightOf.f k a0) (cabinetryref03_WeightOf.f (k + 1) a0) := by
 intro a0 k
 have ih0 := cabinetryref03_WeightOf.mono_l k
 unfold cabinetryref03_WeightOf.f
 repeat' first
   | (with_reducible exact ih0 _ _ _)
   | (with_reducible exact LeO.refl _)
   | (with_reducible exact X2 _)
   | (with_reducible refine X4 ?_ ?_)
   | (with_reducible refine X3 ?_ (fun _ => ?_))
   | exact ih0 _ _ _
   | exact X2 _
   | refine X4 ?_ ?_
   | refine X3 ?_ (fun _ => ?_)
set_option maxHeartbeats 8000000 in
set_option maxRecDepth 100000 in
theorem cabinetryref03_WeightOf.calls (k : Nat) (A0 : Option Addr) (c0 : Nat) (l0 : List (S25)) (r : Int) (w : World) (hr0 : Kd.C k25 w A0 l0.length l0) (hc0 : l0.length ≤ c0) (h : cabinetryref03_WeightOf.f k l0 = some r) :
  Calls Tryz.prog 64 #[.slice A0 l0.length c0] w fun e w' => e = .returned (.int .i64 r) ∧ Drawn0 w w' := by
 have HR0 := Z0 hr0
 have HC0 := Z0 hc0
 clear hr0 hc0
 have H : (cabinetryref03_WeightOf.l0 k l0 (wrap64 (8 * (l0.length : Int))) 0) = some r := h
 clear h
 have H' := Z0 H
 clear H
 go_enter Tryz.func64, Tryz.ntmps64
 go_wp2
 go_loopg [3, 4] k (fun kq v3 v4 w' => ∃ (x3_1 : Int) (x4_1 : Int), v3 = .int .i64 x3_1 ∧ v4 = .int .i64 x4_1 ∧ Aside0 (cabinetryref03_WeightOf.l0 kq l0 x3_1 x4_1 = some r) ∧ Aside0 (kq ≤ k) ∧ Drawn0 w w')
 case atStart => exact ⟨(wrap64 (8 * (l0.length : Int))), (0), (by first | rfl | (simp; done) | (simp [*]; done)), (by first | rfl | (simp; done) | (simp [*]; done)), H', ⟨Nat.le_refl _⟩, by repeat (first | exact X6 _ | apply X5)⟩
 case round =>
  clear H'
  obtain ⟨x3_1, x4_1, rfl, rfl, HA, HK1, ⟨m1, rfl⟩⟩ := hrel
  cases gk with
  | zero => exact absurd HA.out (by simp [cabinetryref03_WeightOf.l0])
  | succ k1 =>
   have H := HA.out
   clear HA
   simp only [cabinetryref03_WeightOf.l0] at H
   by_cases c2 : x4_1 < (l0.length : Int)
   ·rw [if_pos c2] at H
    have c2b0 : decide (x4_1 < (l0.length : Int)) = true := decide_eq_true c2
    clear c2
    by_cases c3 : 0 ≤ x4_1
    ·rw [if_pos c3] at H
     have c3b0 : decide (0 ≤ x4_1) = true := decide_eq_true c3
     clear c3
     have H' := Z0 H
     clear H
     have p162 : 0 ≤ (x4_1 : Int) := of_decide_eq_true (by first | (with_reducible assumption) | assumption)
     have q162 : x4_1 < (l0.length : Int) := of_decide_eq_true (by first | (with_reducible assumption) | assumption)
     obtain ⟨ad162, e162, hx162_0, hx162_1, hx162_2⟩ := at_T25 HR0.out x4_1 p162 q162
     cases e162
     replace p162 := eq_true p162
     replace q162 := eq_true q162
     go_wp2
     go_roundg k1
     case measure => have := HK1.out; omega
     case rel => exact ⟨(wrap64 (x3_1 + (((rd_T25 l0 x4_1).f2).size : Int))), (wrap64 (x4_1 + 1)), (by first | rfl | (simp; done) | (simp [*]; done)), (by first | rfl | (simp; done) | (simp [*]; done)), H', ⟨by have := HK1.out; omega⟩, by repeat (first | exact X6 _ | apply X5)⟩
    ·rw [if_neg c3] at H
     exact absurd H (by simp)
   ·rw [if_neg c2] at H
    have c2b0 : decide (x4_1 < (l0.length : Int)) = false := decide_eq_false c2
    clear c2
    obtain rfl := Option.some.inj H
    go_wp2
    go_ret
    exact ⟨by first | rfl | (simp; done) | (simp [*]; done), by repeat (first | exact X6 _ | apply X5)⟩
mutual
def cabinetryref03_Weight.l0 : Nat → Int → Int → Int → List (S23) → List (S46) → Option (Int)
 | 0, _, _, _, _, _ => none
 | k + 1, x3, x4, x164000, x164001, x164002 => if x4 < (x164001.length : Int) then (if 0 ≤ x4 then (cabinetryref03_Weight.l0 k (wrap64 (x3 + (((rd_T23 x164001 x4).f0).size : Int))) (wrap64 (x4 + 1)) x164000 x164001 x164002) else (none)) else (cabinetryref03_Weight.l1 k x3 0 x164000 x164001 x164002)
def cabinetryref03_Weight.l1 : Nat → Int → Int → Int → List (S23) → List (S46) → Option (Int)
 | 0, _, _, _, _, _ => none
 | k + 1, x3, x5, x164000, x164001, x164002 => if x5 < (x164002.length : Int) then (if 0 ≤ x5 then ((cabinetryref03_WeightOf.f k ((rd_T46 x164002 x5).f1)).bind fun t166 => (cabinetryref03_Weight.l1 k (wrap64 (x3 + (wrap64 (8 + t166)))) (wrap64 (x5 + 1)) x164000 x164001 x164002)) else (none)) else (some x3)
end
def cabinetryref03_Weight.f (k : Nat) (a0_0 : Int) (l0_1 : List (S23)) (l0_2 : List (S46)) : Option (Int) := cabinetryref03_Weight.l0 k (wrap64 (16 * (l0_1.length : Int))) 0 a0_0 l0_1 l0_2
theorem cabinetryref03_Weight.mono_l : ∀ k, (∀ y0 y1 y2 y3 y4, LeO (cabinetryref03_Weight.l0 k y0 y1 y2 y3 y4) (cabinetryref03_Weight.l0 (k + 1) y0 y1 y2 y3 y4)) ∧ (∀ y0 y1 y2 y3 y4, LeO (cabinetryref03_Weight.l1 k y0 y1 y2 y3 y4) (cabinetryref03_Weight.l1 (k + 1) y0 y1 y2 y3 y4))
 | 0 => ⟨fun _ _ _ _ _ r h => by simp [cabinetryref03_Weight.l0] at h, fun _ _ _ _ _ r h => by simp [cabinetryref03_Weight.l1] at h⟩
 | k + 1 => by
  obtain ⟨ih0, ih1⟩ := cabinetryref03_Weight.mono_l k
  refine ⟨?_, ?_⟩
  ·intro y0 y1 y2 y3 y4
   unfold cabinetryref03_Weight.l0
   repeat' first
   | (with_reducible exact ih0 _ _ _ _ _)
   | (with_reducible exact ih1 _ _ _ _ _)
   | (with_reducible exact cabinetryref03_WeightOf.mono _ _)
   | (with_reducible exact LeO.refl _)
   | (with_reducible exact X2 _)
   | (with_reducible refine X4 ?_ ?_)
   | (with_reducible refine X3 ?_ (fun _ => ?_))
   | exact ih0 _ _ _ _ _
   | exact ih1 _ _ _ _ _
   | exact cabinetryref03_WeightOf.mono _ _
   | exact X2 _
   | refine X4 ?_ ?_
   | refine X3 ?_ (fun _ => ?_)
  ·intro y0 y1 y2 y3 y4
   unfold cabinetryref03_Weight.l1
   repeat' first
   | (with_reducible exact ih0 _ _ _ _ _)
   | (with_reducible exact ih1 _ _ _ _ _)
   | (with_reducible exact cabinetryref03_WeightOf.mono _ _)
   | (with_reducible exact LeO.refl _)
   | (with_reducible exact X2 _)
   | (with_reducible refine X4 ?_ ?_)
   | (with_reducible refine X3 ?_ (fun _ => ?_))
   | exact ih0 _ _ _ _ _
   | exact ih1 _ _ _ _ _
   | exact cabinetryref03_WeightOf.mono _ _
   | exact X2 _
   | refine X4 ?_ ?_
   | refine X3 ?_ (fun _ => ?_)
theorem cabinetryref03_Weight.mono : ∀ a0 a1 a2 k, LeO (cabinetryref03_Weight.f k a0 a1 a2) (cabinetryref03_Weight.f (k + 1) a0 a1 a2) := by
 intro a0 a1 a2 k
 obtain ⟨ih0, ih1⟩ := cabinetryref03_Weight.mono_l k
 unfold cabinetryref03_Weight.f
 repeat' first
   | (with_reducible exact ih0 _ _ _ _ _)
   | (with_reducible exact ih1 _ _ _ _ _)
   | (with_reducible exact cabinetryref03_WeightOf.mono _ _)
   | (with_reducible exact LeO.refl _)
   | (with_reducible exact X2 _)
   | (with_reducible refine X4 ?_ ?_)
   | (with_reducible refine X3 ?_ (fun _ => ?_))
   | exact ih0 _ _ _ _ _
   | exact ih1 _ _ _ _ _
   | exact cabinetryref03_WeightOf.mono _ _
   | exact X2 _
   | refine X4 ?_ ?_
   | refine X3 ?_ (fun _ => ?_)
set_option maxHeartbeats 8000000 in
set_option maxRecDepth 100000 in
theorem cabinetryref03_Weight.calls (k : Nat) (a0_0 : Int) (A0_1 : Option Addr) (c0_1 : Nat) (l0_1 : List (S23)) (A0_2 : Option Addr) (c0_2 : Nat) (l0_2 : List (S46)) (r : Int) (w : World) (hr0_1 : Kd.C k23 w A0_1 l0_1.length l0_1) (hc0_1 : l0_1.length ≤ c0_1) (hr0_2 : Kd.C k46 w A0_2 l0_2.length l0_2) (hc0_2 : l0_2.length ≤ c0_2) (h : cabinetryref03_Weight.f k a0_0 l0_1 l0_2 = some r) :
  Calls Tryz.prog 24 #[.agg #[.int .i64 a0_0, .slice A0_1 l0_1.length c0_1, .slice A0_2 l0_2.length c0_2]] w fun e w' => e = .returned (.int .i64 r) ∧ Below w.heap.size w w' := by
 have hu35 := Tryz.underlying35
 have HR0_1 := Z0 hr0_1
 have HC0_1 := Z0 hc0_1
 clear hr0_1 hc0_1
 have HR0_2 := Z0 hr0_2
 have HC0_2 := Z0 hc0_2
 clear hr0_2 hc0_2
 have HB := Z0 (Below.refl w.heap.size w)
 have H : (cabinetryref03_Weight.l0 k (wrap64 (16 * (l0_1.length : Int))) 0 a0_0 l0_1 l0_2) = some r := h
 clear h
 have H' := Z0 H
 clear H
 go_enter Tryz.func24, Tryz.ntmps24
 go_wp2_with (first | ((with_reducible refine X0 (N := 1) rfl ?_); refine Y9 ?hg (N := 1) ?hd (cs := #[.int .i64 a0_0, .slice A0_1 l0_1.length c0_1, .slice A0_2 l0_2.length c0_2]) (t := 35) ?hr ?_; (case hd => rfl); (case hg => rfl); (case hr => go_simp; try rfl); intro gb163 hg w2 hbox hb; have n0_ := Z0 (Y0 HB.out hb); have n1_ := Z0 (hbox); have n3_ := Z0 ((by rw [hg]; exact (Y6 HB.out) : w.heap.size ≤ gb163)); clear HB; have HB := n0_; have BK163 := n1_; have GE163 := n3_; clear n0_ n1_ n3_; clear hb hbox hg; have hcz3_0 : w2.cell? ⟨gb163, 0, none⟩ = some (.int .i64 a0_0) := (Z2 BK163.out 0).trans rfl; have hcz3_1 : w2.cell? ⟨gb163, 1, none⟩ = some (.slice A0_1 l0_1.length c0_1) := (Z2 BK163.out 1).trans rfl; have hcz3_2 : w2.cell? ⟨gb163, 2, none⟩ = some (.slice A0_2 l0_2.length c0_2) := (Z2 BK163.out 2).trans rfl; have hfz3_0 := Z1 BK163.out 0; have hfz3_1 := Z1 BK163.out 1; have hfz3_2 := Z1 BK163.out 2))
 go_loopg [3, 4] k (fun kq v3 v4 w' => ∃ (x3_1 : Int) (x4_1 : Int), v3 = .int .i64 x3_1 ∧ v4 = .int .i64 x4_1 ∧ Aside0 (cabinetryref03_Weight.l0 kq x3_1 x4_1 a0_0 l0_1 l0_2 = some r) ∧ Aside0 (kq ≤ k) ∧ Aside0 (w'.heap[gb163]? = some (.cells #[.int .i64 a0_0, (.slice A0_1 l0_1.length c0_1), (.slice A0_2 l0_2.length c0_2)] 35 (0, 0))) ∧ Aside0 (Below w.heap.size w w'))
 case atStart => exact ⟨(wrap64 (16 * (l0_1.length : Int))), (0), (by first | rfl | (simp; done) | (simp [*]; done)), (by first | rfl | (simp; done) | (simp [*]; done)), H', ⟨Nat.le_refl _⟩, ⟨by (with_reducible repeat (first | refine Y4 ?_ _ | refine Y5 ?_ | refine Y3 ?_ _)); exact BK163.out⟩, ⟨by repeat (first | (with_reducible first | exact HB.out | apply Z7 | apply Z4 | apply Z9 | refine Z8 ?_ GE163.out) | exact HB.out)⟩⟩
 case round =>
  clear H'
  (try clear c2);(try clear p2);(try clear hcz3_0);(try clear hcz3_1);(try clear hcz3_2);(try clear hfz3_0);(try clear hfz3_1);(try clear hfz3_2)
  obtain ⟨x3_1, x4_1, rfl, rfl, HA, HK1, BK163, HB⟩ := hrel
  cases gk with
  | zero => exact absurd HA.out (by simp [cabinetryref03_Weight.l0])
  | succ k1 =>
   have H := HA.out
   clear HA
   simp only [cabinetryref03_Weight.l0] at H
   by_cases c4 : x4_1 < (l0_1.length : Int)
   ·rw [if_pos c4] at H
    have c4b0 : decide (x4_1 < (l0_1.length : Int)) = true := decide_eq_true c4
    clear c4
    by_cases c5 : 0 ≤ x4_1
    ·rw [if_pos c5] at H
     have c5b0 : decide (0 ≤ x4_1) = true := decide_eq_true c5
     clear c5
     have H' := Z0 H
     clear H
     have hcz6_0 : wr.cell? ⟨gb163, 0, none⟩ = some (.int .i64 a0_0) := (Z2 BK163.out 0).trans rfl
     have hcz6_1 : wr.cell? ⟨gb163, 1, none⟩ = some (.slice A0_1 l0_1.length c0_1) := (Z2 BK163.out 1).trans rfl
     have hcz6_2 : wr.cell? ⟨gb163, 2, none⟩ = some (.slice A0_2 l0_2.length c0_2) := (Z2 BK163.out 2).trans rfl
     have hfz6_0 := Z1 BK163.out 0
     have hfz6_1 := Z1 BK163.out 1
     have hfz6_2 := Z1 BK163.out 2
     have p164 : 0 ≤ (x4_1 : Int) := of_decide_eq_true (by first | (with_reducible assumption) | assumption)
     have q164 : x4_1 < (l0_1.length : Int) := of_decide_eq_true (by first | (with_reducible assumption) | assumption)
     obtain ⟨ad164, e164, hx164_0, hx164_1, hx164_2, hx164_3⟩ := at_T23 HR0_1.out x4_1 p164 q164
     cases e164
     replace hx164_0 := (HB.out.cell (World.block_lt_of_cell? w _ hx164_0)).trans hx164_0
     replace hx164_1 := (HB.out.cell (World.block_lt_of_cell? w _ hx164_1)).trans hx164_1
     replace hx164_2 := (HB.out.cell (World.block_lt_of_cell? w _ hx164_2)).trans hx164_2
     replace hx164_3 := (HB.out.cell (World.block_lt_of_cell? w _ hx164_3)).trans hx164_3
     replace p164 := eq_true p164
     replace q164 := eq_true q164
     go_wp2
     go_roundg k1
     case measure => have := HK1.out; omega
     case rel => exact ⟨(wrap64 (x3_1 + (((rd_T23 l0_1 x4_1).f0).size : Int))), (wrap64 (x4_1 + 1)), (by first | rfl | (simp; done) | (simp [*]; done)), (by first | rfl | (simp; done) | (simp [*]; done)), H', ⟨by have := HK1.out; omega⟩, ⟨by (with_reducible repeat (first | refine Y4 ?_ _ | refine Y5 ?_ | refine Y3 ?_ _)); exact BK163.out⟩, ⟨by repeat (first | (with_reducible first | exact HB.out | apply Z7 | apply Z4 | apply Z9 | refine Z8 ?_ GE163.out) | exact HB.out)⟩⟩
    ·rw [if_neg c5] at H
     exact absurd H (by simp)
   ·rw [if_neg c4] at H
    have c4b0 : decide (x4_1 < (l0_1.length : Int)) = false := decide_eq_false c4
    clear c4
    have H' := Z0 H
    clear H
    have hcz7_0 : wr.cell? ⟨gb163, 0, none⟩ = some (.int .i64 a0_0) := (Z2 BK163.out 0).trans rfl
    have hcz7_1 : wr.cell? ⟨gb163, 1, none⟩ = some (.slice A0_1 l0_1.length c0_1) := (Z2 BK163.out 1).trans rfl
    have hcz7_2 : wr.cell? ⟨gb163, 2, none⟩ = some (.slice A0_2 l0_2.length c0_2) := (Z2 BK163.out 2).trans rfl
    have hfz7_0 := Z1 BK163.out 0
    have hfz7_1 := Z1 BK163.out 1
    have hfz7_2 := Z1 BK163.out 2
    go_wp2
    go_loopg [3, 5] k1 (fun kq v3 v5 w' => ∃ (x3_2 : Int) (x5_2 : Int), v3 = .int .i64 x3_2 ∧ v5 = .int .i64 x5_2 ∧ Aside0 (cabinetryref03_Weight.l1 kq x3_2 x5_2 a0_0 l0_1 l0_2 = some r) ∧ Aside0 (kq ≤ k1) ∧ Aside0 (w'.heap[gb163]? = some (.cells #[.int .i64 a0_0, (.slice A0_1 l0_1.length c0_1), (.slice A0_2 l0_2.length c0_2)] 35 (0, 0))) ∧ Aside0 (Below w.heap.size w w'))
    case atStart => exact ⟨(x3_1), (0), (by first | rfl | (simp; done) | (simp [*]; done)), (by first | rfl | (simp; done) | (simp [*]; done)), H', ⟨Nat.le_refl _⟩, ⟨by (with_reducible repeat (first | refine Y4 ?_ _ | refine Y5 ?_ | refine Y3 ?_ _)); exact BK163.out⟩, ⟨by repeat (first | (with_reducible first | exact HB.out | apply Z7 | apply Z4 | apply Z9 | refine Z8 ?_ GE163.out) | exact HB.out)⟩⟩
    case round =>
     clear H'
     (try clear p1);(try clear q1);(try clear hx1);(try clear c2);(try clear p2);(try clear c4);(try clear c4b0);(try clear c5);(try clear c5b0);(try clear p6);(try clear hcz3_0);(try clear hcz3_1);(try clear hcz3_2);(try clear hcz6_0);(try clear hcz6_1);(try clear hcz6_2);(try clear hcz7_0);(try clear hcz7_1);(try clear hcz7_2);(try clear hfz3_0);(try clear hfz3_1);(try clear hfz3_2);(try clear hfz6_0);(try clear hfz6_1);(try clear hfz6_2);(try clear hfz7_0);(try clear hfz7_1);(try clear hfz7_2);(try clear hx164_0);(try clear hx164_1);(try clear hx164_2);(try clear hx164_3);(try clear p164);(try clear p2);(try clear q164)
     obtain ⟨x3_2, x5_2, rfl, rfl, HA, HK2, BK163, HB⟩ := hrel
     cases gk with
     | zero => exact absurd HA.out (by simp [cabinetryref03_Weight.l1])
     | succ k2 =>
      have H := HA.out
      clear HA
      simp only [cabinetryref03_Weight.l1] at H
      by_cases c8 : x5_2 < (l0_2.length : Int)
      ·rw [if_pos c8] at H
       have c8b0 : decide (x5_2 < (l0_2.length : Int)) = true := decide_eq_true c8
       clear c8
       by_cases c9 : 0 ≤ x5_2
       ·rw [if_pos c9] at H
        have c9b0 : decide (0 ≤ x5_2) = true := decide_eq_true c9
        clear c9
        replace H := Option.bind_eq_some_iff.mp H
        obtain ⟨t166, A100, H⟩ := H
        replace H : (cabinetryref03_Weight.l1 k2 (wrap64 (x3_2 + (wrap64 (8 + t166)))) (wrap64 (x5_2 + 1)) a0_0 l0_1 l0_2) = some r := H
        have A10 := Z0 A100
        clear A100
        have H' := Z0 H
        clear H
        have hcz11_0 : wr.cell? ⟨gb163, 0, none⟩ = some (.int .i64 a0_0) := (Z2 BK163.out 0).trans rfl
        have hcz11_1 : wr.cell? ⟨gb163, 1, none⟩ = some (.slice A0_1 l0_1.length c0_1) := (Z2 BK163.out 1).trans rfl
        have hcz11_2 : wr.cell? ⟨gb163, 2, none⟩ = some (.slice A0_2 l0_2.length c0_2) := (Z2 BK163.out 2).trans rfl
        have hfz11_0 := Z1 BK163.out 0
        have hfz11_1 := Z1 BK163.out 1
        have hfz11_2 := Z1 BK163.out 2
        have p165 : 0 ≤ (x5_2 : Int) := of_decide_eq_true (by first | (with_reducible assumption) | assumption)
        have q165 : x5_2 < (l0_2.length : Int) := of_decide_eq_true (by first | (with_reducible assumption) | assumption)
        obtain ⟨ad165, A165_1, c165_1, e165, hx165_0, hx165_1, hl165_1, hi165_1⟩ := at_T46 HR0_2.out x5_2 p165 q165
        cases e165
        replace hx165_0 := (HB.out.cell (World.block_lt_of_cell? w _ hx165_0)).trans hx165_0
        replace hx165_1 := (HB.out.cell (World.block_lt_of_cell? w _ hx165_1)).trans hx165_1
        have HR165_1 := Z0 hi165_1
        have HC165_1 := Z0 hl165_1
        clear hi165_1 hl165_1
        replace p165 := eq_true p165
        replace q165 := eq_true q165
        go_wp2_with (first | ((with_reducible refine X1 (f := 64) rfl ?_); refine goesL_ (some 40) rfl rfl Tryz.func64 (by kernel_rfl) rfl #[.slice A165_1 ((rd_T46 l0_2 x5_2).f1).length c165_1] rfl (by (try simp only [Y2, Y7, Y8]); first | done | rfl) ?_; (with_reducible refine (cabinetryref03_WeightOf.calls k2 _ _ ((rd_T46 l0_2 x5_2).f1) t166 _ ?side1 ?side2 A10.out).mono ?_); (case side1 => repeat (first | exact (Kd.C_below HR165_1.out HB.out) | (with_reducible refine Kd.C_alloc ?_ _) | (with_reducible refine Kd.C_drewN ?_ _) | (with_reducible refine Kd.C_drew ?_))); (case side2 => exact HC165_1.out); rintro e w' ⟨rfl, ⟨nd, rfl⟩⟩; refine ⟨_, rfl, ?_⟩))
        go_roundg k2
        case measure => have := HK1.out; have := HK2.out; omega
        case rel => exact ⟨(wrap64 (x3_2 + (wrap64 (8 + t166)))), (wrap64 (x5_2 + 1)), (by first | rfl | (simp; done) | (simp [*]; done)), (by first | rfl | (simp; done) | (simp [*]; done)), H', ⟨by have := HK1.out; have := HK2.out; omega⟩, ⟨by (with_reducible repeat (first | refine Y4 ?_ _ | refine Y5 ?_ | refine Y3 ?_ _)); exact BK163.out⟩, ⟨by repeat (first | (with_reducible first | exact HB.out | apply Z7 | apply Z4 | apply Z9 | refine Z8 ?_ GE163.out) | exact HB.out)⟩⟩
       ·rw [if_neg c9] at H
        exact absurd H (by simp)
      ·rw [if_neg c8] at H
       have c8b0 : decide (x5_2 < (l0_2.length : Int)) = false := decide_eq_false c8
       clear c8
       obtain rfl := Option.some.inj H
       have hcz12_0 : wr.cell? ⟨gb163, 0, none⟩ = some (.int .i64 a0_0) := (Z2 BK163.out 0).trans rfl
       have hcz12_1 : wr.cell? ⟨gb163, 1, none⟩ = some (.slice A0_1 l0_1.length c0_1) := (Z2 BK163.out 1).trans rfl
       have hcz12_2 : wr.cell? ⟨gb163, 2, none⟩ = some (.slice A0_2 l0_2.length c0_2) := (Z2 BK163.out 2).trans rfl
       have hfz12_0 := Z1 BK163.out 0
       have hfz12_1 := Z1 BK163.out 1
       have hfz12_2 := Z1 BK163.out 2
       go_wp2
       go_ret
       exact ⟨rfl, by repeat (first | (with_reducible first | exact HB.out | apply Z7 | apply Z4 | apply Z9 | refine Z8 ?_ GE163.out) | exact HB.out)⟩
end Go.Proofs.YtldpdidlfbphcaaGreatDoor.P
end
section
namespace Go.Proofs.YtldpdidlfbphcaaGreatDoor.P
open Go.RowKit Go.Proofs.YtldpdidlfbphcaaGreatDoorW.PrintWords Go.Proofs.YtldpdidlfbphcaaGreatDoorW.PrintLast Go.Proofs.YtldpdidlfbphcaaGreatDoorW.PrintMore
theorem rd_drop {l : List S23} {i : Nat} {x : S23} {r : List S23} (h : l.drop i = x :: r) : i < l.length ∧ rd_T23 l (i : Int) = x ∧ l.drop (i + 1) = r ∧ l.take (i + 1) = l.take i ++ [x] := by
 have hl : i < l.length := by
  rcases Nat.lt_or_ge i l.length with h1 | h1
  ·exact h1
  ·rw [List.drop_eq_nil_of_le h1] at h; cases h
 have e := List.drop_eq_getElem_cons hl
 rw [h] at e
 injection e with e1 e2
 refine ⟨hl, ?_, e2.symm, ?_⟩
 ·unfold rd_T23
  rw [Int.toNat_natCast, List.getD_eq_getElem?_getD, List.getElem?_eq_getElem hl, Option.getD_some, e1]
 ·rw [e1]; exact List.take_succ_eq_append_getElem hl
theorem rd_end {α : Type} {l : List α} {i : Nat} (h : l.drop i = []) : ¬ (i : Int) < (l.length : Int) := by
 have := List.drop_eq_nil_iff.1 h
 omega
theorem wrapL {i n : Nat} (h : i < n) (hn : n ≤ 1048576) : wrap64 ((i : Int) + 1) = ((i + 1 : Nat) : Int) := by
 unfold wrap64
 omega
def smallF (l : List S23) : Prop := l.length ≤ 1048576 ∧ ∀ x ∈ l, x.f0.size ≤ 1048576
theorem ref_nulls_go (l : List S23) (hL : l.length ≤ 1048576) : ∀ (r : List S23) (i k acc : Nat), l.drop i = r → r.length < k → acc ≤ i → i ≤ l.length → cabinetryref03_nulls.l0 k l (acc : Int) (i : Int) = some (((acc + nullsN r + 7) / 8 : Nat) : Int)
 | [], i, k, acc, hd, hk, ha, hi => by
  obtain ⟨m, rfl⟩ : ∃ m, k = m + 1 := ⟨k - 1, by simp at hk; omega⟩
  simp only [cabinetryref03_nulls.l0]
  rw [if_neg (rd_end hd)]
  have e : wrap64 ((acc : Int) + 7) = ((acc + 7 : Nat) : Int) := by unfold wrap64; omega
  have e2 : Int.tdiv ((acc + 7 : Nat) : Int) 8 = (((acc + 7) / 8 : Nat) : Int) := rfl
  rw [e, e2]
  refine congrArg some ?_
  unfold nullsN wrap64
  omega
 | x :: r, i, k, acc, hd, hk, ha, hi => by
  obtain ⟨m, rfl⟩ : ∃ m, k = m + 1 := ⟨k - 1, by simp at hk; omega⟩
  obtain ⟨hlt, hx, hr, _⟩ := rd_drop hd
  simp only [cabinetryref03_nulls.l0]
  have e2 : wrap64 ((acc : Int) + 1) = ((acc + 1 : Nat) : Int) := by unfold wrap64; omega
  rw [if_pos (by omega), if_pos (by omega), hx, wrapL hlt hL, e2]
  show _ = some (((acc + ((if x.f3 = true then 1 else 0) + nullsN r) + 7) / 8 : Nat) : Int)
  split
  ·rw [ref_nulls_go l hL r (i + 1) m (acc + 1) hr (by simp at hk; omega) (by omega) (by omega), Nat.add_assoc acc 1]
  ·rw [ref_nulls_go l hL r (i + 1) m acc hr (by simp at hk; omega) (by omega) (by omega), Nat.zero_add]
theorem ref_nulls_is (l : List S23) (hL : l.length ≤ 1048576) (k : Nat) (hk : l.length < k) : cabinetryref03_nulls.f k l = some (((nullsN l + 7) / 8 : Nat) : Int) := by
 have := ref_nulls_go l hL l 0 k 0 List.drop_zero hk (Nat.le_refl _) (Nat.zero_le _)
 rw [Nat.zero_add] at this
 exact this
theorem ref_wide_go (l : List S23) (hL : l.length ≤ 1048576) (hf : l.all fS = true) : ∀ (r : List S23) (i k : Nat) (acc : Int), l.drop i = r → r.length < k → 0 ≤ acc → acc ≤ 1000000000 + 254 * i → cabinetryref03_Wide.l0 k l acc (i : Int) = some (acc + wideN r)
 | [], i, k, acc, hd, hk, ha, hb => by
  obtain ⟨m, rfl⟩ : ∃ m, k = m + 1 := ⟨k - 1, by simp at hk; omega⟩
  simp only [cabinetryref03_Wide.l0]
  rw [if_neg (rd_end hd)]
  refine congrArg some ?_
  unfold wideN
  omega
 | x :: r, i, k, acc, hd, hk, ha, hb => by
  obtain ⟨m, rfl⟩ : ∃ m, k = m + 1 := ⟨k - 1, by simp at hk; omega⟩
  obtain ⟨hlt, hx, hr, _⟩ := rd_drop hd
  have hm : x ∈ l := by rw [← List.take_append_drop i l, hd]; simp
  have hw := fS_width (List.all_eq_true.1 hf _ hm)
  simp only [cabinetryref03_Wide.l0]
  have e2 : wrap64 (acc + x.f2) = acc + x.f2 := by unfold wrap64; omega
  rw [if_pos (by omega), if_pos (by omega), hx, wrapL hlt hL, e2, ref_wide_go l hL hf r (i + 1) m (acc + x.f2) hr (by simp at hk; omega) (by omega) (by omega)]
  refine congrArg some ?_
  show _ = acc + (x.f2 + wideN r)
  omega
theorem ref_wide_is (l : List S23) (hL : l.length ≤ 1048576) (hf : l.all fS = true) (k : Nat) (hk : l.length < k) : cabinetryref03_Wide.f k l = some (lenS l) := by
 unfold cabinetryref03_Wide.f lenS
 have hn := nullsN_le l
 rw [ref_nulls_is l hL k hk, Option.bind_some]
 have e : wrap64 (1 + (((nullsN l + 7) / 8 : Nat) : Int)) = 1 + (((nullsN l + 7) / 8 : Nat) : Int) := by unfold wrap64; omega
 rw [e]
 exact ref_wide_go l hL hf l 0 k _ List.drop_zero hk (by omega) (by omega)
theorem name_eq (a b : ByteArray) : (a.toList = b.toList) ↔ (a == b) = true := by
 rw [ba_toList, ba_toList, show (a == b) = (a.data == b.data) from rfl, beq_iff_eq]
 exact ⟨fun h => Array.ext' h, fun h => by rw [h]⟩
theorem has_snoc (l : List S23) (x : S23) (s : ByteArray) : hasName (l ++ [x]) s = (hasName l s || (s == x.f0)) := by
 unfold hasName
 rw [List.any_append]
 simp
def vfEnd (l : List S23) : Int := if l.length > 16 then 3 else if lenS l > 2000 then 3 else 0
theorem vf_l12 (l : List S23) (hL : l.length ≤ 1048576) (hf : l.all fS = true) (K : Nat) (hK : l.length + 2 < K) : ∀ (r : List S23) (i k : Nat), l.drop i = r → K + (l.length + 2) * r.length < k → cabinetryref03_ValidateFields.l1 k l (i : Int) = some (if dupA (l.take i) r = true then 5 else vfEnd l)
 | [], i, k, hd, hk => by
  obtain ⟨m, rfl⟩ : ∃ m, k = m + 1 := ⟨k - 1, by omega⟩
  simp only [cabinetryref03_ValidateFields.l1]
  rw [if_neg (rd_end hd), show dupA (l.take i) [] = false from rfl, if_neg (show ¬ false = true by decide)]
  unfold vfEnd
  simp only [List.length_nil, Nat.mul_zero] at hk
  by_cases h : l.length > 16
  ·rw [if_pos (by omega), if_pos h]
  ·rw [if_neg (by omega), if_neg h, ref_wide_is l hL hf m (by omega)]
   simp only [Option.bind_some]
   split <;> rfl
 | x :: r, i, k, hd, hk => by
  obtain ⟨m, rfl⟩ : ∃ m, k = m + 1 := ⟨k - 1, by omega⟩
  obtain ⟨hlt, hx, hr, ht⟩ := rd_drop hd
  rw [List.length_cons, Nat.mul_succ] at hk
  simp only [cabinetryref03_ValidateFields.l1]
  rw [if_pos (by omega)]
  have inner : ∀ (n j q : Nat), j + n = i → n + 1 + K + (l.length + 2) * r.length < q + 1 → hasName (l.take j) x.f0 = false → cabinetryref03_ValidateFields.l2 (q + 1) l (i : Int) (j : Int) = some (if dupA (l.take i) (x :: r) = true then 5 else vfEnd l) := by
   intro n
   induction n with
   | zero =>
    intro j q hj hq hn
    obtain rfl : j = i := by omega
    simp only [cabinetryref03_ValidateFields.l2]
    rw [if_neg (by omega), wrapL hlt hL, vf_l12 l hL hf K hK r (j + 1) q hr (by omega), ht]
    show _ = some (if (hasName (l.take j) x.f0 || dupA (l.take j ++ [x]) r) = true then 5 else vfEnd l)
    rw [hn, Bool.false_or]
   | succ n ih =>
    intro j q hj hq hn
    have hjl : j < l.length := by omega
    have hdj := List.drop_eq_getElem_cons hjl
    obtain ⟨_, hy, _, hty⟩ := rd_drop hdj
    simp only [cabinetryref03_ValidateFields.l2]
    rw [if_pos (by omega), if_pos (by omega), if_pos (by omega), if_pos (by omega), if_pos (by omega), hx, hy]
    by_cases he : x.f0.toList = (l[j]).f0.toList
    ·rw [if_pos he]
     have hb := (name_eq _ _).1 he
     have hin : hasName (l.take i) x.f0 = true := by
      unfold hasName
      rw [List.any_eq_true]
      refine ⟨l[j], ?_, hb⟩
      rw [List.mem_take_iff_getElem]
      exact ⟨j, by omega, rfl⟩
     show _ = some (if (hasName (l.take i) x.f0 || dupA (l.take i ++ [x]) r) = true then 5 else vfEnd l)
     rw [hin]
     rfl
    ·rw [if_neg he, wrapL hjl hL]
     obtain ⟨q', rfl⟩ : ∃ q', q = q' + 1 := ⟨q - 1, by omega⟩
     refine ih (j + 1) q' (by omega) (by omega) ?_
     rw [hty, has_snoc, hn, Bool.false_or]
     cases hb : (x.f0 == (l[j]).f0)
     ·rfl
     ·exact absurd ((name_eq _ _).2 hb) he
  obtain ⟨q, rfl⟩ : ∃ q, m = q + 1 := ⟨m - 1, by omega⟩
  exact inner i 0 q (by omega) (by omega) (by rw [List.take_zero]; rfl)
theorem vf_l0 (l : List S23) (h : smallF l) (hK : Nat) : ∀ (r : List S23) (i k : Nat), l.drop i = r → r.length + 1048580 < k → (r.all fS = false → cabinetryref03_ValidateFields.l0 k l (i : Int) = some 1) ∧ (r.all fS = true → ∃ m, m + r.length + 1 = k ∧ cabinetryref03_ValidateFields.l0 k l (i : Int) = cabinetryref03_ValidateFields.l1 m l 0)
 | [], i, k, hd, hk => by
  obtain ⟨m, rfl⟩ : ∃ m, k = m + 1 := ⟨k - 1, by omega⟩
  refine ⟨fun h => by simp at h, fun _ => ⟨m, rfl, ?_⟩⟩
  simp only [cabinetryref03_ValidateFields.l0]
  rw [if_neg (rd_end hd)]
 | x :: r, i, k, hd, hk => by
  obtain ⟨m, rfl⟩ : ∃ m, k = m + 1 := ⟨k - 1, by omega⟩
  obtain ⟨hlt, hx, hr, _⟩ := rd_drop hd
  have hm : x ∈ l := by rw [← List.take_append_drop i l, hd]; simp
  have hs := h.2 x hm
  simp only [List.length_cons] at hk
  have ih := vf_l0 l h hK r (i + 1) m hr (by omega)
  have e : cabinetryref03_ValidateFields.l0 (m + 1) l (i : Int) = if fS x = true then cabinetryref03_ValidateFields.l0 m l ((i + 1 : Nat) : Int) else some 1 := by
   conv => lhs; rw [cabinetryref03_ValidateFields.l0]
   rw [if_pos (by omega), if_pos (by omega), hx, refField_is x.f0 x.f1 x.f2 x.f3 m (by omega), wrapL hlt h.1]
   rfl
  rw [e, List.all_cons]
  by_cases hfx : fS x = true
  ·rw [hfx, if_pos rfl, Bool.true_and]
   refine ⟨ih.1, fun ha => ?_⟩
   obtain ⟨q, hq, he⟩ := ih.2 ha
   exact ⟨q, by simp; omega, he⟩
  ·have hfx' : fS x = false := by simpa using hfx
   rw [hfx', if_neg (by decide)]
   exact ⟨fun _ => rfl, fun ha => by simp at ha⟩
theorem refVF_is (l : List S23) (h : smallF l) : ∃ K, ∀ k, K ≤ k → cabinetryref03_ValidateFields.f k l = some (vfS l) := by
 refine ⟨l.length + 1048590 + (l.length + 3 + (l.length + 2) * l.length), fun k hk => ?_⟩
 unfold cabinetryref03_ValidateFields.f vfS
 by_cases h0 : l.length = 0
 ·rw [if_pos (by omega), if_pos h0]
 ·rw [if_neg (by omega), if_neg h0]
  have a := vf_l0 l h 0 l 0 k List.drop_zero (by omega)
  cases ha : l.all fS
  ·rw [if_pos rfl]
   exact a.1 ha
  ·rw [if_neg (by decide)]
   obtain ⟨m, hm, e⟩ := a.2 ha
   have b := vf_l12 l h.1 ha (l.length + 3) (by omega) l 0 m List.drop_zero (by omega)
   refine e.trans (b.trans ?_)
   rw [List.take_zero]
   unfold vfEnd
   rfl
theorem weightOf_some (l : List S25) (hL : l.length ≤ 1048576) : ∀ (n i k : Nat) (acc : Int), i + n = l.length → n < k → ∃ r, cabinetryref03_WeightOf.l0 k l acc (i : Int) = some r
 | 0, i, k, acc, h, hk => by
  obtain ⟨m, rfl⟩ : ∃ m, k = m + 1 := ⟨k - 1, by omega⟩
  simp only [cabinetryref03_WeightOf.l0]
  rw [if_neg (by omega)]
  exact ⟨_, rfl⟩
 | n + 1, i, k, acc, h, hk => by
  obtain ⟨m, rfl⟩ : ∃ m, k = m + 1 := ⟨k - 1, by omega⟩
  simp only [cabinetryref03_WeightOf.l0]
  rw [if_pos (by omega), if_pos (by omega), wrapL (show i < l.length by omega) hL]
  exact weightOf_some l hL n (i + 1) m _ (by omega) (by omega)
def smallR (l : List S46) : Prop := l.length ≤ 1048576 ∧ ∀ x ∈ l, x.f1.length ≤ 1048576
theorem weight1_some (pg : Int) (fs : List S23) (l : List S46) (hl : smallR l) : ∀ (n i k : Nat) (acc : Int), i + n = l.length → n + 1048577 < k → ∃ r, cabinetryref03_Weight.l1 k acc (i : Int) pg fs l = some r
 | 0, i, k, acc, h, hk => by
  obtain ⟨m, rfl⟩ : ∃ m, k = m + 1 := ⟨k - 1, by omega⟩
  simp only [cabinetryref03_Weight.l1]
  rw [if_neg (by omega)]
  exact ⟨_, rfl⟩
 | n + 1, i, k, acc, h, hk => by
  obtain ⟨m, rfl⟩ : ∃ m, k = m + 1 := ⟨k - 1, by omega⟩
  have hi : i < l.length := by omega
  have hx : rd_T46 l (i : Int) = l[i] := by
   unfold rd_T46
   rw [Int.toNat_natCast, List.getD_eq_getElem?_getD, List.getElem?_eq_getElem hi, Option.getD_some]
  have hs := hl.2 l[i] (List.getElem_mem _)
  obtain ⟨q, hq⟩ := weightOf_some (l[i]).f1 hs (l[i]).f1.length 0 m (wrap64 (8 * ((l[i]).f1.length : Int))) (by omega) (by omega)
  simp only [cabinetryref03_Weight.l1]
  rw [if_pos (by omega), if_pos (by omega), wrapL hi hl.1, hx]
  unfold cabinetryref03_WeightOf.f
  rw [show ((0 : Nat) : Int) = 0 from rfl] at hq
  rw [hq]
  exact weight1_some pg fs l hl n (i + 1) m _ (by omega) (by omega)
theorem weight0_some (pg : Int) (fs : List S23) (l : List S46) (hf : fs.length ≤ 1048576) (hl : smallR l) : ∀ (n i k : Nat) (acc : Int), i + n = fs.length → n + 1 + l.length + 1048577 < k → ∃ r, cabinetryref03_Weight.l0 k acc (i : Int) pg fs l = some r
 | 0, i, k, acc, h, hk => by
  obtain ⟨m, rfl⟩ : ∃ m, k = m + 1 := ⟨k - 1, by omega⟩
  simp only [cabinetryref03_Weight.l0]
  rw [if_neg (by omega)]
  exact weight1_some pg fs l hl l.length 0 m acc (by omega) (by omega)
 | n + 1, i, k, acc, h, hk => by
  obtain ⟨m, rfl⟩ : ∃ m, k = m + 1 := ⟨k - 1, by omega⟩
  simp only [cabinetryref03_Weight.l0]
  rw [if_pos (by omega), if_pos (by omega), wrapL (show i < fs.length by omega) hf]
  exact weight0_some pg fs l hf hl n (i + 1) m _ (by omega) (by omega)
theorem weight_some (pg : Int) (fs : List S23) (l : List S46) (hf : fs.length ≤ 1048576) (hl : smallR l) (k : Nat) (hk : 3200000 < k) : ∃ r, cabinetryref03_Weight.f k pg fs l = some r :=
 weight0_some pg fs l hf hl fs.length 0 k _ (by omega) (by have := hl.1; omega)
end Go.Proofs.YtldpdidlfbphcaaGreatDoor.P
end
section
namespace Go.Proofs.YtldpdidlfbphcaaGreatDoor.R
theorem small_fields {xs : List P.S23} (h : (xs.map g23).sum ≤ 1048576) : P.smallF xs := by
 refine ⟨?_, fun x hx => ?_⟩
 ·have := sum_len g23 1 (fun x => by unfold g23; omega) xs
  omega
 ·have h1 := sum_mem g23 hx
  have h2 : g23 x = x.f0.size + 5 := rfl
  omega
end Go.Proofs.YtldpdidlfbphcaaGreatDoor.R
end
section
namespace Go.Proofs.YtldpdidlfbphcaaGreatDoor.P
open Go.RowKit Go.Proofs.YtldpdidlfbphcaaGreatDoorW.PrintWords Go.Proofs.YtldpdidlfbphcaaGreatDoorW.PrintLast Go.Proofs.YtldpdidlfbphcaaGreatDoorW.PrintMore
attribute [local go_sem] max2_int min2_int max_two min_two max_three min_three max_four min_four
def table_Blank.l0 : Nat → List (S23) → Int → Int → Bool → List (S25) → Option (Bool × (List (S25)) × Int)
 | 0, _, _, _, _, _ => none
 | k + 1, x14, x15, x16, x301000, x301001 => if x16 < x15 then (if 0 ≤ x16 then (if x16 < (x14.length : Int) then ((table_empty.f ((rd_T23 x14 x16).f0) ((rd_T23 x14 x16).f1) ((rd_T23 x14 x16).f2) ((rd_T23 x14 x16).f3)).bind fun bt303 => (if x301001.length < 4398046511104 then (table_Blank.l0 k x14 x15 (wrap64 (x16 + 1)) x301000 (x301001 ++ [(⟨bt303.1, bt303.2.1, bt303.2.2⟩ : S25)])) else (none))) else (none)) else (none)) else (some (x301000, x301001, 0))
def table_Blank.f (k : Nat) (l0 : List (S23)) : Option (Bool × (List (S25)) × Int) := (table_ValidateFields.f l0).bind fun t299 => (if t299 = 0 then (table_Blank.l0 k l0 (l0.length : Int) 0 false ([] : List (S25))) else (some (false, ([] : List (S25)), t299)))
theorem table_Blank.mono_l : ∀ k, (∀ y0 y1 y2 y3 y4, LeO (table_Blank.l0 k y0 y1 y2 y3 y4) (table_Blank.l0 (k + 1) y0 y1 y2 y3 y4))
 | 0 => fun _ _ _ _ _ r h => by simp [table_Blank.l0] at h
 | k + 1 => by
  have ih0 := table_Blank.mono_l k
  ·intro y0 y1 y2 y3 y4
   unfold table_Blank.l0
   repeat' first
   | (with_reducible exact ih0 _ _ _ _ _)
   | (with_reducible exact LeO.refl _)
   | (with_reducible exact X2 _)
   | (with_reducible refine X4 ?_ ?_)
   | (with_reducible refine X3 ?_ (fun _ => ?_))
   | exact ih0 _ _ _ _ _
   | exact X2 _
   | refine X4 ?_ ?_
   | refine X3 ?_ (fun _ => ?_)
theorem table_Blank.mono : ∀ a0 k, LeO (table_Blank.f k a0) (table_Blank.f (k + 1) a0) := by
 intro a0 k
 have ih0 := table_Blank.mono_l k
 unfold table_Blank.f
 repeat' first
   | (with_reducible exact ih0 _ _ _ _ _)
   | (with_reducible exact LeO.refl _)
   | (with_reducible exact X2 _)
   | (with_reducible refine X4 ?_ ?_)
   | (with_reducible refine X3 ?_ (fun _ => ?_))
   | exact ih0 _ _ _ _ _
   | exact X2 _
   | refine X4 ?_ ?_
   | refine X3 ?_ (fun _ => ?_)
def table_Blank.T8 : Bool × List (List Nat × List Nat) := (true, [([], []), ([0], [0]), ([], []), ([2], [2]), ([3], [3]), ([1, 4, 3], [1, 4]), ([0, 1, 2, 3, 4, 5], []), ([6, 5, 5, 0, 1, 2, 3, 4, 5], [5, 6])])
def table_Blank.B8 : List Nat := [0, 1, 0, 4, 12, 31, 63, 127]
theorem table_Blank.tab8 : rtab .any (opsOf Tryz.f25 8) = table_Blank.T8 := by kernel_rfl
theorem table_Blank.bits8 : waitsOk table_Blank.T8.2 table_Blank.B8 = true := by kernel_rfl
set_option maxHeartbeats 8000000 in
set_option maxRecDepth 100000 in
theorem table_Blank.calls (k : Nat) (A0 : Option Addr) (c0 : Nat) (l0 : List (S23)) (r1 : Bool) (r2 : List (S25)) (r3 : Int) (w : World) (hr0 : Kd.C k23 w A0 l0.length l0) (hc0 : l0.length ≤ c0) (h : table_Blank.f k l0 = some (r1, r2, r3)) :
  Calls Tryz.prog 25 #[.slice A0 l0.length c0] w fun e w' => ∃ v1_ : Value, e = .returned (.tuple #[.agg #[.bool r1, v1_], .int .i64 r3]) ∧ Kd.R k25 25 w' w.heap.size (fun _ => True) v1_ r2 ∧ Below w.heap.size w w' := by
 have hu46 := Tryz.underlying46
 have hu23 := Tryz.underlying23
 have HR0 := Z0 hr0
 have HC0 := Z0 hc0
 clear hr0 hc0
 have HB := Z0 (Below.refl w.heap.size w)
 have H : ((table_ValidateFields.f l0).bind fun t299 => (if t299 = 0 then (table_Blank.l0 k l0 (l0.length : Int) 0 false ([] : List (S25))) else (some (false, ([] : List (S25)), t299)))) = some (r1, r2, r3) := h
 clear h
 replace H := Option.bind_eq_some_iff.mp H
 obtain ⟨t299, A20, H⟩ := H
 replace H : (if t299 = 0 then (table_Blank.l0 k l0 (l0.length : Int) 0 false ([] : List (S25))) else (some (false, ([] : List (S25)), t299))) = some (r1, r2, r3) := H
 have A2 := Z0 A20
 clear A20
 by_cases c3 : t299 = 0
 ·rw [if_pos c3] at H
  have c3b0 : (t299 == 0) = true := beq_iff_eq.mpr c3
  have c3b1 : (t299 != 0) = false := bne_eq_false_iff_eq.mpr c3
  clear c3
  have H' := Z0 H
  clear H
  go_enter Tryz.func25, Tryz.ntmps25
  go_wp2_with (first | ((with_reducible refine X0 (N := 2) rfl ?_); refine Y9 ?hg (N := 2) ?hd (cs := #[.bool false, .slice none 0 0]) (t := 46) ?hr ?_; (case hd => rfl); (case hg => rfl); (case hr => go_simp; try rfl); intro gb298 hg w4 hbox hb; have n0_ := Z0 (Y0 HB.out hb); have n1_ := Z0 (hbox); have n3_ := Z0 ((by rw [hg]; exact (Y6 HB.out) : w.heap.size ≤ gb298)); clear HB; have HB := n0_; have BK298 := n1_; have GE298 := n3_; clear n0_ n1_ n3_; clear hb hbox hg) | ((with_reducible refine X1 (f := 36) rfl ?_); refine goesL_ (some 9) rfl rfl Tryz.func36 (by kernel_rfl) rfl #[.slice A0 l0.length c0] rfl (by (try simp only [Y2, Y7, Y8]); first | done | rfl) ?_; (with_reducible refine (table_ValidateFields.calls _ _ l0 t299 _ ?side1 ?side2 A2.out).mono ?_); (case side1 => repeat (first | exact (Kd.C_below HR0.out HB.out) | (with_reducible refine Kd.C_alloc ?_ _) | (with_reducible refine Kd.C_drewN ?_ _) | (with_reducible refine Kd.C_drew ?_))); (case side2 => exact HC0.out); rintro e w5 ⟨rfl, hb⟩; refine ⟨_, rfl, ?_⟩; have n0_ := Z0 (Y1 (g := gb298) (o := .cells #[.bool false, .slice none 0 0] 46 (0, 0)) BK298.out hb); have n1_ := Z0 (Y0 HB.out hb); clear BK298; clear HB; have BK298 := n0_; have HB := n1_; clear n0_ n1_; (try clear hb); (try clear hb2); (try clear hk); (try clear hi)) | ((with_reducible refine X0 (N := 5) rfl ?_); refine Y9 ?hg (N := 5) ?hd (cs := #[.bool false, .slice none 0 0]) (t := 46) ?hr ?_; (case hd => rfl); (case hg => rfl); (case hr => go_simp; try rfl); intro gb300 hg w6 hbox hb; have n0_ := Z0 (Y1 (g := gb298) (o := .cells #[.bool false, .slice none 0 0] 46 (0, 0)) BK298.out hb); have n1_ := Z0 (Y0 HB.out hb); have n2_ := Z0 (hbox); have n4_ := Z0 ((by rw [hg]; exact (Y6 HB.out) : w.heap.size ≤ gb300)); have n5_ := Z0 ((by rw [hg]; exact Nat.ne_of_lt (blk_lt (g := gb298) (o := .cells #[.bool false, .slice none 0 0] 46 (0, 0)) BK298.out) : gb298 ≠ gb300)); have n6_ := Z0 ((by rw [hg]; exact Nat.ne_of_gt (blk_lt (g := gb298) (o := .cells #[.bool false, .slice none 0 0] 46 (0, 0)) BK298.out) : gb300 ≠ gb298)); clear BK298; clear HB; have BK298 := n0_; have HB := n1_; have BK300 := n2_; have GE300 := n4_; have NB298_300 := n5_; have NB300_298 := n6_; clear n0_ n1_ n2_ n4_ n5_ n6_; clear hb hbox hg))
  go_loopg [16] k (fun kq v16 w' => ∃ (x16_1 : Int) (x301001_1 : List (S25)) (u301001 : Value), v16 = .int .i64 x16_1 ∧ Aside0 (table_Blank.l0 kq l0 (l0.length : Int) x16_1 false x301001_1 = some (r1, r2, r3)) ∧ Aside0 (kq ≤ k) ∧ Aside0 (Kd.R k25 25 w' w.heap.size (fun _ => True) u301001 x301001_1) ∧ Aside0 (w'.heap[gb298]? = some (.cells #[.bool false, (.slice none 0 0)] 46 (0, 0))) ∧ Aside0 (w'.heap[gb300]? = some (.cells #[.bool false, u301001] 46 (0, 0))) ∧ Aside0 (Below w.heap.size w w'))
  case atStart => exact ⟨(0), (([] : List (S25))), (.slice none 0 0), (by first | rfl | (simp; done) | (simp [*]; done)), H', ⟨Nat.le_refl _⟩, ⟨by first | exact Kd.R_nil _ _ _ _ _ | exact Kd.N_nil _ _ _ _ _ | exact Kd.V_nil _ _ _ _ _ | exact Kd.Q_nil _ _ _ _ _ | exact Kd.S_nil _ _ _ _ _⟩, ⟨by (with_reducible repeat (first | refine Y4 ?_ _ | refine Y5 ?_ | refine Y3 ?_ _)); exact BK298.out⟩, ⟨by (with_reducible repeat (first | refine Y4 ?_ _ | refine Y5 ?_ | refine Y3 ?_ _)); exact BK300.out⟩, ⟨by repeat (first | (with_reducible first | exact HB.out | apply Z7 | apply Z4 | apply Z9 | refine Z8 ?_ GE298.out | refine Z8 ?_ GE300.out) | exact HB.out)⟩⟩
  case round =>
   clear H'
   (try clear c2);(try clear p2);(try clear c3);(try clear c3b0);(try clear c3b1)
   obtain ⟨x16_1, x301001_1, u301001, rfl, HA, HK1, HO_301001, BK298, BK300, HB⟩ := hrel
   cases gk with
   | zero => exact absurd HA.out (by simp [table_Blank.l0])
   | succ k1 =>
    have H := HA.out
    clear HA
    simp only [table_Blank.l0] at H
    by_cases c7 : x16_1 < (l0.length : Int)
    ·rw [if_pos c7] at H
     have c7b0 : decide (x16_1 < (l0.length : Int)) = true := decide_eq_true c7
     clear c7
     by_cases c8 : 0 ≤ x16_1
     ·rw [if_pos c8] at H
      have c8b0 : decide (0 ≤ x16_1) = true := decide_eq_true c8
      clear c8
      by_cases c9 : x16_1 < (l0.length : Int)
      ·rw [if_pos c9] at H
       have c9b0 : decide (x16_1 < (l0.length : Int)) = true := decide_eq_true c9
       clear c9
       replace H := Option.bind_eq_some_iff.mp H
       obtain ⟨⟨t303, t304, t305⟩, A100, H⟩ := H
       replace H : (if x301001_1.length < 4398046511104 then (table_Blank.l0 k1 l0 (l0.length : Int) (wrap64 (x16_1 + 1)) false (x301001_1 ++ [(⟨t303, t304, t305⟩ : S25)])) else (none)) = some (r1, r2, r3) := H
       have A10 := Z0 A100
       clear A100
       by_cases c11 : x301001_1.length < 4398046511104
       ·rw [if_pos c11] at H
        have LMc11 := Z0 c11
        clear c11
        obtain ⟨y306, hy306⟩ : ∃ y_ : List (S25), y_ = (x301001_1 ++ [(⟨t303, t304, t305⟩ : S25)]) := ⟨_, rfl⟩
        replace H : (table_Blank.l0 k1 l0 (l0.length : Int) (wrap64 (x16_1 + 1)) false y306) = some (r1, r2, r3) := by rw [hy306]; exact H
        have Ny306 := Z0 hy306
        clear hy306
        have H' := Z0 H
        clear H
        have p301 : 0 ≤ (x16_1 : Int) := of_decide_eq_true (by first | (with_reducible assumption) | assumption)
        have q301 : x16_1 < (l0.length : Int) := of_decide_eq_true (by first | (with_reducible assumption) | assumption)
        obtain ⟨ad301, e301, hx301_0, hx301_1, hx301_2, hx301_3⟩ := at_T23 HR0.out x16_1 p301 q301
        cases e301
        replace hx301_0 := (HB.out.cell (World.block_lt_of_cell? w _ hx301_0)).trans hx301_0
        replace hx301_1 := (HB.out.cell (World.block_lt_of_cell? w _ hx301_1)).trans hx301_1
        replace hx301_2 := (HB.out.cell (World.block_lt_of_cell? w _ hx301_2)).trans hx301_2
        replace hx301_3 := (HB.out.cell (World.block_lt_of_cell? w _ hx301_3)).trans hx301_3
        replace p301 := eq_true p301
        replace q301 := eq_true q301
        try go_wp2_with (first | ((with_reducible refine X0 (N := 7) rfl ?_); refine Y9 ?hg (N := 7) ?hd (cs := #[.string (⟨#[]⟩ : ByteArray), .int .i64 0, .int .i64 0, .bool false]) (t := 23) ?hr ?_; (case hd => rfl); (case hg => rfl); (case hr => go_simp; try rfl); intro gb302 hg w12 hbox hb; have n0_ := Z0 (Kd.R_below HO_301001.out hb); have n1_ := Z0 (Y1 (g := gb298) (o := .cells #[.bool false, .slice none 0 0] 46 (0, 0)) BK298.out hb); have n2_ := Z0 (Y1 (g := gb300) (o := .cells #[.bool false, u301001] 46 (0, 0)) BK300.out hb); have n3_ := Z0 (Y0 HB.out hb); have n4_ := Z0 (hbox); have n6_ := Z0 ((by rw [hg]; exact (Y6 HB.out) : w.heap.size ≤ gb302)); have n7_ := Z0 ((by rw [hg]; exact Nat.ne_of_lt (blk_lt (g := gb298) (o := .cells #[.bool false, .slice none 0 0] 46 (0, 0)) BK298.out) : gb298 ≠ gb302)); have n8_ := Z0 ((by rw [hg]; exact Nat.ne_of_gt (blk_lt (g := gb298) (o := .cells #[.bool false, .slice none 0 0] 46 (0, 0)) BK298.out) : gb302 ≠ gb298)); have n9_ := Z0 ((by rw [hg]; exact Nat.ne_of_lt (blk_lt (g := gb300) (o := .cells #[.bool false, u301001] 46 (0, 0)) BK300.out) : gb300 ≠ gb302)); have n10_ := Z0 ((by rw [hg]; exact Nat.ne_of_gt (blk_lt (g := gb300) (o := .cells #[.bool false, u301001] 46 (0, 0)) BK300.out) : gb302 ≠ gb300)); clear HO_301001; clear BK298; clear BK300; clear HB; have HO_301001 := n0_; have BK298 := n1_; have BK300 := n2_; have HB := n3_; have BK302 := n4_; have GE302 := n6_; have NB298_302 := n7_; have NB302_298 := n8_; have NB300_302 := n9_; have NB302_300 := n10_; clear n0_ n1_ n2_ n3_ n4_ n6_ n7_ n8_ n9_ n10_; clear hb hbox hg; have hnb13 := NB302_298.out; have hnc13 := NB298_302.out; have hnb14 := NB302_300.out; have hnc14 := NB300_302.out; have hcz15_0 : w12.cell? ⟨gb302, 0, none⟩ = some (.string (⟨#[]⟩ : ByteArray)) := (Z2 BK302.out 0).trans rfl; have hcz15_1 : w12.cell? ⟨gb302, 1, none⟩ = some (.int .i64 0) := (Z2 BK302.out 1).trans rfl; have hcz15_2 : w12.cell? ⟨gb302, 2, none⟩ = some (.int .i64 0) := (Z2 BK302.out 2).trans rfl; have hcz15_3 : w12.cell? ⟨gb302, 3, none⟩ = some (.bool false) := (Z2 BK302.out 3).trans rfl; have hfz15_0 := Z1 BK302.out 0; have hfz15_1 := Z1 BK302.out 1; have hfz15_2 := Z1 BK302.out 2; have hfz15_3 := Z1 BK302.out 3))
        have n0_ : Aside0 (Kd.R k25 25 ((((w12.setCell ⟨gb302, 0, none⟩ (.string ((rd_T23 l0 x16_1).f0))).setCell ⟨gb302, 1, none⟩ (.int .i64 ((rd_T23 l0 x16_1).f1))).setCell ⟨gb302, 2, none⟩ (.int .i64 ((rd_T23 l0 x16_1).f2))).setCell ⟨gb302, 3, none⟩ (.bool ((rd_T23 l0 x16_1).f3))) w.heap.size (fun _ => True) u301001 x301001_1) := ⟨by (with_reducible repeat (first | apply Kd.R_alloc | apply Kd.R_drewN | apply Kd.R_drew)); exact Kd.R_mono (Kd.R_far (p := ⟨gb302, 3, none⟩) (Kd.R_far (p := ⟨gb302, 2, none⟩) (Kd.R_far (p := ⟨gb302, 1, none⟩) (Kd.R_far (p := ⟨gb302, 0, none⟩) (Kd.R_types HO_301001.out BK302.out (by decide)) (fun _ hk => hk.2) (.string ((rd_T23 l0 x16_1).f0))) (fun _ hk => hk.2) (.int .i64 ((rd_T23 l0 x16_1).f1))) (fun _ hk => hk.2) (.int .i64 ((rd_T23 l0 x16_1).f2))) (fun _ hk => hk.2) (.bool ((rd_T23 l0 x16_1).f3))) (fun _ hk => trivial)⟩
        have n1_ : Aside0 (((((w12.setCell ⟨gb302, 0, none⟩ (.string ((rd_T23 l0 x16_1).f0))).setCell ⟨gb302, 1, none⟩ (.int .i64 ((rd_T23 l0 x16_1).f1))).setCell ⟨gb302, 2, none⟩ (.int .i64 ((rd_T23 l0 x16_1).f2))).setCell ⟨gb302, 3, none⟩ (.bool ((rd_T23 l0 x16_1).f3))).heap[gb298]? = some (.cells #[.bool false, .slice none 0 0] 46 (0, 0))) := ⟨by (with_reducible repeat (first | refine Y4 ?_ _ | refine Y5 ?_ | refine Y3 ?_ _)); refine blk_far ?_ NB298_302.out _; (with_reducible repeat (first | refine Y4 ?_ _ | refine Y5 ?_ | refine Y3 ?_ _)); refine blk_far ?_ NB298_302.out _; (with_reducible repeat (first | refine Y4 ?_ _ | refine Y5 ?_ | refine Y3 ?_ _)); refine blk_far ?_ NB298_302.out _; (with_reducible repeat (first | refine Y4 ?_ _ | refine Y5 ?_ | refine Y3 ?_ _)); refine blk_far ?_ NB298_302.out _; (with_reducible repeat (first | refine Y4 ?_ _ | refine Y5 ?_ | refine Y3 ?_ _)); exact BK298.out⟩
        have n2_ : Aside0 (((((w12.setCell ⟨gb302, 0, none⟩ (.string ((rd_T23 l0 x16_1).f0))).setCell ⟨gb302, 1, none⟩ (.int .i64 ((rd_T23 l0 x16_1).f1))).setCell ⟨gb302, 2, none⟩ (.int .i64 ((rd_T23 l0 x16_1).f2))).setCell ⟨gb302, 3, none⟩ (.bool ((rd_T23 l0 x16_1).f3))).heap[gb300]? = some (.cells #[.bool false, u301001] 46 (0, 0))) := ⟨by (with_reducible repeat (first | refine Y4 ?_ _ | refine Y5 ?_ | refine Y3 ?_ _)); refine blk_far ?_ NB300_302.out _; (with_reducible repeat (first | refine Y4 ?_ _ | refine Y5 ?_ | refine Y3 ?_ _)); refine blk_far ?_ NB300_302.out _; (with_reducible repeat (first | refine Y4 ?_ _ | refine Y5 ?_ | refine Y3 ?_ _)); refine blk_far ?_ NB300_302.out _; (with_reducible repeat (first | refine Y4 ?_ _ | refine Y5 ?_ | refine Y3 ?_ _)); refine blk_far ?_ NB300_302.out _; (with_reducible repeat (first | refine Y4 ?_ _ | refine Y5 ?_ | refine Y3 ?_ _)); exact BK300.out⟩
        have n3_ : Aside0 (((((w12.setCell ⟨gb302, 0, none⟩ (.string ((rd_T23 l0 x16_1).f0))).setCell ⟨gb302, 1, none⟩ (.int .i64 ((rd_T23 l0 x16_1).f1))).setCell ⟨gb302, 2, none⟩ (.int .i64 ((rd_T23 l0 x16_1).f2))).setCell ⟨gb302, 3, none⟩ (.bool ((rd_T23 l0 x16_1).f3))).heap[gb302]? = some (.cells #[.string ((rd_T23 l0 x16_1).f0), .int .i64 ((rd_T23 l0 x16_1).f1), .int .i64 ((rd_T23 l0 x16_1).f2), .bool ((rd_T23 l0 x16_1).f3)] 23 (0, 0))) := ⟨by (with_reducible repeat (first | refine Y4 ?_ _ | refine Y5 ?_ | refine Y3 ?_ _)); refine X7 (cs := #[.string ((rd_T23 l0 x16_1).f0), .int .i64 ((rd_T23 l0 x16_1).f1), .int .i64 ((rd_T23 l0 x16_1).f2), .bool false]) ?_ 3 _ rfl; (with_reducible repeat (first | refine Y4 ?_ _ | refine Y5 ?_ | refine Y3 ?_ _)); refine X7 (cs := #[.string ((rd_T23 l0 x16_1).f0), .int .i64 ((rd_T23 l0 x16_1).f1), .int .i64 0, .bool false]) ?_ 2 _ rfl; (with_reducible repeat (first | refine Y4 ?_ _ | refine Y5 ?_ | refine Y3 ?_ _)); refine X7 (cs := #[.string ((rd_T23 l0 x16_1).f0), .int .i64 0, .int .i64 0, .bool false]) ?_ 1 _ rfl; (with_reducible repeat (first | refine Y4 ?_ _ | refine Y5 ?_ | refine Y3 ?_ _)); refine X7 (cs := #[.string (⟨#[]⟩ : ByteArray), .int .i64 0, .int .i64 0, .bool false]) ?_ 0 _ rfl; (with_reducible repeat (first | refine Y4 ?_ _ | refine Y5 ?_ | refine Y3 ?_ _)); exact BK302.out⟩
        have n4_ : Aside0 (Below w.heap.size w ((((w12.setCell ⟨gb302, 0, none⟩ (.string ((rd_T23 l0 x16_1).f0))).setCell ⟨gb302, 1, none⟩ (.int .i64 ((rd_T23 l0 x16_1).f1))).setCell ⟨gb302, 2, none⟩ (.int .i64 ((rd_T23 l0 x16_1).f2))).setCell ⟨gb302, 3, none⟩ (.bool ((rd_T23 l0 x16_1).f3)))) := ⟨by repeat (first | (with_reducible first | exact HB.out | apply Z7 | apply Z4 | apply Z9 | refine Z8 ?_ GE298.out | refine Z8 ?_ GE300.out | refine Z8 ?_ GE302.out) | exact HB.out)⟩
        (try clear HO_301001)
        (try clear BK298)
        (try clear BK300)
        (try clear BK302)
        (try clear HB)
        generalize ((((w12.setCell ⟨gb302, 0, none⟩ (.string ((rd_T23 l0 x16_1).f0))).setCell ⟨gb302, 1, none⟩ (.int .i64 ((rd_T23 l0 x16_1).f1))).setCell ⟨gb302, 2, none⟩ (.int .i64 ((rd_T23 l0 x16_1).f2))).setCell ⟨gb302, 3, none⟩ (.bool ((rd_T23 l0 x16_1).f3))) = w16 at n0_ n1_ n2_ n3_ n4_ ⊢
        have HO_301001 := n0_
        have BK298 := n1_
        have BK300 := n2_
        have BK302 := n3_
        have HB := n4_
        clear n0_ n1_ n2_ n3_ n4_
        have n0_ := Z0 (Kd.R_drew HO_301001.out)
        have n1_ := Z0 (Y5 BK298.out)
        have n2_ := Z0 (Y5 BK300.out)
        have n3_ := Z0 (Y5 BK302.out)
        have n4_ := Z0 (Z9 HB.out)
        clear HO_301001
        clear BK298
        clear BK300
        clear BK302
        clear HB
        have HO_301001 := n0_
        have BK298 := n1_
        have BK300 := n2_
        have BK302 := n3_
        have HB := n4_
        clear n0_ n1_ n2_ n3_ n4_
        refine start_ (n := 8) (S := fun w' => w'.cell? ⟨gb300, 0, none⟩ = some (.bool false) ∧ w'.cell? ⟨gb300, 1, none⟩ = some (u301001) ∧ w'.cell? ⟨gb302, 0, none⟩ = some (.string ((rd_T23 l0 x16_1).f0)) ∧ w'.cell? ⟨gb302, 1, none⟩ = some (.int .i64 ((rd_T23 l0 x16_1).f1)) ∧ w'.cell? ⟨gb302, 2, none⟩ = some (.int .i64 ((rd_T23 l0 x16_1).f2)) ∧ w'.cell? ⟨gb302, 3, none⟩ = some (.bool ((rd_T23 l0 x16_1).f3))) (ds := [7]) #[false, false, false, false, false, false, false, false] (by kernel_rfl) rfl rfl ⟨(Z2 BK300.out 0).trans rfl, (Z2 BK300.out 1).trans rfl, (Z2 BK302.out 0).trans rfl, (Z2 BK302.out 1).trans rfl, (Z2 BK302.out 2).trans rfl, (Z2 BK302.out 3).trans rfl⟩ (fun hHeld => ?_); refine with_tabW table_Blank.tab8 table_Blank.bits8 (fun HT_ HW_ => ?_)
        generalize w16.drew = w17 at HO_301001 BK298 BK300 BK302 HB hHeld ⊢
        refine pure_ (i := 0) (N := some 20) (v := ?_) (a' := ?_) #[true, false, false, false, false, false, false, false] rfl rfl (any_of HT_.out (by kernel_rfl)) (fun _ _ _ h => h) (Or.inl ⟨by rfl, ?_⟩) ?_ ?_
        rotate_left
        ·intro w'
         go_simp
         with_reducible rfl
        rotate_left
        ·simp only [Act.put, Z3, Z5, Z6, i64_w, i32_w]
         rfl
        refine take_ (i := 1) (N := some 21) (v := ?_) (a' := ?_) #[true, true, false, false, false, false, false, false] rfl rfl (take_ofW HT_.out HW_.out (by kernel_rfl)) (fun _ _ _ h => h) (Or.inl ⟨by rfl, ?_⟩) hHeld ?_ ?_
        rotate_left
        ·rintro w' ⟨s0, s1, s2, s3, s4, s5⟩
         go_simp
         with_reducible rfl
        rotate_left
        ·simp only [Act.put, Z3, Z5, Z6, i64_w, i32_w]
         rfl
        refine take_ (i := 2) (N := some 22) (v := ?_) (a' := ?_) #[true, true, true, false, false, false, false, false] rfl rfl (take_ofW HT_.out HW_.out (by kernel_rfl)) (fun _ _ _ h => h) (Or.inl ⟨by rfl, ?_⟩) hHeld ?_ ?_
        rotate_left
        ·rintro w' ⟨s0, s1, s2, s3, s4, s5⟩
         go_simp
         with_reducible rfl
        rotate_left
        ·simp only [Act.put, Z3, Z5, Z6, i64_w, i32_w]
         rfl
        refine one_ (i := 3) (N := some 23) #[true, true, true, true, false, false, false, false] rfl rfl (one_of HT_.out (by kernel_rfl)) (by decide) (fun K hK => ?_)
        refine goes_ Tryz.func50 (by kernel_rfl) rfl #[.agg #[.string ((rd_T23 l0 x16_1).f0), .int .i64 ((rd_T23 l0 x16_1).f1), .int .i64 ((rd_T23 l0 x16_1).f2), .bool ((rd_T23 l0 x16_1).f3)]] (by rfl) rfl rfl (by (try simp only [Y2, Y7, Y8]); first | done | rfl) ?_
        with_reducible refine (table_empty.calls ((rd_T23 l0 x16_1).f0) ((rd_T23 l0 x16_1).f1) ((rd_T23 l0 x16_1).f2) ((rd_T23 l0 x16_1).f3) t303 t304 t305 _ A10.out).mono ?_
        rintro e w18 ⟨rfl, hb⟩
        refine ⟨_, rfl, ?_⟩
        have n0_ := Z0 (Kd.R_below HO_301001.out hb)
        have n1_ := Z0 (Y1 (g := gb298) (o := .cells #[.bool false, .slice none 0 0] 46 (0, 0)) BK298.out hb)
        have n2_ := Z0 (Y1 (g := gb300) (o := .cells #[.bool false, u301001] 46 (0, 0)) BK300.out hb)
        have n3_ := Z0 (Y1 (g := gb302) (o := .cells #[.string ((rd_T23 l0 x16_1).f0), .int .i64 ((rd_T23 l0 x16_1).f1), .int .i64 ((rd_T23 l0 x16_1).f2), .bool ((rd_T23 l0 x16_1).f3)] 23 (0, 0)) BK302.out hb)
        have n4_ := Z0 (Y0 HB.out hb)
        clear HO_301001
        clear BK298
        clear BK300
        clear BK302
        clear HB
        have HO_301001 := n0_
        have BK298 := n1_
        have BK300 := n2_
        have BK302 := n3_
        have HB := n4_
        clear n0_ n1_ n2_ n3_ n4_
        (try clear hb)
        (try clear hb2)
        (try clear hk)
        (try clear hi)
        refine hK.out _ _ ⟨(Z2 BK300.out 0).trans rfl, (Z2 BK300.out 1).trans rfl, (Z2 BK302.out 0).trans rfl, (Z2 BK302.out 1).trans rfl, (Z2 BK302.out 2).trans rfl, (Z2 BK302.out 3).trans rfl⟩ (fun hHeld => ?_)
        clear hK K
        refine norm_ (a' := ?_) ?_ ?_
        rotate_left
        ·show Act.put _ (some 23) _ = _
         simp only [Act.put, Z3, Z5, Z6, i64_w, i32_w]
         rfl
        refine one_ (i := 4) (N := some 24) #[true, true, true, true, true, false, false, false] rfl rfl (one_of HT_.out (by kernel_rfl)) (by decide) (fun K hK => ?_)
        refine value_ (w1 := ?_) (v := ?_) (by rfl) rfl ?_ ?_
        rotate_left 2
        ·go_simp
         constructor
         ·rfl
         ·rfl
        refine hK.out _ _ ⟨(Z2 (Y3 BK300.out _) 0).trans rfl, (Z2 (Y3 BK300.out _) 1).trans rfl, (Z2 (Y3 BK302.out _) 0).trans rfl, (Z2 (Y3 BK302.out _) 1).trans rfl, (Z2 (Y3 BK302.out _) 2).trans rfl, (Z2 (Y3 BK302.out _) 3).trans rfl⟩ (fun hHeld => ?_)
        clear hK K
        refine norm_ (a' := ?_) ?_ ?_
        rotate_left
        ·show Act.put _ (some 24) _ = _
         simp only [Act.put, Z3, Z5, Z6, i64_w, i32_w]
         rfl
        refine one_ (i := 5) (N := some 25) #[true, true, true, true, true, true, false, false] rfl rfl (one_of HT_.out (by kernel_rfl)) (by decide) (fun K hK => ?_)
        refine Kd.R_append_step k25 (w0 := w) w.heap.size (by rfl) (.tmp 21) (.tmp 24) 44 25 (.agg #[(.int .i64 0), (.int .i64 0), (.string ⟨#[]⟩)]) 32 rfl Tryz.underlying44 info25 rfl (by decide) (by omega) u301001 x301001_1 (⟨t303, t304, t305⟩ : S25) [.int .i64 t303, .int .i64 t304, .string t305] (fun _ => True) (fun _ => False) rfl rfl ?aP (fun _ hk => hk.elim) ?aF ?aO ?aB ?aS ?aL ?_
        (case aP => exact k25_mkM _ _ _ (⟨t303, t304, t305⟩ : S25))
        (case aB => exact HB.out)
        (case aF => exact (fun _ _ => trivial))
        (case aO => exact HO_301001.out)
        (case aS => exact (Y6 HB.out))
        (case aL => have := LMc11.out; omega)
        intro v307 w19 ho hb hg hat
        rw [← Ny306.out] at ho
        have n0_ := Z0 (blk_grown (g := gb298) (o := .cells #[.bool false, .slice none 0 0] 46 (0, 0)) BK298.out hg (Kd.R_ne HO_301001.out BK298.out (by decide)))
        have n1_ := Z0 (blk_grown (g := gb300) (o := .cells #[.bool false, u301001] 46 (0, 0)) BK300.out hg (Kd.R_ne HO_301001.out BK300.out (by decide)))
        have n2_ := Z0 (blk_grown (g := gb302) (o := .cells #[.string ((rd_T23 l0 x16_1).f0), .int .i64 ((rd_T23 l0 x16_1).f1), .int .i64 ((rd_T23 l0 x16_1).f2), .bool ((rd_T23 l0 x16_1).f3)] 23 (0, 0)) BK302.out hg (Kd.R_ne HO_301001.out BK302.out (by decide)))
        have n3_ := Z0 (hb)
        have n4_ := Z0 (ho)
        clear BK298
        clear BK300
        clear BK302
        clear HB
        clear HO_301001
        have BK298 := n0_
        have BK300 := n1_
        have BK302 := n2_
        have HB := n3_
        have HO308 := n4_
        clear n0_ n1_ n2_ n3_ n4_
        clear ho hb hg hat
        obtain ⟨Ao20, co20, eo20⟩ := Kd.R_slice HO308.out
        (first | subst eo20 | (injection eo20 with f1_ f2_ f3_; have f4_ := f1_.symm; have f5_ := f3_.symm; clear f1_ f2_ f3_; subst f4_; subst f5_))
        refine hK.out _ _ ⟨(Z2 BK300.out 0).trans rfl, (Z2 BK300.out 1).trans rfl, (Z2 BK302.out 0).trans rfl, (Z2 BK302.out 1).trans rfl, (Z2 BK302.out 2).trans rfl, (Z2 BK302.out 3).trans rfl⟩ (fun hHeld => ?_)
        clear hK K
        refine norm_ (a' := ?_) ?_ ?_
        rotate_left
        ·show Act.put _ (some 25) _ = _
         simp only [Act.put, Z3, Z5, Z6, i64_w, i32_w]
         rfl
        refine pure_ (i := 6) (N := some 26) (v := ?_) (a' := ?_) #[true, true, true, true, true, true, true, false] rfl rfl (any_of HT_.out (by kernel_rfl)) (fun _ _ _ h => h) (Or.inl ⟨by rfl, ?_⟩) ?_ ?_
        rotate_left
        ·intro w'
         go_simp
         with_reducible rfl
        rotate_left
        ·simp only [Act.put, Z3, Z5, Z6, i64_w, i32_w]
         rfl
        refine last_ (i := 7) (N := none) #[true, true, true, true, true, true, true, true] rfl rfl (one_of HT_.out (by kernel_rfl)) (by decide) (fun K hK => ?_)
        have hs21 : w19.cell? ⟨gb300, 1, none⟩ = some (u301001) := (Z2 BK300.out 1).trans rfl
        have hfs21 := Z1 BK300.out 1
        have hns21_0 := NB298_300.out
        have hns21_2 := NB302_300.out
        have hms21_0 := NB300_298.out
        have hms21_2 := NB300_302.out
        refine skip_ (w1 := ?_) (by rfl) rfl ?_ ?_
        rotate_left
        ·go_simp
         rfl
        refine hK.out _ _ ?_
        clear hK K
        refine done_ (done_of HT_.out (by kernel_rfl)) ?_
        try go_wp2
        go_roundg k1
        case measure => have := HK1.out; omega
        case rel => exact ⟨(wrap64 (x16_1 + 1)), (y306), (.slice Ao20 y306.length co20), (by first | rfl | (simp; done) | (simp [*]; done)), H', ⟨by have := HK1.out; omega⟩, ⟨by (with_reducible repeat (first | apply Kd.R_alloc | apply Kd.R_drewN | apply Kd.R_drew)); exact Kd.R_mono (Kd.R_far (p := ⟨gb300, 1, none⟩) (Kd.R_types HO308.out BK300.out (by decide)) (fun _ hk => hk.2) (.slice Ao20 y306.length co20)) (fun _ hk => trivial)⟩, ⟨by (with_reducible repeat (first | refine Y4 ?_ _ | refine Y5 ?_ | refine Y3 ?_ _)); refine blk_far ?_ NB298_300.out _; (with_reducible repeat (first | refine Y4 ?_ _ | refine Y5 ?_ | refine Y3 ?_ _)); exact BK298.out⟩, ⟨by (with_reducible repeat (first | refine Y4 ?_ _ | refine Y5 ?_ | refine Y3 ?_ _)); refine X7 (cs := #[.bool false, u301001]) ?_ 1 _ rfl; (with_reducible repeat (first | refine Y4 ?_ _ | refine Y5 ?_ | refine Y3 ?_ _)); exact BK300.out⟩, ⟨by repeat (first | (with_reducible first | exact HB.out | apply Z7 | apply Z4 | apply Z9 | refine Z8 ?_ GE298.out | refine Z8 ?_ GE300.out | refine Z8 ?_ GE302.out) | exact HB.out)⟩⟩
       ·rw [if_neg c11] at H
        exact absurd H (by simp)
      ·rw [if_neg c9] at H
       exact absurd H (by simp)
     ·rw [if_neg c8] at H
      exact absurd H (by simp)
    ·rw [if_neg c7] at H
     have c7b0 : decide (x16_1 < (l0.length : Int)) = false := decide_eq_false c7
     clear c7
     simp only [Option.some.injEq, Prod.mk.injEq] at H
     obtain ⟨rfl, rfl, rfl⟩ := H
     have hnb22 := NB300_298.out
     have hnc22 := NB298_300.out
     have hcz23_0 : wr.cell? ⟨gb300, 0, none⟩ = some (.bool false) := (Z2 BK300.out 0).trans rfl
     have hcz23_1 : wr.cell? ⟨gb300, 1, none⟩ = some (u301001) := (Z2 BK300.out 1).trans rfl
     have hfz23_0 := Z1 BK300.out 0
     have hfz23_1 := Z1 BK300.out 1
     have hcz24_0 : wr.cell? ⟨gb298, 0, none⟩ = some (.bool false) := (Z2 BK298.out 0).trans rfl
     have hcz24_1 : wr.cell? ⟨gb298, 1, none⟩ = some (.slice none 0 0) := (Z2 BK298.out 1).trans rfl
     have hfz24_0 := Z1 BK298.out 0
     have hfz24_1 := Z1 BK298.out 1
     obtain ⟨Ao25, co25, eo25⟩ := Kd.R_slice HO_301001.out
     subst eo25
     go_wp2
     refine bodyPost_ret (results_ct rfl _ _ gb298 46 #[.bool false, .slice Ao25 x301001_1.length co25] (0, 0) _ rfl (by (with_reducible repeat (first | refine Y4 ?_ _ | refine Y5 ?_ | refine Y3 ?_ _)); refine X7 (cs := #[.bool false, .slice none 0 0]) ?_ 1 _ rfl; (with_reducible repeat (first | refine Y4 ?_ _ | refine Y5 ?_ | refine Y3 ?_ _)); refine X7 (cs := #[.bool false, .slice none 0 0]) ?_ 0 _ rfl; (with_reducible repeat (first | refine Y4 ?_ _ | refine Y5 ?_ | refine Y3 ?_ _)); exact BK298.out) Tryz.underlying46 rfl (by kernel_rfl)) rfl ?_
     exact ⟨_, rfl, by (with_reducible repeat (first | apply Kd.R_alloc | apply Kd.R_drewN | apply Kd.R_drew)); exact Kd.R_mono (Kd.R_far (p := ⟨gb298, 1, none⟩) (Kd.R_far (p := ⟨gb298, 0, none⟩) (Kd.R_types HO_301001.out BK298.out (by decide)) (fun _ hk => hk.2) (.bool false)) (fun _ hk => hk.2) (.slice Ao25 x301001_1.length co25)) (fun _ hk => trivial), by repeat (first | (with_reducible first | exact HB.out | apply Z7 | apply Z4 | apply Z9 | refine Z8 ?_ GE298.out | refine Z8 ?_ GE300.out) | exact HB.out)⟩
 ·rw [if_neg c3] at H
  have c3b0 : (t299 == 0) = false := beq_eq_false_iff_ne.mpr c3
  have c3b1 : (t299 != 0) = true := bne_iff_ne.mpr c3
  simp only [Option.some.injEq, Prod.mk.injEq] at H
  obtain ⟨rfl, rfl, rfl⟩ := H
  go_enter Tryz.func25, Tryz.ntmps25
  go_wp2_with (first | ((with_reducible refine X0 (N := 2) rfl ?_); refine Y9 ?hg (N := 2) ?hd (cs := #[.bool false, .slice none 0 0]) (t := 46) ?hr ?_; (case hd => rfl); (case hg => rfl); (case hr => go_simp; try rfl); intro gb298 hg w26 hbox hb; have n0_ := Z0 (Y0 HB.out hb); have n1_ := Z0 (hbox); have n3_ := Z0 ((by rw [hg]; exact (Y6 HB.out) : w.heap.size ≤ gb298)); clear HB; have HB := n0_; have BK298 := n1_; have GE298 := n3_; clear n0_ n1_ n3_; clear hb hbox hg) | ((with_reducible refine X1 (f := 36) rfl ?_); refine goesL_ (some 9) rfl rfl Tryz.func36 (by kernel_rfl) rfl #[.slice A0 l0.length c0] rfl (by (try simp only [Y2, Y7, Y8]); first | done | rfl) ?_; (with_reducible refine (table_ValidateFields.calls _ _ l0 t299 _ ?side1 ?side2 A2.out).mono ?_); (case side1 => repeat (first | exact (Kd.C_below HR0.out HB.out) | (with_reducible refine Kd.C_alloc ?_ _) | (with_reducible refine Kd.C_drewN ?_ _) | (with_reducible refine Kd.C_drew ?_))); (case side2 => exact HC0.out); rintro e w27 ⟨rfl, hb⟩; refine ⟨_, rfl, ?_⟩; have n0_ := Z0 (Y1 (g := gb298) (o := .cells #[.bool false, .slice none 0 0] 46 (0, 0)) BK298.out hb); have n1_ := Z0 (Y0 HB.out hb); clear BK298; clear HB; have BK298 := n0_; have HB := n1_; clear n0_ n1_; (try clear hb); (try clear hb2); (try clear hk); (try clear hi); have hcz28_0 : w27.cell? ⟨gb298, 0, none⟩ = some (.bool false) := (Z2 BK298.out 0).trans rfl; have hcz28_1 : w27.cell? ⟨gb298, 1, none⟩ = some (.slice none 0 0) := (Z2 BK298.out 1).trans rfl; have hfz28_0 := Z1 BK298.out 0; have hfz28_1 := Z1 BK298.out 1))
  refine bodyPost_ret (results_ct rfl _ _ gb298 46 #[.bool false, .slice none 0 0] (0, 0) _ rfl (by (with_reducible repeat (first | refine Y4 ?_ _ | refine Y5 ?_ | refine Y3 ?_ _)); refine X7 (cs := #[.bool false, .slice none 0 0]) ?_ 1 _ rfl; (with_reducible repeat (first | refine Y4 ?_ _ | refine Y5 ?_ | refine Y3 ?_ _)); refine X7 (cs := #[.bool false, .slice none 0 0]) ?_ 0 _ rfl; (with_reducible repeat (first | refine Y4 ?_ _ | refine Y5 ?_ | refine Y3 ?_ _)); exact BK298.out) Tryz.underlying46 rfl (by kernel_rfl)) rfl ?_
  exact ⟨_, rfl, by first | exact Kd.R_nil _ _ _ _ _ | exact Kd.N_nil _ _ _ _ _ | exact Kd.V_nil _ _ _ _ _ | exact Kd.Q_nil _ _ _ _ _ | exact Kd.S_nil _ _ _ _ _, by repeat (first | (with_reducible first | exact HB.out | apply Z7 | apply Z4 | apply Z9 | refine Z8 ?_ GE298.out) | exact HB.out)⟩
def cabinetryref01_Num.f (a0 : Int) : Option (Int × Int × ByteArray) := some (2, a0, (⟨#[]⟩ : ByteArray))
set_option maxHeartbeats 8000000 in
set_option maxRecDepth 100000 in
theorem cabinetryref01_Num.calls (a0 : Int) (r1 : Int) (r2 : Int) (r3 : ByteArray) (w : World) (h : cabinetryref01_Num.f a0 = some (r1, r2, r3)) :
  Calls Tryz.prog 118 #[.int .i64 a0] w fun e w' => e = .returned (.agg #[.int .i64 r1, .int .i64 r2, .string r3]) ∧ Below w.heap.size w w' := by
 have hu25 := Tryz.underlying25
 have HB := Z0 (Below.refl w.heap.size w)
 have H : (some (2, a0, (⟨#[]⟩ : ByteArray))) = some (r1, r2, r3) := h
 clear h
 simp only [Option.some.injEq, Prod.mk.injEq] at H
 obtain ⟨rfl, rfl, rfl⟩ := H
 go_enter Tryz.func118, Tryz.ntmps118
 go_wp2_with (first | ((with_reducible refine X0 (N := 2) rfl ?_); refine Y9 ?hg (N := 2) ?hd (cs := #[.int .i64 0, .int .i64 0, .string (⟨#[]⟩ : ByteArray)]) (t := 25) ?hr ?_; (case hd => rfl); (case hg => rfl); (case hr => go_simp; try rfl); intro gb309 hg w2 hbox hb; have n0_ := Z0 (Y0 HB.out hb); have n1_ := Z0 (hbox); have n3_ := Z0 ((by rw [hg]; exact (Y6 HB.out) : w.heap.size ≤ gb309)); clear HB; have HB := n0_; have BK309 := n1_; have GE309 := n3_; clear n0_ n1_ n3_; clear hb hbox hg; have hcz3_0 : w2.cell? ⟨gb309, 0, none⟩ = some (.int .i64 0) := (Z2 BK309.out 0).trans rfl; have hcz3_1 : w2.cell? ⟨gb309, 1, none⟩ = some (.int .i64 0) := (Z2 BK309.out 1).trans rfl; have hcz3_2 : w2.cell? ⟨gb309, 2, none⟩ = some (.string (⟨#[]⟩ : ByteArray)) := (Z2 BK309.out 2).trans rfl; have hfz3_0 := Z1 BK309.out 0; have hfz3_1 := Z1 BK309.out 1; have hfz3_2 := Z1 BK309.out 2))
 refine bodyPost_ret (results_cell_row rfl _ _ gb309 25 #[.int .i64 2, .int .i64 a0, .string (⟨#[]⟩ : ByteArray)] (0, 0) _ rfl (by (with_reducible repeat (first | refine Y4 ?_ _ | refine Y5 ?_ | refine Y3 ?_ _)); refine X7 (cs := #[.int .i64 2, .int .i64 a0, .string (⟨#[]⟩ : ByteArray)]) ?_ 2 _ rfl; (with_reducible repeat (first | refine Y4 ?_ _ | refine Y5 ?_ | refine Y3 ?_ _)); refine X7 (cs := #[.int .i64 2, .int .i64 0, .string (⟨#[]⟩ : ByteArray)]) ?_ 1 _ rfl; (with_reducible repeat (first | refine Y4 ?_ _ | refine Y5 ?_ | refine Y3 ?_ _)); refine X7 (cs := #[.int .i64 0, .int .i64 0, .string (⟨#[]⟩ : ByteArray)]) ?_ 0 _ rfl; (with_reducible repeat (first | refine Y4 ?_ _ | refine Y5 ?_ | refine Y3 ?_ _)); exact BK309.out) Tryz.underlying25 rfl (by kernel_rfl)) rfl ?_
 exact ⟨rfl, by repeat (first | (with_reducible first | exact HB.out | apply Z7 | apply Z4 | apply Z9 | refine Z8 ?_ GE309.out) | exact HB.out)⟩
def cabinetryref03_Empty.f (a0_0 : ByteArray) (a0_1 : Int) (a0_2 : Int) (a0_3 : Bool) : Option (Int × Int × ByteArray) := if a0_1 = 5 then ((cabinetryref01_Num.f 0).bind fun bt312 => (some (bt312.1, bt312.2.1, bt312.2.2))) else (some (a0_1, 0, (⟨#[]⟩ : ByteArray)))
set_option maxHeartbeats 8000000 in
set_option maxRecDepth 100000 in
theorem cabinetryref03_Empty.calls (a0_0 : ByteArray) (a0_1 : Int) (a0_2 : Int) (a0_3 : Bool) (r1 : Int) (r2 : Int) (r3 : ByteArray) (w : World) (h : cabinetryref03_Empty.f a0_0 a0_1 a0_2 a0_3 = some (r1, r2, r3)) :
  Calls Tryz.prog 87 #[.agg #[.string a0_0, .int .i64 a0_1, .int .i64 a0_2, .bool a0_3]] w fun e w' => e = .returned (.agg #[.int .i64 r1, .int .i64 r2, .string r3]) ∧ Below w.heap.size w w' := by
 have hu23 := Tryz.underlying23
 have hu25 := Tryz.underlying25
 have HB := Z0 (Below.refl w.heap.size w)
 have H : (if a0_1 = 5 then ((cabinetryref01_Num.f 0).bind fun bt312 => (some (bt312.1, bt312.2.1, bt312.2.2))) else (some (a0_1, 0, (⟨#[]⟩ : ByteArray)))) = some (r1, r2, r3) := h
 clear h
 by_cases c2 : a0_1 = 5
 ·rw [if_pos c2] at H
  have c2b0 : (a0_1 == 5) = true := beq_iff_eq.mpr c2
  have c2b1 : (a0_1 != 5) = false := bne_eq_false_iff_eq.mpr c2
  clear c2
  replace H := Option.bind_eq_some_iff.mp H
  obtain ⟨⟨t312, t313, t314⟩, A30, H⟩ := H
  replace H : (some (t312, t313, t314)) = some (r1, r2, r3) := H
  have A3 := Z0 A30
  clear A30
  simp only [Option.some.injEq, Prod.mk.injEq] at H
  obtain ⟨rfl, rfl, rfl⟩ := H
  go_enter Tryz.func87, Tryz.ntmps87
  go_wp2_with (first | ((with_reducible refine X0 (N := 1) rfl ?_); refine Y9 ?hg (N := 1) ?hd (cs := #[.string a0_0, .int .i64 a0_1, .int .i64 a0_2, .bool a0_3]) (t := 23) ?hr ?_; (case hd => rfl); (case hg => rfl); (case hr => go_simp; try rfl); intro gb310 hg w4 hbox hb; have n0_ := Z0 (Y0 HB.out hb); have n1_ := Z0 (hbox); have n3_ := Z0 ((by rw [hg]; exact (Y6 HB.out) : w.heap.size ≤ gb310)); clear HB; have HB := n0_; have BK310 := n1_; have GE310 := n3_; clear n0_ n1_ n3_; clear hb hbox hg) | ((with_reducible refine X0 (N := 2) rfl ?_); refine Y9 ?hg (N := 2) ?hd (cs := #[.int .i64 0, .int .i64 0, .string (⟨#[]⟩ : ByteArray)]) (t := 25) ?hr ?_; (case hd => rfl); (case hg => rfl); (case hr => go_simp; try rfl); intro gb311 hg w5 hbox hb; have n0_ := Z0 (Y1 (g := gb310) (o := .cells #[.string a0_0, .int .i64 a0_1, .int .i64 a0_2, .bool a0_3] 23 (0, 0)) BK310.out hb); have n1_ := Z0 (Y0 HB.out hb); have n2_ := Z0 (hbox); have n4_ := Z0 ((by rw [hg]; exact (Y6 HB.out) : w.heap.size ≤ gb311)); have n5_ := Z0 ((by rw [hg]; exact Nat.ne_of_lt (blk_lt (g := gb310) (o := .cells #[.string a0_0, .int .i64 a0_1, .int .i64 a0_2, .bool a0_3] 23 (0, 0)) BK310.out) : gb310 ≠ gb311)); have n6_ := Z0 ((by rw [hg]; exact Nat.ne_of_gt (blk_lt (g := gb310) (o := .cells #[.string a0_0, .int .i64 a0_1, .int .i64 a0_2, .bool a0_3] 23 (0, 0)) BK310.out) : gb311 ≠ gb310)); clear BK310; clear HB; have BK310 := n0_; have HB := n1_; have BK311 := n2_; have GE311 := n4_; have NB310_311 := n5_; have NB311_310 := n6_; clear n0_ n1_ n2_ n4_ n5_ n6_; clear hb hbox hg; have hnb6 := NB310_311.out; have hnc6 := NB311_310.out; have hcz7_0 : w5.cell? ⟨gb310, 0, none⟩ = some (.string a0_0) := (Z2 BK310.out 0).trans rfl; have hcz7_1 : w5.cell? ⟨gb310, 1, none⟩ = some (.int .i64 a0_1) := (Z2 BK310.out 1).trans rfl; have hcz7_2 : w5.cell? ⟨gb310, 2, none⟩ = some (.int .i64 a0_2) := (Z2 BK310.out 2).trans rfl; have hcz7_3 : w5.cell? ⟨gb310, 3, none⟩ = some (.bool a0_3) := (Z2 BK310.out 3).trans rfl; have hfz7_0 := Z1 BK310.out 0; have hfz7_1 := Z1 BK310.out 1; have hfz7_2 := Z1 BK310.out 2; have hfz7_3 := Z1 BK310.out 3) | ((with_reducible refine X1 (f := 118) rfl ?_); refine goesL_ (some 6) rfl rfl Tryz.func118 (by kernel_rfl) rfl #[.int .i64 0] rfl (by (try simp only [Y2, Y7, Y8]); first | done | rfl) ?_; (with_reducible refine (cabinetryref01_Num.calls 0 t312 t313 t314 _ A3.out).mono ?_); rintro e w8 ⟨rfl, hb⟩; refine ⟨_, rfl, ?_⟩; have n0_ := Z0 (Y1 (g := gb310) (o := .cells #[.string a0_0, .int .i64 a0_1, .int .i64 a0_2, .bool a0_3] 23 (0, 0)) BK310.out hb); have n1_ := Z0 (Y1 (g := gb311) (o := .cells #[.int .i64 0, .int .i64 0, .string (⟨#[]⟩ : ByteArray)] 25 (0, 0)) BK311.out hb); have n2_ := Z0 (Y0 HB.out hb); clear BK310; clear BK311; clear HB; have BK310 := n0_; have BK311 := n1_; have HB := n2_; clear n0_ n1_ n2_; (try clear hb); (try clear hb2); (try clear hk); (try clear hi); have hcz9_0 : w8.cell? ⟨gb311, 0, none⟩ = some (.int .i64 0) := (Z2 BK311.out 0).trans rfl; have hcz9_1 : w8.cell? ⟨gb311, 1, none⟩ = some (.int .i64 0) := (Z2 BK311.out 1).trans rfl; have hcz9_2 : w8.cell? ⟨gb311, 2, none⟩ = some (.string (⟨#[]⟩ : ByteArray)) := (Z2 BK311.out 2).trans rfl; have hfz9_0 := Z1 BK311.out 0; have hfz9_1 := Z1 BK311.out 1; have hfz9_2 := Z1 BK311.out 2))
  refine bodyPost_ret (results_cell_row rfl _ _ gb311 25 #[.int .i64 t312, .int .i64 t313, .string t314] (0, 0) _ rfl (by (with_reducible repeat (first | refine Y4 ?_ _ | refine Y5 ?_ | refine Y3 ?_ _)); refine X7 (cs := #[.int .i64 t312, .int .i64 t313, .string (⟨#[]⟩ : ByteArray)]) ?_ 2 _ rfl; (with_reducible repeat (first | refine Y4 ?_ _ | refine Y5 ?_ | refine Y3 ?_ _)); refine X7 (cs := #[.int .i64 t312, .int .i64 0, .string (⟨#[]⟩ : ByteArray)]) ?_ 1 _ rfl; (with_reducible repeat (first | refine Y4 ?_ _ | refine Y5 ?_ | refine Y3 ?_ _)); refine X7 (cs := #[.int .i64 0, .int .i64 0, .string (⟨#[]⟩ : ByteArray)]) ?_ 0 _ rfl; (with_reducible repeat (first | refine Y4 ?_ _ | refine Y5 ?_ | refine Y3 ?_ _)); exact BK311.out) Tryz.underlying25 rfl (by kernel_rfl)) rfl ?_
  exact ⟨rfl, by repeat (first | (with_reducible first | exact HB.out | apply Z7 | apply Z4 | apply Z9 | refine Z8 ?_ GE310.out | refine Z8 ?_ GE311.out) | exact HB.out)⟩
 ·rw [if_neg c2] at H
  have c2b0 : (a0_1 == 5) = false := beq_eq_false_iff_ne.mpr c2
  have c2b1 : (a0_1 != 5) = true := bne_iff_ne.mpr c2
  simp only [Option.some.injEq, Prod.mk.injEq] at H
  obtain ⟨rfl, rfl, rfl⟩ := H
  go_enter Tryz.func87, Tryz.ntmps87
  go_wp2_with (first | ((with_reducible refine X0 (N := 1) rfl ?_); refine Y9 ?hg (N := 1) ?hd (cs := #[.string a0_0, .int .i64 a0_1, .int .i64 a0_2, .bool a0_3]) (t := 23) ?hr ?_; (case hd => rfl); (case hg => rfl); (case hr => go_simp; try rfl); intro gb310 hg w10 hbox hb; have n0_ := Z0 (Y0 HB.out hb); have n1_ := Z0 (hbox); have n3_ := Z0 ((by rw [hg]; exact (Y6 HB.out) : w.heap.size ≤ gb310)); clear HB; have HB := n0_; have BK310 := n1_; have GE310 := n3_; clear n0_ n1_ n3_; clear hb hbox hg) | ((with_reducible refine X0 (N := 2) rfl ?_); refine Y9 ?hg (N := 2) ?hd (cs := #[.int .i64 0, .int .i64 0, .string (⟨#[]⟩ : ByteArray)]) (t := 25) ?hr ?_; (case hd => rfl); (case hg => rfl); (case hr => go_simp; try rfl); intro gb311 hg w11 hbox hb; have n0_ := Z0 (Y1 (g := gb310) (o := .cells #[.string a0_0, .int .i64 a0_1, .int .i64 a0_2, .bool a0_3] 23 (0, 0)) BK310.out hb); have n1_ := Z0 (Y0 HB.out hb); have n2_ := Z0 (hbox); have n4_ := Z0 ((by rw [hg]; exact (Y6 HB.out) : w.heap.size ≤ gb311)); have n5_ := Z0 ((by rw [hg]; exact Nat.ne_of_lt (blk_lt (g := gb310) (o := .cells #[.string a0_0, .int .i64 a0_1, .int .i64 a0_2, .bool a0_3] 23 (0, 0)) BK310.out) : gb310 ≠ gb311)); have n6_ := Z0 ((by rw [hg]; exact Nat.ne_of_gt (blk_lt (g := gb310) (o := .cells #[.string a0_0, .int .i64 a0_1, .int .i64 a0_2, .bool a0_3] 23 (0, 0)) BK310.out) : gb311 ≠ gb310)); clear BK310; clear HB; have BK310 := n0_; have HB := n1_; have BK311 := n2_; have GE311 := n4_; have NB310_311 := n5_; have NB311_310 := n6_; clear n0_ n1_ n2_ n4_ n5_ n6_; clear hb hbox hg; have hnb12 := NB310_311.out; have hnc12 := NB311_310.out; have hcz13_0 : w11.cell? ⟨gb310, 0, none⟩ = some (.string a0_0) := (Z2 BK310.out 0).trans rfl; have hcz13_1 : w11.cell? ⟨gb310, 1, none⟩ = some (.int .i64 a0_1) := (Z2 BK310.out 1).trans rfl; have hcz13_2 : w11.cell? ⟨gb310, 2, none⟩ = some (.int .i64 a0_2) := (Z2 BK310.out 2).trans rfl; have hcz13_3 : w11.cell? ⟨gb310, 3, none⟩ = some (.bool a0_3) := (Z2 BK310.out 3).trans rfl; have hfz13_0 := Z1 BK310.out 0; have hfz13_1 := Z1 BK310.out 1; have hfz13_2 := Z1 BK310.out 2; have hfz13_3 := Z1 BK310.out 3; have hcz14_0 : w11.cell? ⟨gb311, 0, none⟩ = some (.int .i64 0) := (Z2 BK311.out 0).trans rfl; have hcz14_1 : w11.cell? ⟨gb311, 1, none⟩ = some (.int .i64 0) := (Z2 BK311.out 1).trans rfl; have hcz14_2 : w11.cell? ⟨gb311, 2, none⟩ = some (.string (⟨#[]⟩ : ByteArray)) := (Z2 BK311.out 2).trans rfl; have hfz14_0 := Z1 BK311.out 0; have hfz14_1 := Z1 BK311.out 1; have hfz14_2 := Z1 BK311.out 2))
  refine bodyPost_ret (results_cell_row rfl _ _ gb311 25 #[.int .i64 a0_1, .int .i64 0, .string (⟨#[]⟩ : ByteArray)] (0, 0) _ rfl (by (with_reducible repeat (first | refine Y4 ?_ _ | refine Y5 ?_ | refine Y3 ?_ _)); refine X7 (cs := #[.int .i64 a0_1, .int .i64 0, .string (⟨#[]⟩ : ByteArray)]) ?_ 2 _ rfl; (with_reducible repeat (first | refine Y4 ?_ _ | refine Y5 ?_ | refine Y3 ?_ _)); refine X7 (cs := #[.int .i64 a0_1, .int .i64 0, .string (⟨#[]⟩ : ByteArray)]) ?_ 1 _ rfl; (with_reducible repeat (first | refine Y4 ?_ _ | refine Y5 ?_ | refine Y3 ?_ _)); refine X7 (cs := #[.int .i64 0, .int .i64 0, .string (⟨#[]⟩ : ByteArray)]) ?_ 0 _ rfl; (with_reducible repeat (first | refine Y4 ?_ _ | refine Y5 ?_ | refine Y3 ?_ _)); exact BK311.out) Tryz.underlying25 rfl (by kernel_rfl)) rfl ?_
  exact ⟨rfl, by repeat (first | (with_reducible first | exact HB.out | apply Z7 | apply Z4 | apply Z9 | refine Z8 ?_ GE310.out | refine Z8 ?_ GE311.out) | exact HB.out)⟩
def cabinetryref03_Blanks.l0 : Nat → List (S23) → Int → Bool → List (S25) → Option (Bool × (List (S25)))
 | 0, _, _, _, _ => none
 | k + 1, x0, x4, x317000, x317001 => if x4 < (x0.length : Int) then (if 0 ≤ x4 then ((cabinetryref03_Empty.f ((rd_T23 x0 x4).f0) ((rd_T23 x0 x4).f1) ((rd_T23 x0 x4).f2) ((rd_T23 x0 x4).f3)).bind fun bt318 => (if x317001.length < 4398046511104 then (cabinetryref03_Blanks.l0 k x0 (wrap64 (x4 + 1)) x317000 (x317001 ++ [(⟨bt318.1, bt318.2.1, bt318.2.2⟩ : S25)])) else (none))) else (none)) else (some (x317000, x317001))
def cabinetryref03_Blanks.f (k : Nat) (l0 : List (S23)) : Option (Bool × (List (S25))) := cabinetryref03_Blanks.l0 k l0 0 false ([] : List (S25))
theorem cabinetryref03_Blanks.mono_l : ∀ k, (∀ y0 y1 y2 y3, LeO (cabinetryref03_Blanks.l0 k y0 y1 y2 y3) (cabinetryref03_Blanks.l0 (k + 1) y0 y1 y2 y3))
 | 0 => fun _ _ _ _ r h => by simp [cabinetryref03_Blanks.l0] at h
 | k + 1 => by
  have ih0 := cabinetryref03_Blanks.mono_l k
  ·intro y0 y1 y2 y3
   unfold cabinetryref03_Blanks.l0
   repeat' first
   | (with_reducible exact ih0 _ _ _ _)
   | (with_reducible exact LeO.refl _)
   | (with_reducible exact X2 _)
   | (with_reducible refine X4 ?_ ?_)
   | (with_reducible refine X3 ?_ (fun _ => ?_))
   | exact ih0 _ _ _ _
   | exact X2 _
   | refine X4 ?_ ?_
   | refine X3 ?_ (fun _ => ?_)
theorem cabinetryref03_Blanks.mono : ∀ a0 k, LeO (cabinetryref03_Blanks.f k a0) (cabinetryref03_Blanks.f (k + 1) a0) := by
 intro a0 k
 have ih0 := cabinetryref03_Blanks.mono_l k
 unfold cabinetryref03_Blanks.f
 repeat' first
   | (with_reducible exact ih0 _ _ _ _)
   | (with_reducible exact LeO.refl _)
   | (with_reducible exact X2 _)
   | (with_reducible refine X4 ?_ ?_)
   | (with_reducible refine X3 ?_ (fun _ => ?_))
   | exact ih0 _ _ _ _
   | exact X2 _
   | refine X4 ?_ ?_
   | refine X3 ?_ (fun _ => ?_)
def cabinetryref03_Blanks.T5 : Bool × List (List Nat × List Nat) := (true, [([], []), ([0], [0]), ([], []), ([], []), ([2, 3], [2, 3]), ([4], [4]), ([5], [5]), ([6], [6]), ([1, 7, 6], [1, 7]), ([0, 1, 2, 3, 4, 5, 6, 7, 8], []), ([9, 8, 8, 0, 1, 2, 3, 4, 5, 6, 7, 8], [8, 9])])
def cabinetryref03_Blanks.B5 : List Nat := [0, 1, 0, 0, 12, 28, 60, 124, 255, 511, 1023]
theorem cabinetryref03_Blanks.tab5 : rtab .any (opsOf Tryz.f65 5) = cabinetryref03_Blanks.T5 := by kernel_rfl
theorem cabinetryref03_Blanks.bits5 : waitsOk cabinetryref03_Blanks.T5.2 cabinetryref03_Blanks.B5 = true := by kernel_rfl
set_option maxHeartbeats 8000000 in
set_option maxRecDepth 100000 in
theorem cabinetryref03_Blanks.calls (k : Nat) (A0 : Option Addr) (c0 : Nat) (l0 : List (S23)) (r1 : Bool) (r2 : List (S25)) (w : World) (hr0 : Kd.C k23 w A0 l0.length l0) (hc0 : l0.length ≤ c0) (h : cabinetryref03_Blanks.f k l0 = some (r1, r2)) :
  Calls Tryz.prog 65 #[.slice A0 l0.length c0] w fun e w' => ∃ v1_ : Value, e = .returned (.agg #[.bool r1, v1_]) ∧ Kd.R k25 25 w' w.heap.size (fun _ => True) v1_ r2 ∧ Below w.heap.size w w' := by
 have hu46 := Tryz.underlying46
 have hu23 := Tryz.underlying23
 have HR0 := Z0 hr0
 have HC0 := Z0 hc0
 clear hr0 hc0
 have HB := Z0 (Below.refl w.heap.size w)
 have H : (cabinetryref03_Blanks.l0 k l0 0 false ([] : List (S25))) = some (r1, r2) := h
 clear h
 have H' := Z0 H
 clear H
 go_enter Tryz.func65, Tryz.ntmps65
 go_wp2_with (first | ((with_reducible refine X0 (N := 2) rfl ?_); refine Y9 ?hg (N := 2) ?hd (cs := #[.bool false, .slice none 0 0]) (t := 46) ?hr ?_; (case hd => rfl); (case hg => rfl); (case hr => go_simp; try rfl); intro gb315 hg w2 hbox hb; have n0_ := Z0 (Y0 HB.out hb); have n1_ := Z0 (hbox); have n3_ := Z0 ((by rw [hg]; exact (Y6 HB.out) : w.heap.size ≤ gb315)); clear HB; have HB := n0_; have BK315 := n1_; have GE315 := n3_; clear n0_ n1_ n3_; clear hb hbox hg) | ((with_reducible refine X0 (N := 3) rfl ?_); refine Y9 ?hg (N := 3) ?hd (cs := #[.bool false, .slice none 0 0]) (t := 46) ?hr ?_; (case hd => rfl); (case hg => rfl); (case hr => go_simp; try rfl); intro gb316 hg w3 hbox hb; have n0_ := Z0 (Y1 (g := gb315) (o := .cells #[.bool false, .slice none 0 0] 46 (0, 0)) BK315.out hb); have n1_ := Z0 (Y0 HB.out hb); have n2_ := Z0 (hbox); have n4_ := Z0 ((by rw [hg]; exact (Y6 HB.out) : w.heap.size ≤ gb316)); have n5_ := Z0 ((by rw [hg]; exact Nat.ne_of_lt (blk_lt (g := gb315) (o := .cells #[.bool false, .slice none 0 0] 46 (0, 0)) BK315.out) : gb315 ≠ gb316)); have n6_ := Z0 ((by rw [hg]; exact Nat.ne_of_gt (blk_lt (g := gb315) (o := .cells #[.bool false, .slice none 0 0] 46 (0, 0)) BK315.out) : gb316 ≠ gb315)); clear BK315; clear HB; have BK315 := n0_; have HB := n1_; have BK316 := n2_; have GE316 := n4_; have NB315_316 := n5_; have NB316_315 := n6_; clear n0_ n1_ n2_ n4_ n5_ n6_; clear hb hbox hg))
 go_loopg [4] k (fun kq v4 w' => ∃ (x4_1 : Int) (x317001_1 : List (S25)) (u317001 : Value), v4 = .int .i64 x4_1 ∧ Aside0 (cabinetryref03_Blanks.l0 kq l0 x4_1 false x317001_1 = some (r1, r2)) ∧ Aside0 (kq ≤ k) ∧ Aside0 (Kd.R k25 25 w' w.heap.size (fun _ => True) u317001 x317001_1) ∧ Aside0 (w'.heap[gb315]? = some (.cells #[.bool false, (.slice none 0 0)] 46 (0, 0))) ∧ Aside0 (w'.heap[gb316]? = some (.cells #[.bool false, u317001] 46 (0, 0))) ∧ Aside0 (Below w.heap.size w w'))
 case atStart => exact ⟨(0), (([] : List (S25))), (.slice none 0 0), (by first | rfl | (simp; done) | (simp [*]; done)), H', ⟨Nat.le_refl _⟩, ⟨by first | exact Kd.R_nil _ _ _ _ _ | exact Kd.N_nil _ _ _ _ _ | exact Kd.V_nil _ _ _ _ _ | exact Kd.Q_nil _ _ _ _ _ | exact Kd.S_nil _ _ _ _ _⟩, ⟨by (with_reducible repeat (first | refine Y4 ?_ _ | refine Y5 ?_ | refine Y3 ?_ _)); exact BK315.out⟩, ⟨by (with_reducible repeat (first | refine Y4 ?_ _ | refine Y5 ?_ | refine Y3 ?_ _)); exact BK316.out⟩, ⟨by repeat (first | (with_reducible first | exact HB.out | apply Z7 | apply Z4 | apply Z9 | refine Z8 ?_ GE315.out | refine Z8 ?_ GE316.out) | exact HB.out)⟩⟩
 case round =>
  clear H'
  (try clear p2)
  obtain ⟨x4_1, x317001_1, u317001, rfl, HA, HK1, HO_317001, BK315, BK316, HB⟩ := hrel
  cases gk with
  | zero => exact absurd HA.out (by simp [cabinetryref03_Blanks.l0])
  | succ k1 =>
   have H := HA.out
   clear HA
   simp only [cabinetryref03_Blanks.l0] at H
   by_cases c4 : x4_1 < (l0.length : Int)
   ·rw [if_pos c4] at H
    have c4b0 : decide (x4_1 < (l0.length : Int)) = true := decide_eq_true c4
    clear c4
    by_cases c5 : 0 ≤ x4_1
    ·rw [if_pos c5] at H
     have c5b0 : decide (0 ≤ x4_1) = true := decide_eq_true c5
     clear c5
     replace H := Option.bind_eq_some_iff.mp H
     obtain ⟨⟨t318, t319, t320⟩, A60, H⟩ := H
     replace H : (if x317001_1.length < 4398046511104 then (cabinetryref03_Blanks.l0 k1 l0 (wrap64 (x4_1 + 1)) false (x317001_1 ++ [(⟨t318, t319, t320⟩ : S25)])) else (none)) = some (r1, r2) := H
     have A6 := Z0 A60
     clear A60
     by_cases c7 : x317001_1.length < 4398046511104
     ·rw [if_pos c7] at H
      have LMc7 := Z0 c7
      clear c7
      obtain ⟨y321, hy321⟩ : ∃ y_ : List (S25), y_ = (x317001_1 ++ [(⟨t318, t319, t320⟩ : S25)]) := ⟨_, rfl⟩
      replace H : (cabinetryref03_Blanks.l0 k1 l0 (wrap64 (x4_1 + 1)) false y321) = some (r1, r2) := by rw [hy321]; exact H
      have Ny321 := Z0 hy321
      clear hy321
      have H' := Z0 H
      clear H
      try go_wp2
      have n0_ := Z0 (Kd.R_drew HO_317001.out)
      have n1_ := Z0 (Y5 BK315.out)
      have n2_ := Z0 (Y5 BK316.out)
      have n3_ := Z0 (Z9 HB.out)
      clear HO_317001
      clear BK315
      clear BK316
      clear HB
      have HO_317001 := n0_
      have BK315 := n1_
      have BK316 := n2_
      have HB := n3_
      clear n0_ n1_ n2_ n3_
      have p317 : 0 ≤ (x4_1 : Int) := of_decide_eq_true (by first | (with_reducible assumption) | assumption)
      have q317 : x4_1 < (l0.length : Int) := of_decide_eq_true (by first | (with_reducible assumption) | assumption)
      obtain ⟨ad317, e317, hx317_0, hx317_1, hx317_2, hx317_3⟩ := at_T23 HR0.out x4_1 p317 q317
      have hw317_3 := hx317_3
      have hw317_2 := hx317_2
      have hw317_1 := hx317_1
      have hw317_0 := hx317_0
      cases e317
      replace hx317_0 := (HB.out.cell (World.block_lt_of_cell? w _ hx317_0)).trans hx317_0
      replace hx317_1 := (HB.out.cell (World.block_lt_of_cell? w _ hx317_1)).trans hx317_1
      replace hx317_2 := (HB.out.cell (World.block_lt_of_cell? w _ hx317_2)).trans hx317_2
      replace hx317_3 := (HB.out.cell (World.block_lt_of_cell? w _ hx317_3)).trans hx317_3
      replace p317 := eq_true p317
      replace q317 := eq_true q317
      refine start_ (n := 11) (S := fun w' => w'.cell? ⟨gb316, 0, none⟩ = some (.bool false) ∧ w'.cell? ⟨gb316, 1, none⟩ = some (u317001) ∧ w'.cell? (ad317.add ((x4_1).toNat * 4)) = some (.string ((rd_T23 l0 x4_1).f0)) ∧ w'.cell? ⟨(ad317.add ((x4_1).toNat * 4)).block, (ad317.add ((x4_1).toNat * 4)).off + 1, none⟩ = some (.int .i64 ((rd_T23 l0 x4_1).f1)) ∧ w'.cell? ⟨(ad317.add ((x4_1).toNat * 4)).block, (ad317.add ((x4_1).toNat * 4)).off + 2, none⟩ = some (.int .i64 ((rd_T23 l0 x4_1).f2)) ∧ w'.cell? ⟨(ad317.add ((x4_1).toNat * 4)).block, (ad317.add ((x4_1).toNat * 4)).off + 3, none⟩ = some (.bool ((rd_T23 l0 x4_1).f3))) (ds := [10]) #[false, false, false, false, false, false, false, false, false, false, false] (by kernel_rfl) rfl rfl ⟨(Z2 BK316.out 0).trans rfl, (Z2 BK316.out 1).trans rfl, ((HB.out.cell (World.block_lt_of_cell? w _ hw317_0)).trans hw317_0), ((HB.out.cell (World.block_lt_of_cell? w _ hw317_1)).trans hw317_1), ((HB.out.cell (World.block_lt_of_cell? w _ hw317_2)).trans hw317_2), ((HB.out.cell (World.block_lt_of_cell? w _ hw317_3)).trans hw317_3)⟩ (fun hHeld => ?_); refine with_tabW cabinetryref03_Blanks.tab5 cabinetryref03_Blanks.bits5 (fun HT_ HW_ => ?_)
      generalize wr.drew = w8 at HO_317001 BK315 BK316 HB hx317_0 hx317_1 hx317_2 hx317_3 hHeld ⊢
      refine pure_ (i := 0) (N := some 11) (v := ?_) (a' := ?_) #[true, false, false, false, false, false, false, false, false, false, false] rfl rfl (any_of HT_.out (by kernel_rfl)) (fun _ _ _ h => h) (Or.inl ⟨by rfl, ?_⟩) ?_ ?_
      rotate_left
      ·intro w'
       go_simp
       with_reducible rfl
      rotate_left
      ·simp only [Act.put, Z3, Z5, Z6, i64_w, i32_w]
       rfl
      refine pure_ (i := 2) (N := some 13) (v := ?_) (a' := ?_) #[true, false, true, false, false, false, false, false, false, false, false] rfl rfl (any_of HT_.out (by kernel_rfl)) (fun _ _ _ h => h) (Or.inl ⟨by rfl, ?_⟩) ?_ ?_
      rotate_left
      ·intro w'
       go_simp
       with_reducible rfl
      rotate_left
      ·simp only [Act.put, Z3, Z5, Z6, i64_w, i32_w]
       rfl
      refine pure_ (i := 3) (N := some 14) (v := ?_) (a' := ?_) #[true, false, true, true, false, false, false, false, false, false, false] rfl rfl (any_of HT_.out (by kernel_rfl)) (fun _ _ _ h => h) (Or.inl ⟨by rfl, ?_⟩) ?_ ?_
      rotate_left
      ·intro w'
       go_simp
       with_reducible rfl
      rotate_left
      ·simp only [Act.put, Z3, Z5, Z6, i64_w, i32_w]
       rfl
      refine pure_ (i := 4) (N := some 15) (v := ?_) (a' := ?_) #[true, false, true, true, true, false, false, false, false, false, false] rfl rfl (any_of HT_.out (by kernel_rfl)) (fun _ _ _ h => h) (Or.inl ⟨by rfl, ?_⟩) ?_ ?_
      rotate_left
      ·intro w'
       go_simp
       with_reducible rfl
      rotate_left
      ·simp only [Act.put, Z3, Z5, Z6, i64_w, i32_w]
       rfl
      refine take_ (i := 1) (N := some 12) (v := ?_) (a' := ?_) #[true, true, true, true, true, false, false, false, false, false, false] rfl rfl (take_ofW HT_.out HW_.out (by kernel_rfl)) (fun _ _ _ h => h) (Or.inl ⟨by rfl, ?_⟩) hHeld ?_ ?_
      rotate_left
      ·rintro w' ⟨s0, s1, s2, s3, s4, s5⟩
       go_simp
       with_reducible rfl
      rotate_left
      ·simp only [Act.put, Z3, Z5, Z6, i64_w, i32_w]
       rfl
      refine take_ (i := 5) (N := some 16) (v := ?_) (a' := ?_) #[true, true, true, true, true, true, false, false, false, false, false] rfl rfl (take_ofW HT_.out HW_.out (by kernel_rfl)) (fun _ _ _ h => h) (Or.inl ⟨by rfl, ?_⟩) hHeld ?_ ?_
      rotate_left
      ·rintro w' ⟨s0, s1, s2, s3, s4, s5⟩
       go_simp
       with_reducible rfl
      rotate_left
      ·simp only [Act.put, Z3, Z5, Z6, i64_w, i32_w]
       rfl
      refine one_ (i := 6) (N := some 17) #[true, true, true, true, true, true, true, false, false, false, false] rfl rfl (one_of HT_.out (by kernel_rfl)) (by decide) (fun K hK => ?_)
      refine goes_ Tryz.func87 (by kernel_rfl) rfl #[.agg #[.string ((rd_T23 l0 x4_1).f0), .int .i64 ((rd_T23 l0 x4_1).f1), .int .i64 ((rd_T23 l0 x4_1).f2), .bool ((rd_T23 l0 x4_1).f3)]] (by rfl) rfl rfl (by (try simp only [Y2, Y7, Y8]); first | done | rfl) ?_
      with_reducible refine (cabinetryref03_Empty.calls ((rd_T23 l0 x4_1).f0) ((rd_T23 l0 x4_1).f1) ((rd_T23 l0 x4_1).f2) ((rd_T23 l0 x4_1).f3) t318 t319 t320 _ A6.out).mono ?_
      rintro e w9 ⟨rfl, hb⟩
      refine ⟨_, rfl, ?_⟩
      have n0_ := Z0 (Kd.R_below HO_317001.out hb)
      have n1_ := Z0 (Y1 (g := gb315) (o := .cells #[.bool false, .slice none 0 0] 46 (0, 0)) BK315.out hb)
      have n2_ := Z0 (Y1 (g := gb316) (o := .cells #[.bool false, u317001] 46 (0, 0)) BK316.out hb)
      have n3_ := Z0 (Y0 HB.out hb)
      clear HO_317001
      clear BK315
      clear BK316
      clear HB
      have HO_317001 := n0_
      have BK315 := n1_
      have BK316 := n2_
      have HB := n3_
      clear n0_ n1_ n2_ n3_
      (try clear hb)
      (try clear hb2)
      (try clear hk)
      (try clear hi)
      refine hK.out _ _ ⟨(Z2 BK316.out 0).trans rfl, (Z2 BK316.out 1).trans rfl, ((HB.out.cell (World.block_lt_of_cell? w _ hw317_0)).trans hw317_0), ((HB.out.cell (World.block_lt_of_cell? w _ hw317_1)).trans hw317_1), ((HB.out.cell (World.block_lt_of_cell? w _ hw317_2)).trans hw317_2), ((HB.out.cell (World.block_lt_of_cell? w _ hw317_3)).trans hw317_3)⟩ (fun hHeld => ?_)
      clear hK K
      refine norm_ (a' := ?_) ?_ ?_
      rotate_left
      ·show Act.put _ (some 17) _ = _
       simp only [Act.put, Z3, Z5, Z6, i64_w, i32_w]
       rfl
      refine one_ (i := 7) (N := some 18) #[true, true, true, true, true, true, true, true, false, false, false] rfl rfl (one_of HT_.out (by kernel_rfl)) (by decide) (fun K hK => ?_)
      refine value_ (w1 := ?_) (v := ?_) (by rfl) rfl ?_ ?_
      rotate_left 2
      ·go_simp
       constructor
       ·rfl
       ·rfl
      refine hK.out _ _ ⟨(Z2 (Y3 BK316.out _) 0).trans rfl, (Z2 (Y3 BK316.out _) 1).trans rfl, (World.cell?_alloc_lt _ _ _ (World.block_lt_of_cell? _ _ (((HB.out.cell (World.block_lt_of_cell? w _ hw317_0)).trans hw317_0)))).trans (((HB.out.cell (World.block_lt_of_cell? w _ hw317_0)).trans hw317_0)), (World.cell?_alloc_lt _ _ _ (World.block_lt_of_cell? _ _ (((HB.out.cell (World.block_lt_of_cell? w _ hw317_1)).trans hw317_1)))).trans (((HB.out.cell (World.block_lt_of_cell? w _ hw317_1)).trans hw317_1)), (World.cell?_alloc_lt _ _ _ (World.block_lt_of_cell? _ _ (((HB.out.cell (World.block_lt_of_cell? w _ hw317_2)).trans hw317_2)))).trans (((HB.out.cell (World.block_lt_of_cell? w _ hw317_2)).trans hw317_2)), (World.cell?_alloc_lt _ _ _ (World.block_lt_of_cell? _ _ (((HB.out.cell (World.block_lt_of_cell? w _ hw317_3)).trans hw317_3)))).trans (((HB.out.cell (World.block_lt_of_cell? w _ hw317_3)).trans hw317_3))⟩ (fun hHeld => ?_)
      clear hK K
      refine norm_ (a' := ?_) ?_ ?_
      rotate_left
      ·show Act.put _ (some 18) _ = _
       simp only [Act.put, Z3, Z5, Z6, i64_w, i32_w]
       rfl
      refine one_ (i := 8) (N := some 19) #[true, true, true, true, true, true, true, true, true, false, false] rfl rfl (one_of HT_.out (by kernel_rfl)) (by decide) (fun K hK => ?_)
      refine Kd.R_append_step k25 (w0 := w) w.heap.size (by rfl) (.tmp 12) (.tmp 18) 44 25 (.agg #[(.int .i64 0), (.int .i64 0), (.string ⟨#[]⟩)]) 32 rfl Tryz.underlying44 info25 rfl (by decide) (by omega) u317001 x317001_1 (⟨t318, t319, t320⟩ : S25) [.int .i64 t318, .int .i64 t319, .string t320] (fun _ => True) (fun _ => False) rfl rfl ?aP (fun _ hk => hk.elim) ?aF ?aO ?aB ?aS ?aL ?_
      (case aP => exact k25_mkM _ _ _ (⟨t318, t319, t320⟩ : S25))
      (case aB => exact HB.out)
      (case aF => exact (fun _ _ => trivial))
      (case aO => exact HO_317001.out)
      (case aS => exact (Y6 HB.out))
      (case aL => have := LMc7.out; omega)
      intro v322 w10 ho hb hg hat
      rw [← Ny321.out] at ho
      have n0_ := Z0 (blk_grown (g := gb315) (o := .cells #[.bool false, .slice none 0 0] 46 (0, 0)) BK315.out hg (Kd.R_ne HO_317001.out BK315.out (by decide)))
      have n1_ := Z0 (blk_grown (g := gb316) (o := .cells #[.bool false, u317001] 46 (0, 0)) BK316.out hg (Kd.R_ne HO_317001.out BK316.out (by decide)))
      have n2_ := Z0 (hb)
      have n3_ := Z0 (ho)
      clear BK315
      clear BK316
      clear HB
      clear HO_317001
      have BK315 := n0_
      have BK316 := n1_
      have HB := n2_
      have HO323 := n3_
      clear n0_ n1_ n2_ n3_
      clear ho hb hg hat
      obtain ⟨Ao11, co11, eo11⟩ := Kd.R_slice HO323.out
      (first | subst eo11 | (injection eo11 with f1_ f2_ f3_; have f4_ := f1_.symm; have f5_ := f3_.symm; clear f1_ f2_ f3_; subst f4_; subst f5_))
      refine hK.out _ _ ⟨(Z2 BK316.out 0).trans rfl, (Z2 BK316.out 1).trans rfl, ((HB.out.cell (World.block_lt_of_cell? w _ hw317_0)).trans hw317_0), ((HB.out.cell (World.block_lt_of_cell? w _ hw317_1)).trans hw317_1), ((HB.out.cell (World.block_lt_of_cell? w _ hw317_2)).trans hw317_2), ((HB.out.cell (World.block_lt_of_cell? w _ hw317_3)).trans hw317_3)⟩ (fun hHeld => ?_)
      clear hK K
      refine norm_ (a' := ?_) ?_ ?_
      rotate_left
      ·show Act.put _ (some 19) _ = _
       simp only [Act.put, Z3, Z5, Z6, i64_w, i32_w]
       rfl
      refine pure_ (i := 9) (N := some 20) (v := ?_) (a' := ?_) #[true, true, true, true, true, true, true, true, true, true, false] rfl rfl (any_of HT_.out (by kernel_rfl)) (fun _ _ _ h => h) (Or.inl ⟨by rfl, ?_⟩) ?_ ?_
      rotate_left
      ·intro w'
       go_simp
       with_reducible rfl
      rotate_left
      ·simp only [Act.put, Z3, Z5, Z6, i64_w, i32_w]
       rfl
      refine last_ (i := 10) (N := none) #[true, true, true, true, true, true, true, true, true, true, true] rfl rfl (one_of HT_.out (by kernel_rfl)) (by decide) (fun K hK => ?_)
      have hs12 : w10.cell? ⟨gb316, 1, none⟩ = some (u317001) := (Z2 BK316.out 1).trans rfl
      have hfs12 := Z1 BK316.out 1
      have hns12_0 := NB315_316.out
      have hms12_0 := NB316_315.out
      refine skip_ (w1 := ?_) (by rfl) rfl ?_ ?_
      rotate_left
      ·go_simp
       rfl
      refine hK.out _ _ ?_
      clear hK K
      refine done_ (done_of HT_.out (by kernel_rfl)) ?_
      try go_wp2
      go_roundg k1
      case measure => have := HK1.out; omega
      case rel => exact ⟨(wrap64 (x4_1 + 1)), (y321), (.slice Ao11 y321.length co11), (by first | rfl | (simp; done) | (simp [*]; done)), H', ⟨by have := HK1.out; omega⟩, ⟨by (with_reducible repeat (first | apply Kd.R_alloc | apply Kd.R_drewN | apply Kd.R_drew)); exact Kd.R_mono (Kd.R_far (p := ⟨gb316, 1, none⟩) (Kd.R_types HO323.out BK316.out (by decide)) (fun _ hk => hk.2) (.slice Ao11 y321.length co11)) (fun _ hk => trivial)⟩, ⟨by (with_reducible repeat (first | refine Y4 ?_ _ | refine Y5 ?_ | refine Y3 ?_ _)); refine blk_far ?_ NB315_316.out _; (with_reducible repeat (first | refine Y4 ?_ _ | refine Y5 ?_ | refine Y3 ?_ _)); exact BK315.out⟩, ⟨by (with_reducible repeat (first | refine Y4 ?_ _ | refine Y5 ?_ | refine Y3 ?_ _)); refine X7 (cs := #[.bool false, u317001]) ?_ 1 _ rfl; (with_reducible repeat (first | refine Y4 ?_ _ | refine Y5 ?_ | refine Y3 ?_ _)); exact BK316.out⟩, ⟨by repeat (first | (with_reducible first | exact HB.out | apply Z7 | apply Z4 | apply Z9 | refine Z8 ?_ GE315.out | refine Z8 ?_ GE316.out) | exact HB.out)⟩⟩
     ·rw [if_neg c7] at H
      exact absurd H (by simp)
    ·rw [if_neg c5] at H
     exact absurd H (by simp)
   ·rw [if_neg c4] at H
    have c4b0 : decide (x4_1 < (l0.length : Int)) = false := decide_eq_false c4
    clear c4
    simp only [Option.some.injEq, Prod.mk.injEq] at H
    obtain ⟨rfl, rfl⟩ := H
    have hnb13 := NB316_315.out
    have hnc13 := NB315_316.out
    have hcz14_0 : wr.cell? ⟨gb316, 0, none⟩ = some (.bool false) := (Z2 BK316.out 0).trans rfl
    have hcz14_1 : wr.cell? ⟨gb316, 1, none⟩ = some (u317001) := (Z2 BK316.out 1).trans rfl
    have hfz14_0 := Z1 BK316.out 0
    have hfz14_1 := Z1 BK316.out 1
    have hcz15_0 : wr.cell? ⟨gb315, 0, none⟩ = some (.bool false) := (Z2 BK315.out 0).trans rfl
    have hcz15_1 : wr.cell? ⟨gb315, 1, none⟩ = some (.slice none 0 0) := (Z2 BK315.out 1).trans rfl
    have hfz15_0 := Z1 BK315.out 0
    have hfz15_1 := Z1 BK315.out 1
    obtain ⟨Ao16, co16, eo16⟩ := Kd.R_slice HO_317001.out
    subst eo16
    go_wp2
    refine bodyPost_ret (results_cell_row rfl _ _ gb315 46 #[.bool false, .slice Ao16 x317001_1.length co16] (0, 0) _ rfl (by (with_reducible repeat (first | refine Y4 ?_ _ | refine Y5 ?_ | refine Y3 ?_ _)); refine X7 (cs := #[.bool false, .slice none 0 0]) ?_ 1 _ rfl; (with_reducible repeat (first | refine Y4 ?_ _ | refine Y5 ?_ | refine Y3 ?_ _)); refine X7 (cs := #[.bool false, .slice none 0 0]) ?_ 0 _ rfl; (with_reducible repeat (first | refine Y4 ?_ _ | refine Y5 ?_ | refine Y3 ?_ _)); exact BK315.out) Tryz.underlying46 rfl (by kernel_rfl)) rfl ?_
    exact ⟨_, rfl, by (with_reducible repeat (first | apply Kd.R_alloc | apply Kd.R_drewN | apply Kd.R_drew)); exact Kd.R_mono (Kd.R_far (p := ⟨gb315, 1, none⟩) (Kd.R_far (p := ⟨gb315, 0, none⟩) (Kd.R_types HO_317001.out BK315.out (by decide)) (fun _ hk => hk.2) (.bool false)) (fun _ hk => hk.2) (.slice Ao16 x317001_1.length co16)) (fun _ hk => trivial), by repeat (first | (with_reducible first | exact HB.out | apply Z7 | apply Z4 | apply Z9 | refine Z8 ?_ GE315.out | refine Z8 ?_ GE316.out) | exact HB.out)⟩
def cabinetryref03_Blank.f (k : Nat) (l0 : List (S23)) : Option (Bool × (List (S25)) × Int) := (cabinetryref03_ValidateFields.f k l0).bind fun t325 => (if t325 = 0 then ((cabinetryref03_Blanks.f k l0).bind fun bt326 => (some (bt326.1, bt326.2, 0))) else (some (false, ([] : List (S25)), t325)))
theorem cabinetryref03_Blank.mono : ∀ a0 k, LeO (cabinetryref03_Blank.f k a0) (cabinetryref03_Blank.f (k + 1) a0) := by
 intro a0 k
 unfold cabinetryref03_Blank.f
 repeat' first
   | (with_reducible exact cabinetryref03_Blanks.mono _ _)
   | (with_reducible exact cabinetryref03_ValidateFields.mono _ _)
   | (with_reducible exact LeO.refl _)
   | (with_reducible exact X2 _)
   | (with_reducible refine X4 ?_ ?_)
   | (with_reducible refine X3 ?_ (fun _ => ?_))
   | exact cabinetryref03_Blanks.mono _ _
   | exact cabinetryref03_ValidateFields.mono _ _
   | exact X2 _
   | refine X4 ?_ ?_
   | refine X3 ?_ (fun _ => ?_)
set_option maxHeartbeats 8000000 in
set_option maxRecDepth 100000 in
theorem cabinetryref03_Blank.calls (k : Nat) (A0 : Option Addr) (c0 : Nat) (l0 : List (S23)) (r1 : Bool) (r2 : List (S25)) (r3 : Int) (w : World) (hr0 : Kd.C k23 w A0 l0.length l0) (hc0 : l0.length ≤ c0) (h : cabinetryref03_Blank.f k l0 = some (r1, r2, r3)) :
  Calls Tryz.prog 26 #[.slice A0 l0.length c0] w fun e w' => ∃ v1_ : Value, e = .returned (.tuple #[.agg #[.bool r1, v1_], .int .i64 r3]) ∧ Kd.R k25 25 w' w.heap.size (fun _ => True) v1_ r2 ∧ Below w.heap.size w w' := by
 have hu46 := Tryz.underlying46
 have HR0 := Z0 hr0
 have HC0 := Z0 hc0
 clear hr0 hc0
 have HB := Z0 (Below.refl w.heap.size w)
 have H : ((cabinetryref03_ValidateFields.f k l0).bind fun t325 => (if t325 = 0 then ((cabinetryref03_Blanks.f k l0).bind fun bt326 => (some (bt326.1, bt326.2, 0))) else (some (false, ([] : List (S25)), t325)))) = some (r1, r2, r3) := h
 clear h
 replace H := Option.bind_eq_some_iff.mp H
 obtain ⟨t325, A20, H⟩ := H
 replace H : (if t325 = 0 then ((cabinetryref03_Blanks.f k l0).bind fun bt326 => (some (bt326.1, bt326.2, 0))) else (some (false, ([] : List (S25)), t325))) = some (r1, r2, r3) := H
 have A2 := Z0 A20
 clear A20
 by_cases c3 : t325 = 0
 ·rw [if_pos c3] at H
  have c3b0 : (t325 == 0) = true := beq_iff_eq.mpr c3
  have c3b1 : (t325 != 0) = false := bne_eq_false_iff_eq.mpr c3
  clear c3
  replace H := Option.bind_eq_some_iff.mp H
  obtain ⟨⟨t326, t327⟩, A40, H⟩ := H
  replace H : (some (t326, t327, 0)) = some (r1, r2, r3) := H
  have A4 := Z0 A40
  clear A40
  simp only [Option.some.injEq, Prod.mk.injEq] at H
  obtain ⟨rfl, rfl, rfl⟩ := H
  go_enter Tryz.func26, Tryz.ntmps26
  go_wp2_with (first | ((with_reducible refine X0 (N := 2) rfl ?_); refine Y9 ?hg (N := 2) ?hd (cs := #[.bool false, .slice none 0 0]) (t := 46) ?hr ?_; (case hd => rfl); (case hg => rfl); (case hr => go_simp; try rfl); intro gb324 hg w5 hbox hb; have n0_ := Z0 (Y0 HB.out hb); have n1_ := Z0 (hbox); have n3_ := Z0 ((by rw [hg]; exact (Y6 HB.out) : w.heap.size ≤ gb324)); clear HB; have HB := n0_; have BK324 := n1_; have GE324 := n3_; clear n0_ n1_ n3_; clear hb hbox hg) | ((with_reducible refine X1 (f := 37) rfl ?_); refine goesL_ (some 6) rfl rfl Tryz.func37 (by kernel_rfl) rfl #[.slice A0 l0.length c0] rfl (by (try simp only [Y2, Y7, Y8]); first | done | rfl) ?_; (with_reducible refine (cabinetryref03_ValidateFields.calls k _ _ l0 t325 _ ?side1 ?side2 A2.out).mono ?_); (case side1 => repeat (first | exact (Kd.C_below HR0.out HB.out) | (with_reducible refine Kd.C_alloc ?_ _) | (with_reducible refine Kd.C_drewN ?_ _) | (with_reducible refine Kd.C_drew ?_))); (case side2 => exact HC0.out); rintro e w6 ⟨rfl, hb⟩; refine ⟨_, rfl, ?_⟩; have n0_ := Z0 (Y1 (g := gb324) (o := .cells #[.bool false, .slice none 0 0] 46 (0, 0)) BK324.out hb); have n1_ := Z0 (Y0 HB.out hb); clear BK324; clear HB; have BK324 := n0_; have HB := n1_; clear n0_ n1_; (try clear hb); (try clear hb2); (try clear hk); (try clear hi)) | ((with_reducible refine X1 (f := 65) rfl ?_); refine goesL_ (some 12) rfl rfl Tryz.func65 (by kernel_rfl) rfl #[.slice A0 l0.length c0] rfl (by (try simp only [Y2, Y7, Y8]); first | done | rfl) ?_; (with_reducible refine (cabinetryref03_Blanks.calls k _ _ l0 t326 t327 _ ?side1 ?side2 A4.out).mono ?_); (case side1 => repeat (first | exact (Kd.C_below HR0.out HB.out) | (with_reducible refine Kd.C_alloc ?_ _) | (with_reducible refine Kd.C_drewN ?_ _) | (with_reducible refine Kd.C_drew ?_))); (case side2 => exact HC0.out); rintro e w7 ⟨v328, rfl, ho0, hb⟩; refine ⟨_, rfl, ?_⟩; have n0_ := Z0 (Kd.R_lower ho0 (Y6 HB.out)); have n1_ := Z0 (Y1 (g := gb324) (o := .cells #[.bool false, .slice none 0 0] 46 (0, 0)) BK324.out hb); have n2_ := Z0 (Y0 HB.out hb); clear BK324; clear HB; have HO329 := n0_; have BK324 := n1_; have HB := n2_; clear n0_ n1_ n2_; (try clear hb); (try clear hb2); (try clear hk); (try clear hi); (try clear ho0); have hcz8_0 : w7.cell? ⟨gb324, 0, none⟩ = some (.bool false) := (Z2 BK324.out 0).trans rfl; have hcz8_1 : w7.cell? ⟨gb324, 1, none⟩ = some (.slice none 0 0) := (Z2 BK324.out 1).trans rfl; have hfz8_0 := Z1 BK324.out 0; have hfz8_1 := Z1 BK324.out 1; obtain ⟨Ao9, co9, eo9⟩ := Kd.R_slice HO329.out; subst eo9))
  refine bodyPost_ret (results_ct rfl _ _ gb324 46 #[.bool t326, .slice Ao9 t327.length co9] (0, 0) _ rfl (by (with_reducible repeat (first | refine Y4 ?_ _ | refine Y5 ?_ | refine Y3 ?_ _)); refine X7 (cs := #[.bool t326, .slice none 0 0]) ?_ 1 _ rfl; (with_reducible repeat (first | refine Y4 ?_ _ | refine Y5 ?_ | refine Y3 ?_ _)); refine X7 (cs := #[.bool false, .slice none 0 0]) ?_ 0 _ rfl; (with_reducible repeat (first | refine Y4 ?_ _ | refine Y5 ?_ | refine Y3 ?_ _)); exact BK324.out) Tryz.underlying46 rfl (by kernel_rfl)) rfl ?_
  exact ⟨_, rfl, by (with_reducible repeat (first | apply Kd.R_alloc | apply Kd.R_drewN | apply Kd.R_drew)); exact Kd.R_mono (Kd.R_far (p := ⟨gb324, 1, none⟩) (Kd.R_far (p := ⟨gb324, 0, none⟩) (Kd.R_types HO329.out BK324.out (by decide)) (fun _ hk => hk.2) (.bool t326)) (fun _ hk => hk.2) (.slice Ao9 t327.length co9)) (fun _ hk => trivial), by repeat (first | (with_reducible first | exact HB.out | apply Z7 | apply Z4 | apply Z9 | refine Z8 ?_ GE324.out) | exact HB.out)⟩
 ·rw [if_neg c3] at H
  have c3b0 : (t325 == 0) = false := beq_eq_false_iff_ne.mpr c3
  have c3b1 : (t325 != 0) = true := bne_iff_ne.mpr c3
  simp only [Option.some.injEq, Prod.mk.injEq] at H
  obtain ⟨rfl, rfl, rfl⟩ := H
  go_enter Tryz.func26, Tryz.ntmps26
  go_wp2_with (first | ((with_reducible refine X0 (N := 2) rfl ?_); refine Y9 ?hg (N := 2) ?hd (cs := #[.bool false, .slice none 0 0]) (t := 46) ?hr ?_; (case hd => rfl); (case hg => rfl); (case hr => go_simp; try rfl); intro gb324 hg w10 hbox hb; have n0_ := Z0 (Y0 HB.out hb); have n1_ := Z0 (hbox); have n3_ := Z0 ((by rw [hg]; exact (Y6 HB.out) : w.heap.size ≤ gb324)); clear HB; have HB := n0_; have BK324 := n1_; have GE324 := n3_; clear n0_ n1_ n3_; clear hb hbox hg) | ((with_reducible refine X1 (f := 37) rfl ?_); refine goesL_ (some 6) rfl rfl Tryz.func37 (by kernel_rfl) rfl #[.slice A0 l0.length c0] rfl (by (try simp only [Y2, Y7, Y8]); first | done | rfl) ?_; (with_reducible refine (cabinetryref03_ValidateFields.calls k _ _ l0 t325 _ ?side1 ?side2 A2.out).mono ?_); (case side1 => repeat (first | exact (Kd.C_below HR0.out HB.out) | (with_reducible refine Kd.C_alloc ?_ _) | (with_reducible refine Kd.C_drewN ?_ _) | (with_reducible refine Kd.C_drew ?_))); (case side2 => exact HC0.out); rintro e w11 ⟨rfl, hb⟩; refine ⟨_, rfl, ?_⟩; have n0_ := Z0 (Y1 (g := gb324) (o := .cells #[.bool false, .slice none 0 0] 46 (0, 0)) BK324.out hb); have n1_ := Z0 (Y0 HB.out hb); clear BK324; clear HB; have BK324 := n0_; have HB := n1_; clear n0_ n1_; (try clear hb); (try clear hb2); (try clear hk); (try clear hi); have hcz12_0 : w11.cell? ⟨gb324, 0, none⟩ = some (.bool false) := (Z2 BK324.out 0).trans rfl; have hcz12_1 : w11.cell? ⟨gb324, 1, none⟩ = some (.slice none 0 0) := (Z2 BK324.out 1).trans rfl; have hfz12_0 := Z1 BK324.out 0; have hfz12_1 := Z1 BK324.out 1))
  refine bodyPost_ret (results_ct rfl _ _ gb324 46 #[.bool false, .slice none 0 0] (0, 0) _ rfl (by (with_reducible repeat (first | refine Y4 ?_ _ | refine Y5 ?_ | refine Y3 ?_ _)); refine X7 (cs := #[.bool false, .slice none 0 0]) ?_ 1 _ rfl; (with_reducible repeat (first | refine Y4 ?_ _ | refine Y5 ?_ | refine Y3 ?_ _)); refine X7 (cs := #[.bool false, .slice none 0 0]) ?_ 0 _ rfl; (with_reducible repeat (first | refine Y4 ?_ _ | refine Y5 ?_ | refine Y3 ?_ _)); exact BK324.out) Tryz.underlying46 rfl (by kernel_rfl)) rfl ?_
  exact ⟨_, rfl, by first | exact Kd.R_nil _ _ _ _ _ | exact Kd.N_nil _ _ _ _ _ | exact Kd.V_nil _ _ _ _ _ | exact Kd.Q_nil _ _ _ _ _ | exact Kd.S_nil _ _ _ _ _, by repeat (first | (with_reducible first | exact HB.out | apply Z7 | apply Z4 | apply Z9 | refine Z8 ?_ GE324.out) | exact HB.out)⟩
def cabinetryref03_Index.l0 : Nat → List (S23) → ByteArray → Int → Option (Int × Bool)
 | 0, _, _, _ => none
 | k + 1, x0, x1, x6 => if x6 < (x0.length : Int) then (if 0 ≤ x6 then (if ((rd_T23 x0 x6).f0).toList = x1.toList then (some (x6, true)) else (cabinetryref03_Index.l0 k x0 x1 (wrap64 (x6 + 1)))) else (none)) else (some (0, false))
def cabinetryref03_Index.f (k : Nat) (l0 : List (S23)) (a1 : ByteArray) : Option (Int × Bool) := cabinetryref03_Index.l0 k l0 a1 0
theorem cabinetryref03_Index.mono_l : ∀ k, (∀ y0 y1 y2, LeO (cabinetryref03_Index.l0 k y0 y1 y2) (cabinetryref03_Index.l0 (k + 1) y0 y1 y2))
 | 0 => fun _ _ _ r h => by simp [cabinetryref03_Index.l0] at h
 | k + 1 => by
  have ih0 := cabinetryref03_Index.mono_l k
  ·intro y0 y1 y2
   unfold cabinetryref03_Index.l0
   repeat' first
   | (with_reducible exact ih0 _ _ _)
   | (with_reducible exact LeO.refl _)
   | (with_reducible exact X2 _)
   | (with_reducible refine X4 ?_ ?_)
   | (with_reducible refine X3 ?_ (fun _ => ?_))
   | exact ih0 _ _ _
   | exact X2 _
   | refine X4 ?_ ?_
   | refine X3 ?_ (fun _ => ?_)
theorem cabinetryref03_Index.mono : ∀ a0 a1 k, LeO (cabinetryref03_Index.f k a0 a1) (cabinetryref03_Index.f (k + 1) a0 a1) := by
 intro a0 a1 k
 have ih0 := cabinetryref03_Index.mono_l k
 unfold cabinetryref03_Index.f
 repeat' first
   | (with_reducible exact ih0 _ _ _)
   | (with_reducible exact LeO.refl _)
   | (with_reducible exact X2 _)
   | (with_reducible refine X4 ?_ ?_)
   | (with_reducible refine X3 ?_ (fun _ => ?_))
   | exact ih0 _ _ _
   | exact X2 _
   | refine X4 ?_ ?_
   | refine X3 ?_ (fun _ => ?_)
set_option maxHeartbeats 8000000 in
set_option maxRecDepth 100000 in
theorem cabinetryref03_Index.calls (k : Nat) (A0 : Option Addr) (c0 : Nat) (l0 : List (S23)) (a1 : ByteArray) (r1 : Int) (r2 : Bool) (w : World) (hr0 : Kd.C k23 w A0 l0.length l0) (hc0 : l0.length ≤ c0) (h : cabinetryref03_Index.f k l0 a1 = some (r1, r2)) :
  Calls Tryz.prog 28 #[.slice A0 l0.length c0, .string a1] w fun e w' => e = .returned (.tuple #[.int .i64 r1, .bool r2]) ∧ Drawn0 w w' := by
 have HR0 := Z0 hr0
 have HC0 := Z0 hc0
 clear hr0 hc0
 have H : (cabinetryref03_Index.l0 k l0 a1 0) = some (r1, r2) := h
 clear h
 have H' := Z0 H
 clear H
 go_enter Tryz.func28, Tryz.ntmps28
 go_wp2
 go_loopg [6] k (fun kq v6 w' => ∃ (x6_1 : Int), v6 = .int .i64 x6_1 ∧ Aside0 (cabinetryref03_Index.l0 kq l0 a1 x6_1 = some (r1, r2)) ∧ Aside0 (kq ≤ k) ∧ Drawn0 w w')
 case atStart => exact ⟨(0), (by first | rfl | (simp; done) | (simp [*]; done)), H', ⟨Nat.le_refl _⟩, by repeat (first | exact X6 _ | apply X5)⟩
 case round =>
  clear H'
  (try clear c2);(try clear p2)
  obtain ⟨x6_1, rfl, HA, HK1, ⟨m1, rfl⟩⟩ := hrel
  cases gk with
  | zero => exact absurd HA.out (by simp [cabinetryref03_Index.l0])
  | succ k1 =>
   have H := HA.out
   clear HA
   simp only [cabinetryref03_Index.l0] at H
   by_cases c3 : x6_1 < (l0.length : Int)
   ·rw [if_pos c3] at H
    have c3b0 : decide (x6_1 < (l0.length : Int)) = true := decide_eq_true c3
    clear c3
    by_cases c4 : 0 ≤ x6_1
    ·rw [if_pos c4] at H
     have c4b0 : decide (0 ≤ x6_1) = true := decide_eq_true c4
     clear c4
     by_cases c5 : ((rd_T23 l0 x6_1).f0).toList = a1.toList
     ·rw [if_pos c5] at H
      have c5b0 : (((rd_T23 l0 x6_1).f0).toList == a1.toList) = true := beq_iff_eq.mpr c5
      have c5b1 : (((rd_T23 l0 x6_1).f0).toList != a1.toList) = false := bne_eq_false_iff_eq.mpr c5
      clear c5
      simp only [Option.some.injEq, Prod.mk.injEq] at H
      obtain ⟨rfl, rfl⟩ := H
      have p330 : 0 ≤ (x6_1 : Int) := of_decide_eq_true (by first | (with_reducible assumption) | assumption)
      have q330 : x6_1 < (l0.length : Int) := of_decide_eq_true (by first | (with_reducible assumption) | assumption)
      obtain ⟨ad330, e330, hx330_0, hx330_1, hx330_2, hx330_3⟩ := at_T23 HR0.out x6_1 p330 q330
      cases e330
      replace p330 := eq_true p330
      replace q330 := eq_true q330
      go_wp2
      go_ret2
      exact ⟨by first | rfl | (simp; done) | (simp [*]; done), by repeat (first | exact X6 _ | apply X5)⟩
     ·rw [if_neg c5] at H
      have c5b0 : (((rd_T23 l0 x6_1).f0).toList == a1.toList) = false := beq_eq_false_iff_ne.mpr c5
      have c5b1 : (((rd_T23 l0 x6_1).f0).toList != a1.toList) = true := bne_iff_ne.mpr c5
      have H' := Z0 H
      clear H
      have p330 : 0 ≤ (x6_1 : Int) := of_decide_eq_true (by first | (with_reducible assumption) | assumption)
      have q330 : x6_1 < (l0.length : Int) := of_decide_eq_true (by first | (with_reducible assumption) | assumption)
      obtain ⟨ad330, e330, hx330_0, hx330_1, hx330_2, hx330_3⟩ := at_T23 HR0.out x6_1 p330 q330
      cases e330
      replace p330 := eq_true p330
      replace q330 := eq_true q330
      go_wp2
      go_roundg k1
      case measure => have := HK1.out; omega
      case rel => exact ⟨(wrap64 (x6_1 + 1)), (by first | rfl | (simp; done) | (simp [*]; done)), H', ⟨by have := HK1.out; omega⟩, by repeat (first | exact X6 _ | apply X5)⟩
    ·rw [if_neg c4] at H
     exact absurd H (by simp)
   ·rw [if_neg c3] at H
    have c3b0 : decide (x6_1 < (l0.length : Int)) = false := decide_eq_false c3
    clear c3
    simp only [Option.some.injEq, Prod.mk.injEq] at H
    obtain ⟨rfl, rfl⟩ := H
    go_wp2
    go_ret2
    exact ⟨by first | rfl | (simp; done) | (simp [*]; done), by repeat (first | exact X6 _ | apply X5)⟩
def cabinetryref01_SameValues.l0 : Nat → List (S25) → List (S25) → Int → Option (Bool)
 | 0, _, _, _ => none
 | k + 1, x0, x1, x5 => if x5 < (x0.length : Int) then (if 0 ≤ x5 then (if x5 < (x1.length : Int) then ((cabinetryref01_SameValue.f k ((rd_T25 x0 x5).f0) ((rd_T25 x0 x5).f1) ((rd_T25 x0 x5).f2) ((rd_T25 x1 x5).f0) ((rd_T25 x1 x5).f1) ((rd_T25 x1 x5).f2)).bind fun t333 => (if t333 = true then (cabinetryref01_SameValues.l0 k x0 x1 (wrap64 (x5 + 1))) else (some false))) else (none)) else (none)) else (some true)
def cabinetryref01_SameValues.f (k : Nat) (l0 : List (S25)) (l1 : List (S25)) : Option (Bool) := if (l0.length : Int) = (l1.length : Int) then (cabinetryref01_SameValues.l0 k l0 l1 0) else (some false)
theorem cabinetryref01_SameValues.mono_l : ∀ k, (∀ y0 y1 y2, LeO (cabinetryref01_SameValues.l0 k y0 y1 y2) (cabinetryref01_SameValues.l0 (k + 1) y0 y1 y2))
 | 0 => fun _ _ _ r h => by simp [cabinetryref01_SameValues.l0] at h
 | k + 1 => by
  have ih0 := cabinetryref01_SameValues.mono_l k
  ·intro y0 y1 y2
   unfold cabinetryref01_SameValues.l0
   repeat' first
   | (with_reducible exact ih0 _ _ _)
   | (with_reducible exact cabinetryref01_SameValue.mono _ _ _ _ _ _ _)
   | (with_reducible exact LeO.refl _)
   | (with_reducible exact X2 _)
   | (with_reducible refine X4 ?_ ?_)
   | (with_reducible refine X3 ?_ (fun _ => ?_))
   | exact ih0 _ _ _
   | exact cabinetryref01_SameValue.mono _ _ _ _ _ _ _
   | exact X2 _
   | refine X4 ?_ ?_
   | refine X3 ?_ (fun _ => ?_)
theorem cabinetryref01_SameValues.mono : ∀ a0 a1 k, LeO (cabinetryref01_SameValues.f k a0 a1) (cabinetryref01_SameValues.f (k + 1) a0 a1) := by
 intro a0 a1 k
 have ih0 := cabinetryref01_SameValues.mono_l k
 unfold cabinetryref01_SameValues.f
 repeat' first
   | (with_reducible exact ih0 _ _ _)
   | (with_reducible exact cabinetryref01_SameValue.mono _ _ _ _ _ _ _)
   | (with_reducible exact LeO.refl _)
   | (with_reducible exact X2 _)
   | (with_reducible refine X4 ?_ ?_)
   | (with_reducible refine X3 ?_ (fun _ => ?_))
   | exact ih0 _ _ _
   | exact cabinetryref01_SameValue.mono _ _ _ _ _ _ _
   | exact X2 _
   | refine X4 ?_ ?_
   | refine X3 ?_ (fun _ => ?_)
def cabinetryref01_SameValues.T6 : Bool × List (List Nat × List Nat) := (true, [([], []), ([], []), ([0, 1], [0, 1]), ([2], [2]), ([], []), ([], []), ([4, 5], [4, 5]), ([6], [6]), ([3, 7], [3, 7]), ([8], [8])])
def cabinetryref01_SameValues.B6 : List Nat := [0, 0, 3, 7, 0, 0, 48, 112, 255, 511]
theorem cabinetryref01_SameValues.tab6 : rtab .any (opsOf Tryz.f68 6) = cabinetryref01_SameValues.T6 := by kernel_rfl
theorem cabinetryref01_SameValues.bits6 : waitsOk cabinetryref01_SameValues.T6.2 cabinetryref01_SameValues.B6 = true := by kernel_rfl
set_option maxHeartbeats 8000000 in
set_option maxRecDepth 100000 in
theorem cabinetryref01_SameValues.calls (k : Nat) (A0 : Option Addr) (c0 : Nat) (l0 : List (S25)) (A1 : Option Addr) (c1 : Nat) (l1 : List (S25)) (r : Bool) (w : World) (hr0 : Kd.C k25 w A0 l0.length l0) (hc0 : l0.length ≤ c0) (hr1 : Kd.C k25 w A1 l1.length l1) (hc1 : l1.length ≤ c1) (h : cabinetryref01_SameValues.f k l0 l1 = some r) :
  Calls Tryz.prog 68 #[.slice A0 l0.length c0, .slice A1 l1.length c1] w fun e w' => e = .returned (.bool r) ∧ Below w.heap.size w w' := by
 have hu25 := Tryz.underlying25
 have HR0 := Z0 hr0
 have HC0 := Z0 hc0
 clear hr0 hc0
 have HR1 := Z0 hr1
 have HC1 := Z0 hc1
 clear hr1 hc1
 have HB := Z0 (Below.refl w.heap.size w)
 have H : (if (l0.length : Int) = (l1.length : Int) then (cabinetryref01_SameValues.l0 k l0 l1 0) else (some false)) = some r := h
 clear h
 by_cases c3 : (l0.length : Int) = (l1.length : Int)
 ·rw [if_pos c3] at H
  have c3b0 : ((l0.length : Int) == (l1.length : Int)) = true := beq_iff_eq.mpr c3
  have c3b1 : ((l0.length : Int) != (l1.length : Int)) = false := bne_eq_false_iff_eq.mpr c3
  have c3b2 : (l0.length == l1.length) = true := by first | simpa using c3 | (simp at c3 ⊢; omega)
  clear c3
  have H' := Z0 H
  clear H
  go_enter Tryz.func68, Tryz.ntmps68
  go_wp2
  go_loopg [5] k (fun kq v5 w' => ∃ (x5_1 : Int), v5 = .int .i64 x5_1 ∧ Aside0 (cabinetryref01_SameValues.l0 kq l0 l1 x5_1 = some r) ∧ Aside0 (kq ≤ k) ∧ Aside0 (Below w.heap.size w w'))
  case atStart => exact ⟨(0), (by first | rfl | (simp; done) | (simp [*]; done)), H', ⟨Nat.le_refl _⟩, ⟨by repeat (first | (with_reducible first | exact HB.out | apply Z7 | apply Z4 | apply Z9) | exact HB.out)⟩⟩
  case round =>
   clear H'
   (try clear c1);(try clear p2);(try clear c3);(try clear c3b0);(try clear c3b1);(try clear c3b2)
   obtain ⟨x5_1, rfl, HA, HK1, HB⟩ := hrel
   cases gk with
   | zero => exact absurd HA.out (by simp [cabinetryref01_SameValues.l0])
   | succ k1 =>
    have H := HA.out
    clear HA
    simp only [cabinetryref01_SameValues.l0] at H
    by_cases c4 : x5_1 < (l0.length : Int)
    ·rw [if_pos c4] at H
     have c4b0 : decide (x5_1 < (l0.length : Int)) = true := decide_eq_true c4
     clear c4
     by_cases c5 : 0 ≤ x5_1
     ·rw [if_pos c5] at H
      have c5b0 : decide (0 ≤ x5_1) = true := decide_eq_true c5
      clear c5
      by_cases c6 : x5_1 < (l1.length : Int)
      ·rw [if_pos c6] at H
       have c6b0 : decide (x5_1 < (l1.length : Int)) = true := decide_eq_true c6
       clear c6
       replace H := Option.bind_eq_some_iff.mp H
       obtain ⟨t333, A70, H⟩ := H
       replace H : (if t333 = true then (cabinetryref01_SameValues.l0 k1 l0 l1 (wrap64 (x5_1 + 1))) else (some false)) = some r := H
       have A7 := Z0 A70
       clear A70
       by_cases c8 : t333 = true
       ·subst c8
        have H1 : (cabinetryref01_SameValues.l0 k1 l0 l1 (wrap64 (x5_1 + 1))) = some r := by rw [if_pos rfl] at H; exact H
        clear H
        have H := H1
        clear H1
        have H' := Z0 H
        clear H
        try go_wp2
        have n0_ := Z0 (Z9 HB.out)
        clear HB
        have HB := n0_
        clear n0_
        have p331 : 0 ≤ (x5_1 : Int) := of_decide_eq_true (by first | (with_reducible assumption) | assumption)
        have q331 : x5_1 < (l0.length : Int) := of_decide_eq_true (by first | (with_reducible assumption) | assumption)
        obtain ⟨ad331, e331, hx331_0, hx331_1, hx331_2⟩ := at_T25 HR0.out x5_1 p331 q331
        have hw331_2 := hx331_2
        have hw331_1 := hx331_1
        have hw331_0 := hx331_0
        cases e331
        replace hx331_0 := (HB.out.cell (World.block_lt_of_cell? w _ hx331_0)).trans hx331_0
        replace hx331_1 := (HB.out.cell (World.block_lt_of_cell? w _ hx331_1)).trans hx331_1
        replace hx331_2 := (HB.out.cell (World.block_lt_of_cell? w _ hx331_2)).trans hx331_2
        replace p331 := eq_true p331
        replace q331 := eq_true q331
        have p332 : 0 ≤ (x5_1 : Int) := of_decide_eq_true (by first | (with_reducible assumption) | assumption)
        have q332 : x5_1 < (l1.length : Int) := of_decide_eq_true (by first | (with_reducible assumption) | assumption)
        obtain ⟨ad332, e332, hx332_0, hx332_1, hx332_2⟩ := at_T25 HR1.out x5_1 p332 q332
        have hw332_2 := hx332_2
        have hw332_1 := hx332_1
        have hw332_0 := hx332_0
        cases e332
        replace hx332_0 := (HB.out.cell (World.block_lt_of_cell? w _ hx332_0)).trans hx332_0
        replace hx332_1 := (HB.out.cell (World.block_lt_of_cell? w _ hx332_1)).trans hx332_1
        replace hx332_2 := (HB.out.cell (World.block_lt_of_cell? w _ hx332_2)).trans hx332_2
        replace p332 := eq_true p332
        replace q332 := eq_true q332
        refine start_ (n := 10) (S := fun w' => w'.cell? (ad331.add ((x5_1).toNat * 3)) = some (.int .i64 ((rd_T25 l0 x5_1).f0)) ∧ w'.cell? ⟨(ad331.add ((x5_1).toNat * 3)).block, (ad331.add ((x5_1).toNat * 3)).off + 1, none⟩ = some (.int .i64 ((rd_T25 l0 x5_1).f1)) ∧ w'.cell? ⟨(ad331.add ((x5_1).toNat * 3)).block, (ad331.add ((x5_1).toNat * 3)).off + 2, none⟩ = some (.string ((rd_T25 l0 x5_1).f2)) ∧ w'.cell? (ad332.add ((x5_1).toNat * 3)) = some (.int .i64 ((rd_T25 l1 x5_1).f0)) ∧ w'.cell? ⟨(ad332.add ((x5_1).toNat * 3)).block, (ad332.add ((x5_1).toNat * 3)).off + 1, none⟩ = some (.int .i64 ((rd_T25 l1 x5_1).f1)) ∧ w'.cell? ⟨(ad332.add ((x5_1).toNat * 3)).block, (ad332.add ((x5_1).toNat * 3)).off + 2, none⟩ = some (.string ((rd_T25 l1 x5_1).f2))) (ds := []) #[false, false, false, false, false, false, false, false, false, false] (by kernel_rfl) rfl rfl ⟨((HB.out.cell (World.block_lt_of_cell? w _ hw331_0)).trans hw331_0), ((HB.out.cell (World.block_lt_of_cell? w _ hw331_1)).trans hw331_1), ((HB.out.cell (World.block_lt_of_cell? w _ hw331_2)).trans hw331_2), ((HB.out.cell (World.block_lt_of_cell? w _ hw332_0)).trans hw332_0), ((HB.out.cell (World.block_lt_of_cell? w _ hw332_1)).trans hw332_1), ((HB.out.cell (World.block_lt_of_cell? w _ hw332_2)).trans hw332_2)⟩ (fun hHeld => ?_); refine with_tabW cabinetryref01_SameValues.tab6 cabinetryref01_SameValues.bits6 (fun HT_ HW_ => ?_)
        generalize wr.drew = w9 at HB hx331_0 hx331_1 hx331_2 hx332_0 hx332_1 hx332_2 hHeld ⊢
        refine pure_ (i := 0) (N := some 17) (v := ?_) (a' := ?_) #[true, false, false, false, false, false, false, false, false, false] rfl rfl (any_of HT_.out (by kernel_rfl)) (fun _ _ _ h => h) (Or.inl ⟨by rfl, ?_⟩) ?_ ?_
        rotate_left
        ·intro w'
         go_simp
         with_reducible rfl
        rotate_left
        ·simp only [Act.put, Z3, Z5, Z6, i64_w, i32_w]
         rfl
        refine pure_ (i := 1) (N := some 18) (v := ?_) (a' := ?_) #[true, true, false, false, false, false, false, false, false, false] rfl rfl (any_of HT_.out (by kernel_rfl)) (fun _ _ _ h => h) (Or.inl ⟨by rfl, ?_⟩) ?_ ?_
        rotate_left
        ·intro w'
         go_simp
         with_reducible rfl
        rotate_left
        ·simp only [Act.put, Z3, Z5, Z6, i64_w, i32_w]
         rfl
        refine pure_ (i := 2) (N := some 19) (v := ?_) (a' := ?_) #[true, true, true, false, false, false, false, false, false, false] rfl rfl (any_of HT_.out (by kernel_rfl)) (fun _ _ _ h => h) (Or.inl ⟨by rfl, ?_⟩) ?_ ?_
        rotate_left
        ·intro w'
         go_simp
         with_reducible rfl
        rotate_left
        ·simp only [Act.put, Z3, Z5, Z6, i64_w, i32_w]
         rfl
        refine pure_ (i := 4) (N := some 21) (v := ?_) (a' := ?_) #[true, true, true, false, true, false, false, false, false, false] rfl rfl (any_of HT_.out (by kernel_rfl)) (fun _ _ _ h => h) (Or.inl ⟨by rfl, ?_⟩) ?_ ?_
        rotate_left
        ·intro w'
         go_simp
         with_reducible rfl
        rotate_left
        ·simp only [Act.put, Z3, Z5, Z6, i64_w, i32_w]
         rfl
        refine pure_ (i := 5) (N := some 22) (v := ?_) (a' := ?_) #[true, true, true, false, true, true, false, false, false, false] rfl rfl (any_of HT_.out (by kernel_rfl)) (fun _ _ _ h => h) (Or.inl ⟨by rfl, ?_⟩) ?_ ?_
        rotate_left
        ·intro w'
         go_simp
         with_reducible rfl
        rotate_left
        ·simp only [Act.put, Z3, Z5, Z6, i64_w, i32_w]
         rfl
        refine pure_ (i := 6) (N := some 23) (v := ?_) (a' := ?_) #[true, true, true, false, true, true, true, false, false, false] rfl rfl (any_of HT_.out (by kernel_rfl)) (fun _ _ _ h => h) (Or.inl ⟨by rfl, ?_⟩) ?_ ?_
        rotate_left
        ·intro w'
         go_simp
         with_reducible rfl
        rotate_left
        ·simp only [Act.put, Z3, Z5, Z6, i64_w, i32_w]
         rfl
        refine take_ (i := 3) (N := some 20) (v := ?_) (a' := ?_) #[true, true, true, true, true, true, true, false, false, false] rfl rfl (take_ofW HT_.out HW_.out (by kernel_rfl)) (fun _ _ _ h => h) (Or.inl ⟨by rfl, ?_⟩) hHeld ?_ ?_
        rotate_left
        ·rintro w' ⟨s0, s1, s2, s3, s4, s5⟩
         go_simp
         with_reducible rfl
        rotate_left
        ·simp only [Act.put, Z3, Z5, Z6, i64_w, i32_w]
         rfl
        refine take_ (i := 7) (N := some 24) (v := ?_) (a' := ?_) #[true, true, true, true, true, true, true, true, false, false] rfl rfl (take_ofW HT_.out HW_.out (by kernel_rfl)) (fun _ _ _ h => h) (Or.inl ⟨by rfl, ?_⟩) hHeld ?_ ?_
        rotate_left
        ·rintro w' ⟨s0, s1, s2, s3, s4, s5⟩
         go_simp
         with_reducible rfl
        rotate_left
        ·simp only [Act.put, Z3, Z5, Z6, i64_w, i32_w]
         rfl
        refine one_ (i := 8) (N := some 25) #[true, true, true, true, true, true, true, true, true, false] rfl rfl (one_of HT_.out (by kernel_rfl)) (by decide) (fun K hK => ?_)
        refine goes_ Tryz.func15 (by kernel_rfl) rfl #[.agg #[.int .i64 ((rd_T25 l0 x5_1).f0), .int .i64 ((rd_T25 l0 x5_1).f1), .string ((rd_T25 l0 x5_1).f2)], .agg #[.int .i64 ((rd_T25 l1 x5_1).f0), .int .i64 ((rd_T25 l1 x5_1).f1), .string ((rd_T25 l1 x5_1).f2)]] (by rfl) rfl rfl (by (try simp only [Y2, Y7, Y8]); first | done | rfl) ?_
        with_reducible refine (cabinetryref01_SameValue.calls k1 ((rd_T25 l0 x5_1).f0) ((rd_T25 l0 x5_1).f1) ((rd_T25 l0 x5_1).f2) ((rd_T25 l1 x5_1).f0) ((rd_T25 l1 x5_1).f1) ((rd_T25 l1 x5_1).f2) true _ A7.out).mono ?_
        rintro e w10 ⟨rfl, hb⟩
        refine ⟨_, rfl, ?_⟩
        have n0_ := Z0 (Y0 HB.out hb)
        clear HB
        have HB := n0_
        clear n0_
        (try clear hb)
        (try clear hb2)
        (try clear hk)
        (try clear hi)
        refine hK.out _ _ ⟨((HB.out.cell (World.block_lt_of_cell? w _ hw331_0)).trans hw331_0), ((HB.out.cell (World.block_lt_of_cell? w _ hw331_1)).trans hw331_1), ((HB.out.cell (World.block_lt_of_cell? w _ hw331_2)).trans hw331_2), ((HB.out.cell (World.block_lt_of_cell? w _ hw332_0)).trans hw332_0), ((HB.out.cell (World.block_lt_of_cell? w _ hw332_1)).trans hw332_1), ((HB.out.cell (World.block_lt_of_cell? w _ hw332_2)).trans hw332_2)⟩ (fun hHeld => ?_)
        clear hK K
        refine norm_ (a' := ?_) ?_ ?_
        rotate_left
        ·show Act.put _ (some 25) _ = _
         simp only [Act.put, Z3, Z5, Z6, i64_w, i32_w]
         rfl
        refine pure_ (i := 9) (N := some 26) (v := ?_) (a' := ?_) #[true, true, true, true, true, true, true, true, true, true] rfl rfl (any_of HT_.out (by kernel_rfl)) (fun _ _ _ h => h) (Or.inl ⟨by rfl, ?_⟩) ?_ ?_
        rotate_left
        ·intro w'
         go_simp
         with_reducible rfl
        rotate_left
        ·simp only [Act.put, Z3, Z5, Z6, i64_w, i32_w]
         rfl
        refine done_ (done_of HT_.out (by kernel_rfl)) ?_
        try go_wp2
        go_roundg k1
        case measure => have := HK1.out; omega
        case rel => exact ⟨(wrap64 (x5_1 + 1)), (by first | rfl | (simp; done) | (simp [*]; done)), H', ⟨by have := HK1.out; omega⟩, ⟨by repeat (first | (with_reducible first | exact HB.out | apply Z7 | apply Z4 | apply Z9) | exact HB.out)⟩⟩
       ·replace c8 := Bool.eq_false_iff.mpr c8
        subst c8
        have H1 : (some false) = some r := by rw [if_neg (show ¬ (false = true) by decide)] at H; exact H
        clear H
        have H := H1
        clear H1
        obtain rfl := Option.some.inj H
        try go_wp2
        have n0_ := Z0 (Z9 HB.out)
        clear HB
        have HB := n0_
        clear n0_
        have p331 : 0 ≤ (x5_1 : Int) := of_decide_eq_true (by first | (with_reducible assumption) | assumption)
        have q331 : x5_1 < (l0.length : Int) := of_decide_eq_true (by first | (with_reducible assumption) | assumption)
        obtain ⟨ad331, e331, hx331_0, hx331_1, hx331_2⟩ := at_T25 HR0.out x5_1 p331 q331
        have hw331_2 := hx331_2
        have hw331_1 := hx331_1
        have hw331_0 := hx331_0
        cases e331
        replace hx331_0 := (HB.out.cell (World.block_lt_of_cell? w _ hx331_0)).trans hx331_0
        replace hx331_1 := (HB.out.cell (World.block_lt_of_cell? w _ hx331_1)).trans hx331_1
        replace hx331_2 := (HB.out.cell (World.block_lt_of_cell? w _ hx331_2)).trans hx331_2
        replace p331 := eq_true p331
        replace q331 := eq_true q331
        have p332 : 0 ≤ (x5_1 : Int) := of_decide_eq_true (by first | (with_reducible assumption) | assumption)
        have q332 : x5_1 < (l1.length : Int) := of_decide_eq_true (by first | (with_reducible assumption) | assumption)
        obtain ⟨ad332, e332, hx332_0, hx332_1, hx332_2⟩ := at_T25 HR1.out x5_1 p332 q332
        have hw332_2 := hx332_2
        have hw332_1 := hx332_1
        have hw332_0 := hx332_0
        cases e332
        replace hx332_0 := (HB.out.cell (World.block_lt_of_cell? w _ hx332_0)).trans hx332_0
        replace hx332_1 := (HB.out.cell (World.block_lt_of_cell? w _ hx332_1)).trans hx332_1
        replace hx332_2 := (HB.out.cell (World.block_lt_of_cell? w _ hx332_2)).trans hx332_2
        replace p332 := eq_true p332
        replace q332 := eq_true q332
        refine start_ (n := 10) (S := fun w' => w'.cell? (ad331.add ((x5_1).toNat * 3)) = some (.int .i64 ((rd_T25 l0 x5_1).f0)) ∧ w'.cell? ⟨(ad331.add ((x5_1).toNat * 3)).block, (ad331.add ((x5_1).toNat * 3)).off + 1, none⟩ = some (.int .i64 ((rd_T25 l0 x5_1).f1)) ∧ w'.cell? ⟨(ad331.add ((x5_1).toNat * 3)).block, (ad331.add ((x5_1).toNat * 3)).off + 2, none⟩ = some (.string ((rd_T25 l0 x5_1).f2)) ∧ w'.cell? (ad332.add ((x5_1).toNat * 3)) = some (.int .i64 ((rd_T25 l1 x5_1).f0)) ∧ w'.cell? ⟨(ad332.add ((x5_1).toNat * 3)).block, (ad332.add ((x5_1).toNat * 3)).off + 1, none⟩ = some (.int .i64 ((rd_T25 l1 x5_1).f1)) ∧ w'.cell? ⟨(ad332.add ((x5_1).toNat * 3)).block, (ad332.add ((x5_1).toNat * 3)).off + 2, none⟩ = some (.string ((rd_T25 l1 x5_1).f2))) (ds := []) #[false, false, false, false, false, false, false, false, false, false] (by kernel_rfl) rfl rfl ⟨((HB.out.cell (World.block_lt_of_cell? w _ hw331_0)).trans hw331_0), ((HB.out.cell (World.block_lt_of_cell? w _ hw331_1)).trans hw331_1), ((HB.out.cell (World.block_lt_of_cell? w _ hw331_2)).trans hw331_2), ((HB.out.cell (World.block_lt_of_cell? w _ hw332_0)).trans hw332_0), ((HB.out.cell (World.block_lt_of_cell? w _ hw332_1)).trans hw332_1), ((HB.out.cell (World.block_lt_of_cell? w _ hw332_2)).trans hw332_2)⟩ (fun hHeld => ?_); refine with_tabW cabinetryref01_SameValues.tab6 cabinetryref01_SameValues.bits6 (fun HT_ HW_ => ?_)
        generalize wr.drew = w11 at HB hx331_0 hx331_1 hx331_2 hx332_0 hx332_1 hx332_2 hHeld ⊢
        refine pure_ (i := 0) (N := some 17) (v := ?_) (a' := ?_) #[true, false, false, false, false, false, false, false, false, false] rfl rfl (any_of HT_.out (by kernel_rfl)) (fun _ _ _ h => h) (Or.inl ⟨by rfl, ?_⟩) ?_ ?_
        rotate_left
        ·intro w'
         go_simp
         with_reducible rfl
        rotate_left
        ·simp only [Act.put, Z3, Z5, Z6, i64_w, i32_w]
         rfl
        refine pure_ (i := 1) (N := some 18) (v := ?_) (a' := ?_) #[true, true, false, false, false, false, false, false, false, false] rfl rfl (any_of HT_.out (by kernel_rfl)) (fun _ _ _ h => h) (Or.inl ⟨by rfl, ?_⟩) ?_ ?_
        rotate_left
        ·intro w'
         go_simp
         with_reducible rfl
        rotate_left
        ·simp only [Act.put, Z3, Z5, Z6, i64_w, i32_w]
         rfl
        refine pure_ (i := 2) (N := some 19) (v := ?_) (a' := ?_) #[true, true, true, false, false, false, false, false, false, false] rfl rfl (any_of HT_.out (by kernel_rfl)) (fun _ _ _ h => h) (Or.inl ⟨by rfl, ?_⟩) ?_ ?_
        rotate_left
        ·intro w'
         go_simp
         with_reducible rfl
        rotate_left
        ·simp only [Act.put, Z3, Z5, Z6, i64_w, i32_w]
         rfl
        refine pure_ (i := 4) (N := some 21) (v := ?_) (a' := ?_) #[true, true, true, false, true, false, false, false, false, false] rfl rfl (any_of HT_.out (by kernel_rfl)) (fun _ _ _ h => h) (Or.inl ⟨by rfl, ?_⟩) ?_ ?_
        rotate_left
        ·intro w'
         go_simp
         with_reducible rfl
        rotate_left
        ·simp only [Act.put, Z3, Z5, Z6, i64_w, i32_w]
         rfl
        refine pure_ (i := 5) (N := some 22) (v := ?_) (a' := ?_) #[true, true, true, false, true, true, false, false, false, false] rfl rfl (any_of HT_.out (by kernel_rfl)) (fun _ _ _ h => h) (Or.inl ⟨by rfl, ?_⟩) ?_ ?_
        rotate_left
        ·intro w'
         go_simp
         with_reducible rfl
        rotate_left
        ·simp only [Act.put, Z3, Z5, Z6, i64_w, i32_w]
         rfl
        refine pure_ (i := 6) (N := some 23) (v := ?_) (a' := ?_) #[true, true, true, false, true, true, true, false, false, false] rfl rfl (any_of HT_.out (by kernel_rfl)) (fun _ _ _ h => h) (Or.inl ⟨by rfl, ?_⟩) ?_ ?_
        rotate_left
        ·intro w'
         go_simp
         with_reducible rfl
        rotate_left
        ·simp only [Act.put, Z3, Z5, Z6, i64_w, i32_w]
         rfl
        refine take_ (i := 3) (N := some 20) (v := ?_) (a' := ?_) #[true, true, true, true, true, true, true, false, false, false] rfl rfl (take_ofW HT_.out HW_.out (by kernel_rfl)) (fun _ _ _ h => h) (Or.inl ⟨by rfl, ?_⟩) hHeld ?_ ?_
        rotate_left
        ·rintro w' ⟨s0, s1, s2, s3, s4, s5⟩
         go_simp
         with_reducible rfl
        rotate_left
        ·simp only [Act.put, Z3, Z5, Z6, i64_w, i32_w]
         rfl
        refine take_ (i := 7) (N := some 24) (v := ?_) (a' := ?_) #[true, true, true, true, true, true, true, true, false, false] rfl rfl (take_ofW HT_.out HW_.out (by kernel_rfl)) (fun _ _ _ h => h) (Or.inl ⟨by rfl, ?_⟩) hHeld ?_ ?_
        rotate_left
        ·rintro w' ⟨s0, s1, s2, s3, s4, s5⟩
         go_simp
         with_reducible rfl
        rotate_left
        ·simp only [Act.put, Z3, Z5, Z6, i64_w, i32_w]
         rfl
        refine one_ (i := 8) (N := some 25) #[true, true, true, true, true, true, true, true, true, false] rfl rfl (one_of HT_.out (by kernel_rfl)) (by decide) (fun K hK => ?_)
        refine goes_ Tryz.func15 (by kernel_rfl) rfl #[.agg #[.int .i64 ((rd_T25 l0 x5_1).f0), .int .i64 ((rd_T25 l0 x5_1).f1), .string ((rd_T25 l0 x5_1).f2)], .agg #[.int .i64 ((rd_T25 l1 x5_1).f0), .int .i64 ((rd_T25 l1 x5_1).f1), .string ((rd_T25 l1 x5_1).f2)]] (by rfl) rfl rfl (by (try simp only [Y2, Y7, Y8]); first | done | rfl) ?_
        with_reducible refine (cabinetryref01_SameValue.calls k1 ((rd_T25 l0 x5_1).f0) ((rd_T25 l0 x5_1).f1) ((rd_T25 l0 x5_1).f2) ((rd_T25 l1 x5_1).f0) ((rd_T25 l1 x5_1).f1) ((rd_T25 l1 x5_1).f2) false _ A7.out).mono ?_
        rintro e w12 ⟨rfl, hb⟩
        refine ⟨_, rfl, ?_⟩
        have n0_ := Z0 (Y0 HB.out hb)
        clear HB
        have HB := n0_
        clear n0_
        (try clear hb)
        (try clear hb2)
        (try clear hk)
        (try clear hi)
        refine hK.out _ _ ⟨((HB.out.cell (World.block_lt_of_cell? w _ hw331_0)).trans hw331_0), ((HB.out.cell (World.block_lt_of_cell? w _ hw331_1)).trans hw331_1), ((HB.out.cell (World.block_lt_of_cell? w _ hw331_2)).trans hw331_2), ((HB.out.cell (World.block_lt_of_cell? w _ hw332_0)).trans hw332_0), ((HB.out.cell (World.block_lt_of_cell? w _ hw332_1)).trans hw332_1), ((HB.out.cell (World.block_lt_of_cell? w _ hw332_2)).trans hw332_2)⟩ (fun hHeld => ?_)
        clear hK K
        refine norm_ (a' := ?_) ?_ ?_
        rotate_left
        ·show Act.put _ (some 25) _ = _
         simp only [Act.put, Z3, Z5, Z6, i64_w, i32_w]
         rfl
        refine pure_ (i := 9) (N := some 26) (v := ?_) (a' := ?_) #[true, true, true, true, true, true, true, true, true, true] rfl rfl (any_of HT_.out (by kernel_rfl)) (fun _ _ _ h => h) (Or.inl ⟨by rfl, ?_⟩) ?_ ?_
        rotate_left
        ·intro w'
         go_simp
         with_reducible rfl
        rotate_left
        ·simp only [Act.put, Z3, Z5, Z6, i64_w, i32_w]
         rfl
        refine done_ (done_of HT_.out (by kernel_rfl)) ?_
        try go_wp2
        go_ret
        exact ⟨rfl, by repeat (first | (with_reducible first | exact HB.out | apply Z7 | apply Z4 | apply Z9) | exact HB.out)⟩
      ·rw [if_neg c6] at H
       exact absurd H (by simp)
     ·rw [if_neg c5] at H
      exact absurd H (by simp)
    ·rw [if_neg c4] at H
     have c4b0 : decide (x5_1 < (l0.length : Int)) = false := decide_eq_false c4
     clear c4
     obtain rfl := Option.some.inj H
     go_wp2
     go_ret
     exact ⟨rfl, by repeat (first | (with_reducible first | exact HB.out | apply Z7 | apply Z4 | apply Z9) | exact HB.out)⟩
 ·rw [if_neg c3] at H
  have c3b0 : ((l0.length : Int) == (l1.length : Int)) = false := beq_eq_false_iff_ne.mpr c3
  have c3b1 : ((l0.length : Int) != (l1.length : Int)) = true := bne_iff_ne.mpr c3
  have c3b2 : (l0.length == l1.length) = false := by first | simpa using c3 | (simp at c3 ⊢; omega)
  obtain rfl := Option.some.inj H
  go_enter Tryz.func68, Tryz.ntmps68
  go_wp2
  go_ret
  exact ⟨rfl, by repeat (first | (with_reducible first | exact HB.out | apply Z7 | apply Z4 | apply Z9) | exact HB.out)⟩
def cabinetryref03_SameRecord.f (k : Nat) (a0_0 : Bool) (l0_1 : List (S25)) (a1_0 : Bool) (l1_1 : List (S25)) : Option (Bool) := if (a0_0 == a1_0) = true then ((cabinetryref01_SameValues.f k l0_1 l1_1).bind fun t336 => (some t336)) else (some false)
theorem cabinetryref03_SameRecord.mono : ∀ a0 a1 a2 a3 k, LeO (cabinetryref03_SameRecord.f k a0 a1 a2 a3) (cabinetryref03_SameRecord.f (k + 1) a0 a1 a2 a3) := by
 intro a0 a1 a2 a3 k
 unfold cabinetryref03_SameRecord.f
 repeat' first
   | (with_reducible exact cabinetryref01_SameValues.mono _ _ _)
   | (with_reducible exact LeO.refl _)
   | (with_reducible exact X2 _)
   | (with_reducible refine X4 ?_ ?_)
   | (with_reducible refine X3 ?_ (fun _ => ?_))
   | exact cabinetryref01_SameValues.mono _ _ _
   | exact X2 _
   | refine X4 ?_ ?_
   | refine X3 ?_ (fun _ => ?_)
set_option maxHeartbeats 8000000 in
set_option maxRecDepth 100000 in
theorem cabinetryref03_SameRecord.calls (k : Nat) (a0_0 : Bool) (A0_1 : Option Addr) (c0_1 : Nat) (l0_1 : List (S25)) (a1_0 : Bool) (A1_1 : Option Addr) (c1_1 : Nat) (l1_1 : List (S25)) (r : Bool) (w : World) (hr0_1 : Kd.C k25 w A0_1 l0_1.length l0_1) (hc0_1 : l0_1.length ≤ c0_1) (hr1_1 : Kd.C k25 w A1_1 l1_1.length l1_1) (hc1_1 : l1_1.length ≤ c1_1) (h : cabinetryref03_SameRecord.f k a0_0 l0_1 a1_0 l1_1 = some r) :
  Calls Tryz.prog 29 #[.agg #[.bool a0_0, .slice A0_1 l0_1.length c0_1], .agg #[.bool a1_0, .slice A1_1 l1_1.length c1_1]] w fun e w' => e = .returned (.bool r) ∧ Below w.heap.size w w' := by
 have hu46 := Tryz.underlying46
 have HR0_1 := Z0 hr0_1
 have HC0_1 := Z0 hc0_1
 clear hr0_1 hc0_1
 have HR1_1 := Z0 hr1_1
 have HC1_1 := Z0 hc1_1
 clear hr1_1 hc1_1
 have HB := Z0 (Below.refl w.heap.size w)
 have H : (if (a0_0 == a1_0) = true then ((cabinetryref01_SameValues.f k l0_1 l1_1).bind fun t336 => (some t336)) else (some false)) = some r := h
 clear h
 by_cases c3 : (a0_0 == a1_0) = true
 ·rw [if_pos c3] at H
  have c3b0 : (a0_0 == a1_0) = true := c3
  (try (have c3b1 : decide (a0_0 = a1_0) = true := by simpa using c3))
  (try (have c3b2 : (a0_0 == a1_0) = true := by simpa using c3))
  clear c3
  replace H := Option.bind_eq_some_iff.mp H
  obtain ⟨t336, A40, H⟩ := H
  replace H : (some t336) = some r := H
  have A4 := Z0 A40
  clear A40
  obtain rfl := Option.some.inj H
  go_enter Tryz.func29, Tryz.ntmps29
  go_wp2_with (first | ((with_reducible refine X0 (N := 2) rfl ?_); refine Y9 ?hg (N := 2) ?hd (cs := #[.bool a0_0, .slice A0_1 l0_1.length c0_1]) (t := 46) ?hr ?_; (case hd => rfl); (case hg => rfl); (case hr => go_simp; try rfl); intro gb334 hg w5 hbox hb; have n0_ := Z0 (Y0 HB.out hb); have n1_ := Z0 (hbox); have n3_ := Z0 ((by rw [hg]; exact (Y6 HB.out) : w.heap.size ≤ gb334)); clear HB; have HB := n0_; have BK334 := n1_; have GE334 := n3_; clear n0_ n1_ n3_; clear hb hbox hg) | ((with_reducible refine X0 (N := 3) rfl ?_); refine Y9 ?hg (N := 3) ?hd (cs := #[.bool a1_0, .slice A1_1 l1_1.length c1_1]) (t := 46) ?hr ?_; (case hd => rfl); (case hg => rfl); (case hr => go_simp; try rfl); intro gb335 hg w6 hbox hb; have n0_ := Z0 (Y1 (g := gb334) (o := .cells #[.bool a0_0, .slice A0_1 l0_1.length c0_1] 46 (0, 0)) BK334.out hb); have n1_ := Z0 (Y0 HB.out hb); have n2_ := Z0 (hbox); have n4_ := Z0 ((by rw [hg]; exact (Y6 HB.out) : w.heap.size ≤ gb335)); have n5_ := Z0 ((by rw [hg]; exact Nat.ne_of_lt (blk_lt (g := gb334) (o := .cells #[.bool a0_0, .slice A0_1 l0_1.length c0_1] 46 (0, 0)) BK334.out) : gb334 ≠ gb335)); have n6_ := Z0 ((by rw [hg]; exact Nat.ne_of_gt (blk_lt (g := gb334) (o := .cells #[.bool a0_0, .slice A0_1 l0_1.length c0_1] 46 (0, 0)) BK334.out) : gb335 ≠ gb334)); clear BK334; clear HB; have BK334 := n0_; have HB := n1_; have BK335 := n2_; have GE335 := n4_; have NB334_335 := n5_; have NB335_334 := n6_; clear n0_ n1_ n2_ n4_ n5_ n6_; clear hb hbox hg; have hnb7 := NB334_335.out; have hnc7 := NB335_334.out; have hcz8_0 : w6.cell? ⟨gb334, 0, none⟩ = some (.bool a0_0) := (Z2 BK334.out 0).trans rfl; have hcz8_1 : w6.cell? ⟨gb334, 1, none⟩ = some (.slice A0_1 l0_1.length c0_1) := (Z2 BK334.out 1).trans rfl; have hfz8_0 := Z1 BK334.out 0; have hfz8_1 := Z1 BK334.out 1; have hcz9_0 : w6.cell? ⟨gb335, 0, none⟩ = some (.bool a1_0) := (Z2 BK335.out 0).trans rfl; have hcz9_1 : w6.cell? ⟨gb335, 1, none⟩ = some (.slice A1_1 l1_1.length c1_1) := (Z2 BK335.out 1).trans rfl; have hfz9_0 := Z1 BK335.out 0; have hfz9_1 := Z1 BK335.out 1) | (go_at_call 68; (with_reducible refine (cabinetryref01_SameValues.calls k _ _ l0_1 _ _ l1_1 t336 _ ?side1 ?side2 ?side3 ?side4 A4.out).mono ?_); (case side1 => repeat (first | exact (Kd.C_below HR0_1.out HB.out) | (with_reducible refine Kd.C_alloc ?_ _) | (with_reducible refine Kd.C_drewN ?_ _) | (with_reducible refine Kd.C_drew ?_))); (case side2 => exact HC0_1.out); (case side3 => repeat (first | exact (Kd.C_below HR1_1.out HB.out) | (with_reducible refine Kd.C_alloc ?_ _) | (with_reducible refine Kd.C_drewN ?_ _) | (with_reducible refine Kd.C_drew ?_))); (case side4 => exact HC1_1.out); rintro e w10 ⟨rfl, hb⟩; have n0_ := Z0 (Y1 (g := gb334) (o := .cells #[.bool a0_0, .slice A0_1 l0_1.length c0_1] 46 (0, 0)) BK334.out hb); have n1_ := Z0 (Y1 (g := gb335) (o := .cells #[.bool a1_0, .slice A1_1 l1_1.length c1_1] 46 (0, 0)) BK335.out hb); have n2_ := Z0 (Y0 HB.out hb); clear BK334; clear BK335; clear HB; have BK334 := n0_; have BK335 := n1_; have HB := n2_; clear n0_ n1_ n2_; (try clear hb); (try clear hb2); (try clear hk); (try clear hi)))
  go_ret
  exact ⟨rfl, by repeat (first | (with_reducible first | exact HB.out | apply Z7 | apply Z4 | apply Z9 | refine Z8 ?_ GE334.out | refine Z8 ?_ GE335.out) | exact HB.out)⟩
 ·rw [if_neg c3] at H
  have c3b0 : (a0_0 == a1_0) = false := by simpa using c3
  (try (have c3b1 : decide (a0_0 = a1_0) = false := by simpa using c3))
  (try (have c3b2 : (a0_0 == a1_0) = false := by simpa using c3))
  (try (have c3b3 : ¬ (a0_0 = a1_0) := by simpa using c3))
  clear c3
  obtain rfl := Option.some.inj H
  go_enter Tryz.func29, Tryz.ntmps29
  go_wp2_with (first | ((with_reducible refine X0 (N := 2) rfl ?_); refine Y9 ?hg (N := 2) ?hd (cs := #[.bool a0_0, .slice A0_1 l0_1.length c0_1]) (t := 46) ?hr ?_; (case hd => rfl); (case hg => rfl); (case hr => go_simp; try rfl); intro gb334 hg w11 hbox hb; have n0_ := Z0 (Y0 HB.out hb); have n1_ := Z0 (hbox); have n3_ := Z0 ((by rw [hg]; exact (Y6 HB.out) : w.heap.size ≤ gb334)); clear HB; have HB := n0_; have BK334 := n1_; have GE334 := n3_; clear n0_ n1_ n3_; clear hb hbox hg) | ((with_reducible refine X0 (N := 3) rfl ?_); refine Y9 ?hg (N := 3) ?hd (cs := #[.bool a1_0, .slice A1_1 l1_1.length c1_1]) (t := 46) ?hr ?_; (case hd => rfl); (case hg => rfl); (case hr => go_simp; try rfl); intro gb335 hg w12 hbox hb; have n0_ := Z0 (Y1 (g := gb334) (o := .cells #[.bool a0_0, .slice A0_1 l0_1.length c0_1] 46 (0, 0)) BK334.out hb); have n1_ := Z0 (Y0 HB.out hb); have n2_ := Z0 (hbox); have n4_ := Z0 ((by rw [hg]; exact (Y6 HB.out) : w.heap.size ≤ gb335)); have n5_ := Z0 ((by rw [hg]; exact Nat.ne_of_lt (blk_lt (g := gb334) (o := .cells #[.bool a0_0, .slice A0_1 l0_1.length c0_1] 46 (0, 0)) BK334.out) : gb334 ≠ gb335)); have n6_ := Z0 ((by rw [hg]; exact Nat.ne_of_gt (blk_lt (g := gb334) (o := .cells #[.bool a0_0, .slice A0_1 l0_1.length c0_1] 46 (0, 0)) BK334.out) : gb335 ≠ gb334)); clear BK334; clear HB; have BK334 := n0_; have HB := n1_; have BK335 := n2_; have GE335 := n4_; have NB334_335 := n5_; have NB335_334 := n6_; clear n0_ n1_ n2_ n4_ n5_ n6_; clear hb hbox hg; have hnb13 := NB334_335.out; have hnc13 := NB335_334.out; have hcz14_0 : w12.cell? ⟨gb334, 0, none⟩ = some (.bool a0_0) := (Z2 BK334.out 0).trans rfl; have hcz14_1 : w12.cell? ⟨gb334, 1, none⟩ = some (.slice A0_1 l0_1.length c0_1) := (Z2 BK334.out 1).trans rfl; have hfz14_0 := Z1 BK334.out 0; have hfz14_1 := Z1 BK334.out 1; have hcz15_0 : w12.cell? ⟨gb335, 0, none⟩ = some (.bool a1_0) := (Z2 BK335.out 0).trans rfl; have hcz15_1 : w12.cell? ⟨gb335, 1, none⟩ = some (.slice A1_1 l1_1.length c1_1) := (Z2 BK335.out 1).trans rfl; have hfz15_0 := Z1 BK335.out 0; have hfz15_1 := Z1 BK335.out 1))
  go_ret
  exact ⟨rfl, by repeat (first | (with_reducible first | exact HB.out | apply Z7 | apply Z4 | apply Z9 | refine Z8 ?_ GE334.out | refine Z8 ?_ GE335.out) | exact HB.out)⟩
set_option maxHeartbeats 8000000 in
set_option maxRecDepth 100000 in
theorem ix1_calls (s : ByteArray) (kd wd : Int) (nl : Bool) (name : ByteArray) (g : Nat) (w : World) (hg : w.heap[g]? = some (.cells #[.string name] 9 (0, 0))) :
  Calls Tryz.prog 67 #[.agg #[.string s, .int .i64 kd, .int .i64 wd, .bool nl], .pointer (some ⟨g, 0, none⟩)] w fun e w' => e = .returned (.bool (s.toList == name.toList)) ∧ Below w.heap.size w w' := by
 have hu23 := Tryz.underlying23
 have HB := Z0 (Below.refl w.heap.size w)
 have HG := Z0 hg
 clear hg
 go_enter Tryz.func67, Tryz.ntmps67
 go_wp2_with (first | ((with_reducible refine X0 (N := 2) rfl ?_); refine Y9 ?hg (N := 2) ?hd (cs := #[.string s, .int .i64 kd, .int .i64 wd, .bool nl]) (t := 23) ?hr ?_; (case hd => rfl); (case hg => rfl); (case hr => go_simp; try rfl); intro g1 hg w1 hbox hb; have hbb := hb; have BK := Z0 hbox; have GE := Z0 ((by rw [hg]; exact (Y6 HB.out)) : w.heap.size ≤ g1); have n0_ := Z0 (Y0 HB.out hb); clear HB; have HB := n0_; clear n0_; (try clear hb); clear hbox hg; have k0 : w1.cell? ⟨g1, 0, none⟩ = some (.string s) := (Z2 BK.out 0).trans rfl; have k1 : w1.cell? ⟨g1, 1, none⟩ = some (.int .i64 kd) := (Z2 BK.out 1).trans rfl; have k2 : w1.cell? ⟨g1, 2, none⟩ = some (.int .i64 wd) := (Z2 BK.out 2).trans rfl; have k3 : w1.cell? ⟨g1, 3, none⟩ = some (.bool nl) := (Z2 BK.out 3).trans rfl; have kz0 := Z1 BK.out 0; have kz1 := Z1 BK.out 1; have kz2 := Z1 BK.out 2; have kz3 := Z1 BK.out 3; have HG1 := Z0 (Y1 HG.out hbb); have hgc : w1.cell? ⟨g, 0, none⟩ = some (.string name) := (Z2 HG1.out 0).trans rfl; clear hbb))
 go_ret
 exact ⟨rfl, HB.out⟩
def idxS (l : List S23) (s : ByteArray) : Int := if l.any (fun x => x.f0.toList == s.toList) = true then (l.findIdx (fun x => x.f0.toList == s.toList) : Int) else -1
theorem idx_at {l : List S23} {s : ByteArray} {n : Nat} (h : n < l.length) (ha : (l.take n).any (fun x => x.f0.toList == s.toList) = false) (hx : ((l.getD n z23).f0.toList == s.toList) = true) : idxS l s = n := by
 have hg : l.getD n z23 = l[n] := by rw [List.getD_eq_getElem?_getD, List.getElem?_eq_getElem h, Option.getD_some]
 rw [hg] at hx
 unfold idxS
 rw [if_pos (List.any_eq_true.2 ⟨_, List.getElem_mem h, hx⟩)]
 refine congrArg _ ((List.findIdx_eq h).2 ⟨hx, fun j hj => ?_⟩)
 rw [List.any_eq_false] at ha
 have hm : l[j] ∈ l.take n := by
  rw [List.mem_take_iff_getElem]
  exact ⟨j, by omega, rfl⟩
 simpa using ha _ hm
set_option maxHeartbeats 8000000 in
set_option maxRecDepth 100000 in
theorem ix_idx (A0 : Option Addr) (c0 : Nat) (l0 : List (S23)) (name : ByteArray) (g : Nat) (w : World) (hr0 : Kd.C k23 w A0 l0.length l0) (hc0 : l0.length ≤ c0) (hL : l0.length ≤ 1000000000) (hg : w.heap[g]? = some (.cells #[.string name] 9 (0, 0))) :
  Calls Tryz.prog 66 #[.slice A0 l0.length c0, .func (.func 67) #[] #[.pointer (some ⟨g, 0, none⟩)]] w fun e w' => e = .returned (.int .i64 (idxS l0 name)) ∧ Below w.heap.size w w' := by
 have hu23 := Tryz.underlying23
 have HR0 := Z0 hr0
 have HC0 := Z0 hc0
 have HL := Z0 hL
 have HG := Z0 hg
 clear hr0 hc0 hL hg
 have HB := Z0 (Below.refl w.heap.size w)
 go_enter Tryz.func66, Tryz.ntmps66
 go_wp2
 go_loopg [8] (l0.length + 1) (fun kq v8 w' => ∃ n : Nat, v8 = .int .i64 (n : Int) ∧ Aside0 (n ≤ l0.length) ∧ Aside0 ((l0.take n).any (fun x => x.f0.toList == name.toList) = false) ∧ Aside0 (kq + n = l0.length + 1) ∧ Aside0 (Below w.heap.size w w'))
 case atStart => exact ⟨0, rfl, ⟨Nat.zero_le _⟩, ⟨by simp⟩, ⟨by omega⟩, HB⟩
 case round =>
  obtain ⟨n, rfl, HN, HA, HK, HB⟩ := hrel
  by_cases c3 : (n : Int) < (l0.length : Int)
  ·have c3b := decide_eq_true c3
   have p2 : (0 : Int) ≤ n := Int.natCast_nonneg _
   obtain ⟨ad, ea, hx0, hx1, hx2, hx3⟩ := at_T23 HR0.out (n : Int) p2 c3
   cases ea
   replace hx0 := (HB.out.cell (World.block_lt_of_cell? w _ hx0)).trans hx0
   replace hx1 := (HB.out.cell (World.block_lt_of_cell? w _ hx1)).trans hx1
   replace hx2 := (HB.out.cell (World.block_lt_of_cell? w _ hx2)).trans hx2
   replace hx3 := (HB.out.cell (World.block_lt_of_cell? w _ hx3)).trans hx3
   obtain ⟨x, hxx⟩ : ∃ x, rd_T23 l0 (n : Int) = x := ⟨_, rfl⟩
   rw [hxx] at hx0 hx1 hx2 hx3
   rw [Int.toNat_natCast] at hx0 hx1 hx2 hx3
   have hget : l0.getD n z23 = x := hxx
   have htake := take_getD z23 l0 n (Int.ofNat_lt.1 c3)
   rw [hget] at htake
   have HX := Z0 hget
   have HT := Z0 htake
   have hw : wrap64 ((n : Int) + 1) = ((n + 1 : Nat) : Int) := by
    have := HL.out
    have e : ((n : Int) + 1) = ((n + 1 : Nat) : Int) := by omega
    rw [e]; exact (show wrap64 ((n + 1 : Nat) : Int) = _ by unfold wrap64; omega)
   have HN1 := Z0 (Int.ofNat_lt.1 c3)
   clear hget htake hxx
   obtain ⟨b, hb1⟩ : ∃ b, (x.f0.toList == name.toList) = b := ⟨_, rfl⟩
   have CV := Z0 (fun W (h : W.heap[g]? = some (.cells #[.string name] 9 (0, 0))) => ix1_calls x.f0 x.f1 x.f2 x.f3 name g W h)
   rw [hb1] at CV
   have HB1 := Z0 hb1
   clear hb1
   cases b
   ·go_wp2_with (first | (go_at_call 67; (with_reducible refine (CV.out _ (Y1 HG.out HB.out)).mono ?_); rintro e w7 ⟨rfl, hb⟩; have n0_ := Z0 (Y0 HB.out hb); clear HB; have HB := n0_; clear n0_; (try clear hb)))
    go_roundg (gk - 1)
    case measure => have := HK.out; have := HN1.out; omega
    case rel => exact ⟨n + 1, by rw [hw], ⟨HN1.out⟩, ⟨by rw [HT.out, List.any_append, HA.out]; simp [HB1.out]⟩, ⟨by have := HK.out; have := HN1.out; omega⟩, HB⟩
   ·go_wp2_with (first | (go_at_call 67; (with_reducible refine (CV.out _ (Y1 HG.out HB.out)).mono ?_); rintro e w7 ⟨rfl, hb⟩; have n0_ := Z0 (Y0 HB.out hb); clear HB; have HB := n0_; clear n0_; (try clear hb)))
    go_ret
    exact ⟨by rw [idx_at HN1.out HA.out (by rw [HX.out]; exact HB1.out)]; rfl, HB.out⟩
  ·have c3b := decide_eq_false c3
   have hn : n = l0.length := by have := HN.out; omega
   have hA := HA.out
   rw [hn, List.take_length] at hA
   have HA' : Aside0 (idxS l0 name = -1) := ⟨by unfold idxS; rw [if_neg (by rw [hA]; decide)]⟩
   clear hA
   go_wp2
   go_ret
   exact ⟨by rw [HA'.out]; rfl, HB.out⟩
set_option maxHeartbeats 8000000 in
set_option maxRecDepth 100000 in
theorem ix_walk (A0 : Option Addr) (c0 : Nat) (l0 : List (S23)) (name : ByteArray) (w : World) (hr0 : Kd.C k23 w A0 l0.length l0) (hc0 : l0.length ≤ c0) (hL : l0.length ≤ 1000000000) :
  Calls Tryz.prog 27 #[.slice A0 l0.length c0, .string name] w fun e w' => e = .returned (.tuple #[.int .i64 (max (idxS l0 name) 0), .bool (decide (idxS l0 name ≥ 0))]) ∧ Below w.heap.size w w' := by
 obtain ⟨n, hn⟩ : ∃ n, idxS l0 name = n := ⟨_, rfl⟩
 have HR0 := Z0 hr0
 have HC0 := Z0 hc0
 have CI := Z0 (fun g W a b => ix_idx A0 c0 l0 name g W a hc0 hL b)
 rw [hn] at CI ⊢
 clear hr0 hc0 hL hn
 have HB := Z0 (Below.refl w.heap.size w)
 by_cases h0 : 0 ≤ n
 ·have HM : Aside0 (max n 0 = n ∧ decide (n ≥ 0) = true) := ⟨by omega, decide_eq_true h0⟩
  go_enter Tryz.func27, Tryz.ntmps27
  go_wp2_with (first | ((with_reducible refine X0 (N := 3) rfl ?_); refine Y9 ?hg (N := 3) ?hd (cs := #[.string name]) (t := 9) ?hr ?_; (case hd => rfl); (case hg => rfl); (case hr => go_simp; try rfl); intro g3 hg w3 hbox hb; have BK := Z0 hbox; have GE := Z0 ((by rw [hg]; exact (Y6 HB.out)) : w.heap.size ≤ g3); have n0_ := Z0 (Y0 HB.out hb); clear HB; have HB := n0_; clear n0_; (try clear hb); clear hbox hg; have k0 : w3.cell? ⟨g3, 0, none⟩ = some (.string name) := (Z2 BK.out 0).trans rfl; have kz0 := Z1 BK.out 0) | (go_at_call 66; (with_reducible refine (CI.out g3 _ (Kd.C_below HR0.out HB.out) BK.out).mono ?_); rintro e w4 ⟨rfl, hb⟩; have n0_ := Z0 (Y0 HB.out hb); clear HB; have HB := n0_; clear n0_; (try clear hb)))
  all_goals first | go_ret | go_ret2
  all_goals exact ⟨by rw [HM.out.1, HM.out.2]; rfl, HB.out⟩
 ·have HM : Aside0 (max n 0 = 0 ∧ decide (n ≥ 0) = false) := ⟨by omega, decide_eq_false h0⟩
  have h1 : n < 0 := Int.not_le.1 h0
  clear h0
  go_enter Tryz.func27, Tryz.ntmps27
  go_wp2_with (first | ((with_reducible refine X0 (N := 3) rfl ?_); refine Y9 ?hg (N := 3) ?hd (cs := #[.string name]) (t := 9) ?hr ?_; (case hd => rfl); (case hg => rfl); (case hr => go_simp; try rfl); intro g3 hg w3 hbox hb; have BK := Z0 hbox; have GE := Z0 ((by rw [hg]; exact (Y6 HB.out)) : w.heap.size ≤ g3); have n0_ := Z0 (Y0 HB.out hb); clear HB; have HB := n0_; clear n0_; (try clear hb); clear hbox hg; have k0 : w3.cell? ⟨g3, 0, none⟩ = some (.string name) := (Z2 BK.out 0).trans rfl; have kz0 := Z1 BK.out 0) | (go_at_call 66; (with_reducible refine (CI.out g3 _ (Kd.C_below HR0.out HB.out) BK.out).mono ?_); rintro e w4 ⟨rfl, hb⟩; have n0_ := Z0 (Y0 HB.out hb); clear HB; have HB := n0_; clear n0_; (try clear hb)))
  all_goals first | go_ret | go_ret2
  all_goals exact ⟨by rw [HM.out.1, HM.out.2]; rfl, HB.out⟩
def table_Index.f (l0 : List (S23)) (a1 : ByteArray) : Option (Int × Bool) := if l0.length ≤ 1000000000 then some (max (idxS l0 a1) 0, decide (idxS l0 a1 ≥ 0)) else none
theorem table_Index.calls (A0 : Option Addr) (c0 : Nat) (l0 : List (S23)) (a1 : ByteArray) (r1 : Int) (r2 : Bool) (w : World) (hr0 : Kd.C k23 w A0 l0.length l0) (hc0 : l0.length ≤ c0) (h : table_Index.f l0 a1 = some (r1, r2)) :
  Calls Tryz.prog 27 #[.slice A0 l0.length c0, .string a1] w fun e w' => e = .returned (.tuple #[.int .i64 r1, .bool r2]) ∧ Below w.heap.size w w' := by
 unfold table_Index.f at h
 split at h
 ·rename_i hL
  cases h
  exact ix_walk A0 c0 l0 a1 w hr0 hc0 hL
 ·cases h
end Go.Proofs.YtldpdidlfbphcaaGreatDoor.P
end
section
namespace Go.Proofs.YtldpdidlfbphcaaGreatDoor.P
open Go.RowKit Go.Proofs.YtldpdidlfbphcaaGreatDoorW.PrintWords Go.Proofs.YtldpdidlfbphcaaGreatDoorW.PrintLast Go.Proofs.YtldpdidlfbphcaaGreatDoorW.PrintMore
def nameL (s : ByteArray) : List Int := s.data.toList.map (fun b => (b.toNat : Int)) ++ List.replicate (10 - s.size) 0
def kindLetter (n : Int) : Int := if n = 1 then 76 else if n = 2 then 78 else if n = 3 then 68 else if n = 4 then 67 else if n = 5 then 77 else 0
def descL (x : S23) : List Int := nameL x.f0 ++ [kindLetter x.f1, x.f2 % 256, if x.f3 = true then 1 else 0, 0, 0, 0]
def descO (x : S23) : Option (List Int) := if x.f0.size ≤ 10 then some (descL x) else none
theorem nameL_len {s : ByteArray} (h : s.size ≤ 10) : (nameL s).length = 10 := by
 unfold nameL
 rw [List.length_append, List.length_map, List.length_replicate]
 have e : s.data.toList.length = s.size := rfl
 omega
theorem descO_some {x : S23} {l : List Int} (h : descO x = some l) : x.f0.size ≤ 10 ∧ l.length = 16 ∧ l = descL x := by
 unfold descO at h
 split at h
 ·rename_i hs
  cases h
  refine ⟨hs, ?_, rfl⟩
  unfold descL
  rw [List.length_append, nameL_len hs]
  rfl
 ·cases h
def u8s (l : List Int) : Array Value := (l.map (Value.int .u8)).toArray
theorem set16 : ∀ (L : List Int), L.length = 10 → ∀ a b c d e f x : Int, (u8s (L ++ [a, b, c, d, e, f])).setIfInBounds 10 (.int .u8 x) = u8s (L ++ [x, b, c, d, e, f]) ∧ (u8s (L ++ [a, b, c, d, e, f])).setIfInBounds 11 (.int .u8 x) = u8s (L ++ [a, x, c, d, e, f]) ∧ (u8s (L ++ [a, b, c, d, e, f])).setIfInBounds 12 (.int .u8 x) = u8s (L ++ [a, b, x, d, e, f])
 | [a0, a1, a2, a3, a4, a5, a6, a7, a8, a9], _, _, _, _, _, _, _, _ => ⟨rfl, rfl, rfl⟩
theorem u8s_some {l : List Int} {i : Nat} (h : i < l.length) : (u8s l)[i]? = some ((u8s l)[i]'(by unfold u8s; simpa using h)) := Array.getElem?_eq_getElem _
theorem copy_arr (W : World) (g : Nat) (s : ByteArray) (hg : W.heap[g]? = some (.cells #[.int .u8 0, .int .u8 0, .int .u8 0, .int .u8 0, .int .u8 0, .int .u8 0, .int .u8 0, .int .u8 0, .int .u8 0, .int .u8 0, .int .u8 0, .int .u8 0, .int .u8 0, .int .u8 0, .int .u8 0, .int .u8 0] 123 (0, 0))) (hs : s.size ≤ 10) :
  (Builtin.copy_ #[37, 9] 3 #[.slice (some ⟨g, 0, none⟩) 10 10, .string s]).run Tryz.prog W = .ok (goInt s.size) (W.setRow g (u8s (nameL s ++ [0, 0, 0, 0, 0, 0]))) := by
 have h := Lib.run_copy_row_string (P := Tryz.prog) W 37 9 3 5 g 0 10 10 s _ 123 Tryz.underlying37 (by kernel_rfl) hg hs (by simp; omega)
 have e2 : ((#[.int .u8 0, .int .u8 0, .int .u8 0, .int .u8 0, .int .u8 0, .int .u8 0, .int .u8 0, .int .u8 0, .int .u8 0, .int .u8 0, .int .u8 0, .int .u8 0, .int .u8 0, .int .u8 0, .int .u8 0, .int .u8 0] : Array Value).toList.take 0 ++ Lib.byteCells s.data.toList ++ (#[.int .u8 0, .int .u8 0, .int .u8 0, .int .u8 0, .int .u8 0, .int .u8 0, .int .u8 0, .int .u8 0, .int .u8 0, .int .u8 0, .int .u8 0, .int .u8 0, .int .u8 0, .int .u8 0, .int .u8 0, .int .u8 0] : Array Value).toList.drop (0 + s.size)).toArray = u8s (nameL s ++ [0, 0, 0, 0, 0, 0]) := by
  unfold u8s nameL
  refine congrArg List.toArray ?_
  rw [List.map_append, List.map_append, List.map_map, List.map_replicate, Nat.zero_add]
  rw [List.take_zero, List.nil_append, List.append_assoc]
  show Lib.byteCells s.data.toList ++ _ = Lib.byteCells s.data.toList ++ _
  refine congrArg (Lib.byteCells s.data.toList ++ ·) ?_
  obtain ⟨n, hn⟩ : ∃ n, s.size = n := ⟨_, rfl⟩
  rw [hn] at hs ⊢
  rcases n with _ | _ | _ | _ | _ | _ | _ | _ | _ | _ | _ | n
  all_goals first | rfl | (exfalso; omega)
 rw [e2] at h
 exact h
theorem rowset_far {W : World} {g k : Nat} {o : Obj} (h : W.heap[k]? = some o) (hk : k ≠ g) (cs : Array Value) : (W.setRow g cs).heap[k]? = some o := (setRow_other W g k cs hk).trans h
theorem rowset_R {W : World} {g base : Nat} {v : Value} {xs : List Int} {cs0 : Array Value} {t : TypeId} (h : Kd.R (Kd.int .u8) 5 W base (fun _ => True) v xs) (hg : W.heap[g]? = some (.cells cs0 t (0, 0))) (cs : Array Value) (hne : (5 : Nat) ≠ t) : Kd.R (Kd.int .u8) 5 (W.setRow g cs) base (fun _ => True) v xs := by
 exact Kd.R_mono (Kd.R_step (Kd.R_types h hg (by intro q hq; rcases List.mem_cons.1 hq with rfl | hq; exact hne; exact absurd hq (by simp [Kd.int, Kd.scalar]))) (fun k ho _ => setRow_other W g k cs ho.2)) (fun _ _ => trivial)
theorem cellset_R {W : World} {g base j : Nat} {v u : Value} {xs : List Int} {cs0 : Array Value} {t : TypeId} (h : Kd.R (Kd.int .u8) 5 W base (fun _ => True) v xs) (hg : W.heap[g]? = some (.cells cs0 t (0, 0))) (hne : (5 : Nat) ≠ t) : Kd.R (Kd.int .u8) 5 (W.setCell ⟨g, j, none⟩ u) base (fun _ => True) v xs :=
 Kd.R_mono (Kd.R_far (p := ⟨g, j, none⟩) (Kd.R_types h hg (by intro q hq; rcases List.mem_cons.1 hq with rfl | hq; exact hne; exact absurd hq (by simp [Kd.int, Kd.scalar]))) (fun _ hk => hk.2) u) (fun _ _ => trivial)
theorem kindVal_letter (n : Int) : ∃ f1 f2 : Value, kindVal n = .agg #[.int .u8 (kindLetter n), .int .i64 (kindLo n), .int .i64 (kindHi n), f1, f2] := by
 by_cases h1 : n = 1
 ·subst h1; exact ⟨_, _, rfl⟩
 by_cases h2 : n = 2
 ·subst h2; exact ⟨_, _, rfl⟩
 by_cases h3 : n = 3
 ·subst h3; exact ⟨_, _, rfl⟩
 by_cases h4 : n = 4
 ·subst h4; exact ⟨_, _, rfl⟩
 by_cases h5 : n = 5
 ·subst h5; exact ⟨_, _, rfl⟩
 have e1 : kindLo n = 0 := by unfold kindLo kindFound; rw [if_neg (by omega), if_neg (by simp; omega)]
 have e2 : kindHi n = 0 := by unfold kindHi; rw [if_neg (by omega), if_neg h1, if_neg h2, if_neg h4]
 have e3 : kindLetter n = 0 := by unfold kindLetter; rw [if_neg h1, if_neg h2, if_neg h3, if_neg h4, if_neg h5]
 rw [e1, e2, e3]
 unfold kindVal
 rw [if_neg h1, if_neg h2, if_neg h3, if_neg h4, if_neg h5]
 exact ⟨_, _, rfl⟩
theorem run_look' (W : World) (r : Nat) (hb : W.heap[r]? = some (.map kindsEs 5)) (n : Int) (v : Value) (hv : kindVal n = v) : (Instr.lookup 104 (.map (some r)) (.int .i64 n) false).run Tryz.prog W = .ok v W := by
 rw [run_look W r hb n false, ← hv]; rfl
theorem blk_C {W : World} {g : Nat} {t : TypeId} (xs : List Int) (h : W.heap[g]? = some (.cells (u8s xs) t (0, 0))) (hl : xs.length ≤ 9223372036854775807) : (Kd.int .u8).C W (some ⟨g, 0, none⟩) xs.length xs := by
 refine ⟨rfl, hl, fun _ => ⟨_, rfl, fun j p hj => ⟨[.int .u8 p], rfl, rfl, fun i u hu => ?_⟩⟩⟩
 have hi : i = 0 := by
  have := (List.getElem?_eq_some_iff.1 hu).1
  simpa using this
 subst hi
 have hc := Z2 h j
 have e : (u8s xs)[j]? = some (.int .u8 p) := by
  unfold u8s
  rw [List.getElem?_toArray, List.getElem?_map, hj]
  rfl
 have hu' : Value.int .u8 p = u := by simpa using hu
 rw [← hu', ← e, ← hc]
 simp [Addr.add, Kd.int, Kd.scalar]
 split
 ·rename_i h0; rw [h0]
 ·rfl
theorem hd_C {W : World} {g : Nat} {t : TypeId} {l ys : List Int} (h : W.heap[g]? = some (.cells (u8s l) t (0, 0))) (hy : ys = l) (hl : ys.length = 16) : (Kd.int .u8).C W (some ⟨g, 0, none⟩) 16 ys := by
 subst hy
 have := blk_C ys h (by omega)
 rw [hl] at this
 exact this
def hd_T9 : Bool × List (List Nat × List Nat) := (true, [([], []), ([], []), ([1], [1]), ([0, 2], [0, 2])])
theorem hd_tab9 : rtab .any (opsOf Tryz.f62 9) = hd_T9 := by kernel_rfl
def hd_T10 : Bool × List (List Nat × List Nat) := (true, [([], []), ([], []), ([1], [1]), ([0, 2], [0, 2]), ([3], [3]), ([], []), ([5], [5]), ([6], [6]), ([0, 1, 2, 3, 4], []), ([8, 4, 0, 0, 1, 2, 3, 4], [4, 8]), ([0, 1, 2, 3, 4, 5, 6, 7, 8, 9], []), ([10, 7, 9, 0, 1, 2, 3, 4, 5, 6, 7, 8, 9], [7, 10])])
theorem hd_tab10 : rtab .any (opsOf Tryz.f62 10) = hd_T10 := by kernel_rfl
end Go.Proofs.YtldpdidlfbphcaaGreatDoor.P
end
section
namespace Go.Proofs.YtldpdidlfbphcaaGreatDoor.P
open Go.RowKit Go.Proofs.YtldpdidlfbphcaaGreatDoorW.PrintWords Go.Proofs.YtldpdidlfbphcaaGreatDoorW.PrintLast Go.Proofs.YtldpdidlfbphcaaGreatDoorW.PrintMore
attribute [local go_sem] max2_int min2_int max_two min_two max_three min_three max_four min_four
def table_writeTruth.f (a0_0 : ByteArray) (a0_1 : Int) (a0_2 : Int) (a0_3 : Bool) (a1_0 : Int) (a1_1 : Int) (a1_2 : ByteArray) : Option (ByteArray) := if 0 ≤ a1_1 then (if a1_1 ≤ (wrap64 (a1_1 + 1)) then (if (wrap64 (a1_1 + 1)) ≤ 2 then (some ((⟨#[70, 84]⟩ : ByteArray).extract (a1_1 : Int).toNat ((wrap64 (a1_1 + 1)) : Int).toNat)) else (none)) else (none)) else (none)
set_option maxHeartbeats 8000000 in
set_option maxRecDepth 100000 in
theorem table_writeTruth.calls (a0_0 : ByteArray) (a0_1 : Int) (a0_2 : Int) (a0_3 : Bool) (a1_0 : Int) (a1_1 : Int) (a1_2 : ByteArray) (r : ByteArray) (w : World) (h : table_writeTruth.f a0_0 a0_1 a0_2 a0_3 a1_0 a1_1 a1_2 = some r) :
  Calls Tryz.prog 125 #[.agg #[.string a0_0, .int .i64 a0_1, .int .i64 a0_2, .bool a0_3], .agg #[.int .i64 a1_0, .int .i64 a1_1, .string a1_2]] w fun e w' => e = .returned (.string r) ∧ Below w.heap.size w w' := by
 have hu23 := Tryz.underlying23
 have hu25 := Tryz.underlying25
 have HB := Z0 (Below.refl w.heap.size w)
 have H : (if 0 ≤ a1_1 then (if a1_1 ≤ (wrap64 (a1_1 + 1)) then (if (wrap64 (a1_1 + 1)) ≤ 2 then (some ((⟨#[70, 84]⟩ : ByteArray).extract (a1_1 : Int).toNat ((wrap64 (a1_1 + 1)) : Int).toNat)) else (none)) else (none)) else (none)) = some r := h
 clear h
 by_cases c3 : 0 ≤ a1_1
 ·rw [if_pos c3] at H
  have c3b0 := eq_true c3
  have c3b1 : decide (0 ≤ a1_1) = true := decide_eq_true c3
  clear c3
  by_cases c4 : a1_1 ≤ (wrap64 (a1_1 + 1))
  ·rw [if_pos c4] at H
   have c4b0 := eq_true c4
   have c4b1 : decide (a1_1 ≤ (wrap64 (a1_1 + 1))) = true := decide_eq_true c4
   by_cases c5 : (wrap64 (a1_1 + 1)) ≤ 2
   ·rw [if_pos c5] at H
    have c5b0 := eq_true c5
    have c5b1 : decide ((wrap64 (a1_1 + 1)) ≤ 2) = true := decide_eq_true c5
    obtain rfl := Option.some.inj H
    go_enter Tryz.func125, Tryz.ntmps125
    go_wp2_with (first | ((with_reducible refine X0 (N := 2) rfl ?_); refine Y9 ?hg (N := 2) ?hd (cs := #[.string a0_0, .int .i64 a0_1, .int .i64 a0_2, .bool a0_3]) (t := 23) ?hr ?_; (case hd => rfl); (case hg => rfl); (case hr => go_simp; try rfl); intro gb552 hg w6 hbox hb; have n0_ := Z0 (Y0 HB.out hb); have n1_ := Z0 (hbox); have n3_ := Z0 ((by rw [hg]; exact (Y6 HB.out) : w.heap.size ≤ gb552)); clear HB; have HB := n0_; have BK552 := n1_; have GE552 := n3_; clear n0_ n1_ n3_; clear hb hbox hg) | ((with_reducible refine X0 (N := 3) rfl ?_); refine Y9 ?hg (N := 3) ?hd (cs := #[.int .i64 a1_0, .int .i64 a1_1, .string a1_2]) (t := 25) ?hr ?_; (case hd => rfl); (case hg => rfl); (case hr => go_simp; try rfl); intro gb553 hg w7 hbox hb; have n0_ := Z0 (Y1 (g := gb552) (o := .cells #[.string a0_0, .int .i64 a0_1, .int .i64 a0_2, .bool a0_3] 23 (0, 0)) BK552.out hb); have n1_ := Z0 (Y0 HB.out hb); have n2_ := Z0 (hbox); have n4_ := Z0 ((by rw [hg]; exact (Y6 HB.out) : w.heap.size ≤ gb553)); have n5_ := Z0 ((by rw [hg]; exact Nat.ne_of_lt (blk_lt (g := gb552) (o := .cells #[.string a0_0, .int .i64 a0_1, .int .i64 a0_2, .bool a0_3] 23 (0, 0)) BK552.out) : gb552 ≠ gb553)); have n6_ := Z0 ((by rw [hg]; exact Nat.ne_of_gt (blk_lt (g := gb552) (o := .cells #[.string a0_0, .int .i64 a0_1, .int .i64 a0_2, .bool a0_3] 23 (0, 0)) BK552.out) : gb553 ≠ gb552)); clear BK552; clear HB; have BK552 := n0_; have HB := n1_; have BK553 := n2_; have GE553 := n4_; have NB552_553 := n5_; have NB553_552 := n6_; clear n0_ n1_ n2_ n4_ n5_ n6_; clear hb hbox hg; have hnb8 := NB553_552.out; have hnc8 := NB552_553.out; have hcz9_0 : w7.cell? ⟨gb553, 0, none⟩ = some (.int .i64 a1_0) := (Z2 BK553.out 0).trans rfl; have hcz9_1 : w7.cell? ⟨gb553, 1, none⟩ = some (.int .i64 a1_1) := (Z2 BK553.out 1).trans rfl; have hcz9_2 : w7.cell? ⟨gb553, 2, none⟩ = some (.string a1_2) := (Z2 BK553.out 2).trans rfl; have hfz9_0 := Z1 BK553.out 0; have hfz9_1 := Z1 BK553.out 1; have hfz9_2 := Z1 BK553.out 2))
    go_ret
    exact ⟨rfl, by repeat (first | (with_reducible first | exact HB.out | apply Z7 | apply Z4 | apply Z9 | refine Z8 ?_ GE552.out | refine Z8 ?_ GE553.out) | exact HB.out)⟩
   ·rw [if_neg c5] at H
    exact absurd H (by simp)
  ·rw [if_neg c4] at H
   exact absurd H (by simp)
 ·rw [if_neg c3] at H
  exact absurd H (by simp)
def table_writeNum.f (k : Nat) (a0_0 : ByteArray) (a0_1 : Int) (a0_2 : Int) (a0_3 : Bool) (a1_0 : Int) (a1_1 : Int) (a1_2 : ByteArray) : Option (ByteArray) := (val_Str.f k a1_1 a0_2).bind fun bt543 => (some bt543.1)
theorem table_writeNum.mono : ∀ a0 a1 a2 a3 a4 a5 a6 k, LeO (table_writeNum.f k a0 a1 a2 a3 a4 a5 a6) (table_writeNum.f (k + 1) a0 a1 a2 a3 a4 a5 a6) := by
 intro a0 a1 a2 a3 a4 a5 a6 k
 unfold table_writeNum.f
 repeat' first
   | (with_reducible exact val_Str.mono _ _ _)
   | (with_reducible exact LeO.refl _)
   | (with_reducible exact X2 _)
   | (with_reducible refine X4 ?_ ?_)
   | (with_reducible refine X3 ?_ (fun _ => ?_))
   | exact val_Str.mono _ _ _
   | exact X2 _
   | refine X4 ?_ ?_
   | refine X3 ?_ (fun _ => ?_)
set_option maxHeartbeats 8000000 in
set_option maxRecDepth 100000 in
theorem table_writeNum.calls (k : Nat) (a0_0 : ByteArray) (a0_1 : Int) (a0_2 : Int) (a0_3 : Bool) (a1_0 : Int) (a1_1 : Int) (a1_2 : ByteArray) (r : ByteArray) (w : World) (h : table_writeNum.f k a0_0 a0_1 a0_2 a0_3 a1_0 a1_1 a1_2 = some r) :
  Calls Tryz.prog 127 #[.agg #[.string a0_0, .int .i64 a0_1, .int .i64 a0_2, .bool a0_3], .agg #[.int .i64 a1_0, .int .i64 a1_1, .string a1_2]] w fun e w' => e = .returned (.string r) ∧ Below w.heap.size w w' := by
 have hu23 := Tryz.underlying23
 have hu25 := Tryz.underlying25
 have HB := Z0 (Below.refl w.heap.size w)
 have H : ((val_Str.f k a1_1 a0_2).bind fun bt543 => (some bt543.1)) = some r := h
 clear h
 replace H := Option.bind_eq_some_iff.mp H
 obtain ⟨⟨t543, t544⟩, A30, H⟩ := H
 replace H : (some t543) = some r := H
 have A3 := Z0 A30
 clear A30
 obtain rfl := Option.some.inj H
 go_enter Tryz.func127, Tryz.ntmps127
 go_wp2_with (first | ((with_reducible refine X0 (N := 2) rfl ?_); refine Y9 ?hg (N := 2) ?hd (cs := #[.string a0_0, .int .i64 a0_1, .int .i64 a0_2, .bool a0_3]) (t := 23) ?hr ?_; (case hd => rfl); (case hg => rfl); (case hr => go_simp; try rfl); intro gb541 hg w4 hbox hb; have n0_ := Z0 (Y0 HB.out hb); have n1_ := Z0 (hbox); have n3_ := Z0 ((by rw [hg]; exact (Y6 HB.out) : w.heap.size ≤ gb541)); clear HB; have HB := n0_; have BK541 := n1_; have GE541 := n3_; clear n0_ n1_ n3_; clear hb hbox hg) | ((with_reducible refine X0 (N := 3) rfl ?_); refine Y9 ?hg (N := 3) ?hd (cs := #[.int .i64 a1_0, .int .i64 a1_1, .string a1_2]) (t := 25) ?hr ?_; (case hd => rfl); (case hg => rfl); (case hr => go_simp; try rfl); intro gb542 hg w5 hbox hb; have n0_ := Z0 (Y1 (g := gb541) (o := .cells #[.string a0_0, .int .i64 a0_1, .int .i64 a0_2, .bool a0_3] 23 (0, 0)) BK541.out hb); have n1_ := Z0 (Y0 HB.out hb); have n2_ := Z0 (hbox); have n4_ := Z0 ((by rw [hg]; exact (Y6 HB.out) : w.heap.size ≤ gb542)); have n5_ := Z0 ((by rw [hg]; exact Nat.ne_of_lt (blk_lt (g := gb541) (o := .cells #[.string a0_0, .int .i64 a0_1, .int .i64 a0_2, .bool a0_3] 23 (0, 0)) BK541.out) : gb541 ≠ gb542)); have n6_ := Z0 ((by rw [hg]; exact Nat.ne_of_gt (blk_lt (g := gb541) (o := .cells #[.string a0_0, .int .i64 a0_1, .int .i64 a0_2, .bool a0_3] 23 (0, 0)) BK541.out) : gb542 ≠ gb541)); clear BK541; clear HB; have BK541 := n0_; have HB := n1_; have BK542 := n2_; have GE542 := n4_; have NB541_542 := n5_; have NB542_541 := n6_; clear n0_ n1_ n2_ n4_ n5_ n6_; clear hb hbox hg; have hnb6 := NB542_541.out; have hnc6 := NB541_542.out; have hcz7_0 : w5.cell? ⟨gb542, 0, none⟩ = some (.int .i64 a1_0) := (Z2 BK542.out 0).trans rfl; have hcz7_1 : w5.cell? ⟨gb542, 1, none⟩ = some (.int .i64 a1_1) := (Z2 BK542.out 1).trans rfl; have hcz7_2 : w5.cell? ⟨gb542, 2, none⟩ = some (.string a1_2) := (Z2 BK542.out 2).trans rfl; have hfz7_0 := Z1 BK542.out 0; have hfz7_1 := Z1 BK542.out 1; have hfz7_2 := Z1 BK542.out 2; have hcz8_0 : w5.cell? ⟨gb541, 0, none⟩ = some (.string a0_0) := (Z2 BK541.out 0).trans rfl; have hcz8_1 : w5.cell? ⟨gb541, 1, none⟩ = some (.int .i64 a0_1) := (Z2 BK541.out 1).trans rfl; have hcz8_2 : w5.cell? ⟨gb541, 2, none⟩ = some (.int .i64 a0_2) := (Z2 BK541.out 2).trans rfl; have hcz8_3 : w5.cell? ⟨gb541, 3, none⟩ = some (.bool a0_3) := (Z2 BK541.out 3).trans rfl; have hfz8_0 := Z1 BK541.out 0; have hfz8_1 := Z1 BK541.out 1; have hfz8_2 := Z1 BK541.out 2; have hfz8_3 := Z1 BK541.out 3) | ((with_reducible refine X1 (f := 53) rfl ?_); refine goesL_ (some 12) rfl rfl Tryz.func53 (by kernel_rfl) rfl #[.int .i64 a1_1, .int .i64 a0_2] rfl (by (try simp only [Y2, Y7, Y8]); first | done | rfl) ?_; (with_reducible refine (val_Str.calls k a1_1 a0_2 t543 t544 _ A3.out).mono ?_); rintro e w9 ⟨rfl, hb⟩; refine ⟨_, rfl, ?_⟩; have n0_ := Z0 (Y1 (g := gb541) (o := .cells #[.string a0_0, .int .i64 a0_1, .int .i64 a0_2, .bool a0_3] 23 (0, 0)) BK541.out hb); have n1_ := Z0 (Y1 (g := gb542) (o := .cells #[.int .i64 a1_0, .int .i64 a1_1, .string a1_2] 25 (0, 0)) BK542.out hb); have n2_ := Z0 (Y0 HB.out hb); clear BK541; clear BK542; clear HB; have BK541 := n0_; have BK542 := n1_; have HB := n2_; clear n0_ n1_ n2_; (try clear hb); (try clear hb2); (try clear hk); (try clear hi)))
 go_ret
 exact ⟨rfl, by repeat (first | (with_reducible first | exact HB.out | apply Z7 | apply Z4 | apply Z9 | refine Z8 ?_ GE541.out | refine Z8 ?_ GE542.out) | exact HB.out)⟩
def val_yearsDays.f (a0 : Int) : Option (Int) := some (wrap64 ((wrap64 ((wrap64 ((wrap64 (365 * (wrap64 (a0 - 1)))) + (wrap64 (Int.tdiv (wrap64 (a0 - 1)) 4)))) - (wrap64 (Int.tdiv (wrap64 (a0 - 1)) 100)))) + (wrap64 (Int.tdiv (wrap64 (a0 - 1)) 400))))
set_option maxHeartbeats 8000000 in
set_option maxRecDepth 100000 in
theorem val_yearsDays.calls (a0 : Int) (r : Int) (w : World) (h : val_yearsDays.f a0 = some r) :
  Calls Tryz.prog 180 #[.int .i64 a0] w fun e w' => e = .returned (.int .i64 r) ∧ Drawn0 w w' := by
 have H : (some (wrap64 ((wrap64 ((wrap64 ((wrap64 (365 * (wrap64 (a0 - 1)))) + (wrap64 (Int.tdiv (wrap64 (a0 - 1)) 4)))) - (wrap64 (Int.tdiv (wrap64 (a0 - 1)) 100)))) + (wrap64 (Int.tdiv (wrap64 (a0 - 1)) 400))))) = some r := h
 clear h
 obtain rfl := Option.some.inj H
 go_enter Tryz.func180, Tryz.ntmps180
 go_wp2
 go_ret
 exact ⟨by first | rfl | (simp; done) | (simp [*]; done), by repeat (first | exact X6 _ | apply X5)⟩
def val_isLeap.j0 : Nat → Bool → Option (Bool)
 | 0, _ => none
 | k + 1, x2 => some x2
def val_isLeap.f (k : Nat) (a0 : Int) : Option (Bool) := if (Int.tmod a0 4) = 0 then (if (Int.tmod a0 100) = 0 then (val_isLeap.j0 k ((Int.tmod a0 400) == 0)) else (val_isLeap.j0 k true)) else (val_isLeap.j0 k false)
theorem val_isLeap.mono_l : ∀ k, (∀ y0, LeO (val_isLeap.j0 k y0) (val_isLeap.j0 (k + 1) y0))
 | 0 => fun _ r h => by simp [val_isLeap.j0] at h
 | k + 1 => by
  have ih0 := val_isLeap.mono_l k
  ·intro y0
   unfold val_isLeap.j0
   repeat' first
   | (with_reducible exact ih0 _)
   | (with_reducible exact LeO.refl _)
   | (with_reducible exact X2 _)
   | (with_reducible refine X4 ?_ ?_)
   | (with_reducible refine X3 ?_ (fun _ => ?_))
   | exact ih0 _
   | exact X2 _
   | refine X4 ?_ ?_
   | refine X3 ?_ (fun _ => ?_)
theorem val_isLeap.mono : ∀ a0 k, LeO (val_isLeap.f k a0) (val_isLeap.f (k + 1) a0) := by
 intro a0 k
 have ih0 := val_isLeap.mono_l k
 unfold val_isLeap.f
 repeat' first
   | (with_reducible exact ih0 _)
   | (with_reducible exact LeO.refl _)
   | (with_reducible exact X2 _)
   | (with_reducible refine X4 ?_ ?_)
   | (with_reducible refine X3 ?_ (fun _ => ?_))
   | exact ih0 _
   | exact X2 _
   | refine X4 ?_ ?_
   | refine X3 ?_ (fun _ => ?_)
set_option maxHeartbeats 8000000 in
set_option maxRecDepth 100000 in
theorem val_isLeap.calls (k : Nat) (a0 : Int) (r : Bool) (w : World) (h : val_isLeap.f k a0 = some r) :
  Calls Tryz.prog 183 #[.int .i64 a0] w fun e w' => e = .returned (.bool r) ∧ Drawn0 w w' := by
 have H : (if (Int.tmod a0 4) = 0 then (if (Int.tmod a0 100) = 0 then (val_isLeap.j0 k ((Int.tmod a0 400) == 0)) else (val_isLeap.j0 k true)) else (val_isLeap.j0 k false)) = some r := h
 clear h
 have HC2 := Z0 H
 clear H
 go_enter Tryz.func183, Tryz.ntmps183
 go_upto_region 1 with (fail)
 go_cut [2] (fun v2 wc => ∃ (kq : Nat) (x2_1 : Bool), v2 = .bool x2_1 ∧ Aside0 (val_isLeap.j0 kq x2_1 = some r) ∧ Aside0 (kq ≤ k) ∧ Drawn0 w wc)
 case first =>
  have H := HC2.out
  clear HC2
  by_cases c3 : (Int.tmod a0 4) = 0
  ·rw [if_pos c3] at H
   have c3b0 : ((Int.tmod a0 4) == 0) = true := beq_iff_eq.mpr c3
   have c3b1 : ((Int.tmod a0 4) != 0) = false := bne_eq_false_iff_eq.mpr c3
   clear c3
   (first | rw [c3b0] | (simp only [i64_w, i32_w]; rw [c3b0]) | skip)
   by_cases c4 : (Int.tmod a0 100) = 0
   ·rw [if_pos c4] at H
    have c4b0 : ((Int.tmod a0 100) == 0) = true := beq_iff_eq.mpr c4
    have c4b1 : ((Int.tmod a0 100) != 0) = false := bne_eq_false_iff_eq.mpr c4
    clear c4
    have H' := Z0 H
    clear H
    go_wp2
    go_meet
    case rel => exact ⟨_, (((Int.tmod a0 400) == 0)), (by first | rfl | (simp; done) | (simp [*]; done)), H', ⟨by first | omega | exact Nat.le_refl _⟩, by repeat (first | exact X6 _ | apply X5)⟩
   ·rw [if_neg c4] at H
    have c4b0 : ((Int.tmod a0 100) == 0) = false := beq_eq_false_iff_ne.mpr c4
    have c4b1 : ((Int.tmod a0 100) != 0) = true := bne_iff_ne.mpr c4
    have H' := Z0 H
    clear H
    go_wp2
    go_meet
    case rel => exact ⟨_, (true), (by first | rfl | (simp; done) | (simp [*]; done)), H', ⟨by first | omega | exact Nat.le_refl _⟩, by repeat (first | exact X6 _ | apply X5)⟩
  ·rw [if_neg c3] at H
   have c3b0 : ((Int.tmod a0 4) == 0) = false := beq_eq_false_iff_ne.mpr c3
   have c3b1 : ((Int.tmod a0 4) != 0) = true := bne_iff_ne.mpr c3
   (first | rw [c3b0] | (simp only [i64_w, i32_w]; rw [c3b0]) | skip)
   have H' := Z0 H
   clear H
   go_wp2
   go_meet
   case rel => exact ⟨_, (false), (by first | rfl | (simp; done) | (simp [*]; done)), H', ⟨by first | omega | exact Nat.le_refl _⟩, by repeat (first | exact X6 _ | apply X5)⟩
 case rest =>
  clear HC2
  (try clear c1);(try clear p2);(try clear c3);(try clear c3b0);(try clear c3b1);(try clear c4);(try clear c4b0);(try clear c4b1)
  obtain ⟨kq, x2_1, rfl, HA, HJ1, ⟨mc1, rfl⟩⟩ := hcut
  cases kq with
  | zero => exact absurd HA.out (by simp [val_isLeap.j0])
  | succ kj1 =>
   have H := HA.out
   clear HA
   simp only [val_isLeap.j0] at H
   obtain rfl := Option.some.inj H
   go_wp2
   go_ret
   exact ⟨by first | rfl | (simp; done) | (simp [*]; done), by repeat (first | exact X6 _ | apply X5)⟩
end Go.Proofs.YtldpdidlfbphcaaGreatDoor.P
end
section
namespace Go.Proofs.YtldpdidlfbphcaaGreatDoor.P
open Go.RowKit Go.Proofs.YtldpdidlfbphcaaGreatDoorW.PrintWords Go.Proofs.YtldpdidlfbphcaaGreatDoorW.PrintLast Go.Proofs.YtldpdidlfbphcaaGreatDoorW.PrintMore
def mdS (m : Int) : Int := if m = 2 then 28 else if m = 4 ∨ m = 6 ∨ m = 9 ∨ m = 11 then 30 else 31
def val_monthDays.f (a0 : Int) (a1 : Int) : Option (Int) := if 1 ≤ a1 ∧ a1 ≤ 12 then (if a1 = 2 then (val_isLeap.f 1 a0).bind fun l => some (if l = true then 29 else 28) else some (mdS a1)) else none
set_option maxHeartbeats 8000000 in
set_option maxRecDepth 100000 in
theorem md_1 (y : Int) (w : World) : Calls Tryz.prog 179 #[.int .i64 y, .int .i64 1] w fun e w' => e = .returned (.int .i64 31) ∧ Below w.heap.size w w' := by
 have HB := Z0 (Below.refl w.heap.size w)
 go_enter Tryz.func179, Tryz.ntmps179
 go_wp2_with (first | fail)
 go_ret
 exact ⟨rfl, by repeat (first | exact HB.out | exact Z7 HB.out _ | refine Z8 ?_ (Nat.le_refl _))⟩
set_option maxHeartbeats 8000000 in
set_option maxRecDepth 100000 in
theorem md_2t (y : Int) (w : World) (hl : ∀ W, Calls Tryz.prog 183 #[.int .i64 y] W fun e w' => e = .returned (.bool true) ∧ Below W.heap.size W w') : Calls Tryz.prog 179 #[.int .i64 y, .int .i64 2] w fun e w' => e = .returned (.int .i64 29) ∧ Below w.heap.size w w' := by
 have HB := Z0 (Below.refl w.heap.size w)
 go_enter Tryz.func179, Tryz.ntmps179
 go_wp2_with (first | fail | (go_at_call 183; refine (hl _).mono ?_; rintro e w7 ⟨rfl, hb⟩; have n0_ := Z0 (Y0 (by repeat (first | exact HB.out | exact Z7 HB.out _ | refine Z8 ?_ (Nat.le_refl _))) hb); clear HB; have HB := n0_; clear n0_ hb))
 go_ret
 exact ⟨rfl, by repeat (first | exact HB.out | exact Z7 HB.out _ | refine Z8 ?_ (Nat.le_refl _))⟩
set_option maxHeartbeats 8000000 in
set_option maxRecDepth 100000 in
theorem md_2f (y : Int) (w : World) (hl : ∀ W, Calls Tryz.prog 183 #[.int .i64 y] W fun e w' => e = .returned (.bool false) ∧ Below W.heap.size W w') : Calls Tryz.prog 179 #[.int .i64 y, .int .i64 2] w fun e w' => e = .returned (.int .i64 28) ∧ Below w.heap.size w w' := by
 have HB := Z0 (Below.refl w.heap.size w)
 go_enter Tryz.func179, Tryz.ntmps179
 go_wp2_with (first | fail | (go_at_call 183; refine (hl _).mono ?_; rintro e w7 ⟨rfl, hb⟩; have hk7 := Y1 (blk_new w _) hb; have hc7 : w7.cell? ⟨w.heap.size, 1, none⟩ = some (.int .i64 28) := (Z2 hk7 1).trans rfl; clear hk7; have n0_ := Z0 (Y0 (by repeat (first | exact HB.out | exact Z7 HB.out _ | refine Z8 ?_ (Nat.le_refl _))) hb); clear HB; have HB := n0_; clear n0_ hb))
 go_ret
 exact ⟨rfl, by repeat (first | exact HB.out | exact Z7 HB.out _ | refine Z8 ?_ (Nat.le_refl _))⟩
set_option maxHeartbeats 8000000 in
set_option maxRecDepth 100000 in
theorem md_3 (y : Int) (w : World) : Calls Tryz.prog 179 #[.int .i64 y, .int .i64 3] w fun e w' => e = .returned (.int .i64 31) ∧ Below w.heap.size w w' := by
 have HB := Z0 (Below.refl w.heap.size w)
 go_enter Tryz.func179, Tryz.ntmps179
 go_wp2_with (first | fail)
 go_ret
 exact ⟨rfl, by repeat (first | exact HB.out | exact Z7 HB.out _ | refine Z8 ?_ (Nat.le_refl _))⟩
set_option maxHeartbeats 8000000 in
set_option maxRecDepth 100000 in
theorem md_4 (y : Int) (w : World) : Calls Tryz.prog 179 #[.int .i64 y, .int .i64 4] w fun e w' => e = .returned (.int .i64 30) ∧ Below w.heap.size w w' := by
 have HB := Z0 (Below.refl w.heap.size w)
 go_enter Tryz.func179, Tryz.ntmps179
 go_wp2_with (first | fail)
 go_ret
 exact ⟨rfl, by repeat (first | exact HB.out | exact Z7 HB.out _ | refine Z8 ?_ (Nat.le_refl _))⟩
set_option maxHeartbeats 8000000 in
set_option maxRecDepth 100000 in
theorem md_5 (y : Int) (w : World) : Calls Tryz.prog 179 #[.int .i64 y, .int .i64 5] w fun e w' => e = .returned (.int .i64 31) ∧ Below w.heap.size w w' := by
 have HB := Z0 (Below.refl w.heap.size w)
 go_enter Tryz.func179, Tryz.ntmps179
 go_wp2_with (first | fail)
 go_ret
 exact ⟨rfl, by repeat (first | exact HB.out | exact Z7 HB.out _ | refine Z8 ?_ (Nat.le_refl _))⟩
set_option maxHeartbeats 8000000 in
set_option maxRecDepth 100000 in
theorem md_6 (y : Int) (w : World) : Calls Tryz.prog 179 #[.int .i64 y, .int .i64 6] w fun e w' => e = .returned (.int .i64 30) ∧ Below w.heap.size w w' := by
 have HB := Z0 (Below.refl w.heap.size w)
 go_enter Tryz.func179, Tryz.ntmps179
 go_wp2_with (first | fail)
 go_ret
 exact ⟨rfl, by repeat (first | exact HB.out | exact Z7 HB.out _ | refine Z8 ?_ (Nat.le_refl _))⟩
set_option maxHeartbeats 8000000 in
set_option maxRecDepth 100000 in
theorem md_7 (y : Int) (w : World) : Calls Tryz.prog 179 #[.int .i64 y, .int .i64 7] w fun e w' => e = .returned (.int .i64 31) ∧ Below w.heap.size w w' := by
 have HB := Z0 (Below.refl w.heap.size w)
 go_enter Tryz.func179, Tryz.ntmps179
 go_wp2_with (first | fail)
 go_ret
 exact ⟨rfl, by repeat (first | exact HB.out | exact Z7 HB.out _ | refine Z8 ?_ (Nat.le_refl _))⟩
set_option maxHeartbeats 8000000 in
set_option maxRecDepth 100000 in
theorem md_8 (y : Int) (w : World) : Calls Tryz.prog 179 #[.int .i64 y, .int .i64 8] w fun e w' => e = .returned (.int .i64 31) ∧ Below w.heap.size w w' := by
 have HB := Z0 (Below.refl w.heap.size w)
 go_enter Tryz.func179, Tryz.ntmps179
 go_wp2_with (first | fail)
 go_ret
 exact ⟨rfl, by repeat (first | exact HB.out | exact Z7 HB.out _ | refine Z8 ?_ (Nat.le_refl _))⟩
set_option maxHeartbeats 8000000 in
set_option maxRecDepth 100000 in
theorem md_9 (y : Int) (w : World) : Calls Tryz.prog 179 #[.int .i64 y, .int .i64 9] w fun e w' => e = .returned (.int .i64 30) ∧ Below w.heap.size w w' := by
 have HB := Z0 (Below.refl w.heap.size w)
 go_enter Tryz.func179, Tryz.ntmps179
 go_wp2_with (first | fail)
 go_ret
 exact ⟨rfl, by repeat (first | exact HB.out | exact Z7 HB.out _ | refine Z8 ?_ (Nat.le_refl _))⟩
set_option maxHeartbeats 8000000 in
set_option maxRecDepth 100000 in
theorem md_10 (y : Int) (w : World) : Calls Tryz.prog 179 #[.int .i64 y, .int .i64 10] w fun e w' => e = .returned (.int .i64 31) ∧ Below w.heap.size w w' := by
 have HB := Z0 (Below.refl w.heap.size w)
 go_enter Tryz.func179, Tryz.ntmps179
 go_wp2_with (first | fail)
 go_ret
 exact ⟨rfl, by repeat (first | exact HB.out | exact Z7 HB.out _ | refine Z8 ?_ (Nat.le_refl _))⟩
set_option maxHeartbeats 8000000 in
set_option maxRecDepth 100000 in
theorem md_11 (y : Int) (w : World) : Calls Tryz.prog 179 #[.int .i64 y, .int .i64 11] w fun e w' => e = .returned (.int .i64 30) ∧ Below w.heap.size w w' := by
 have HB := Z0 (Below.refl w.heap.size w)
 go_enter Tryz.func179, Tryz.ntmps179
 go_wp2_with (first | fail)
 go_ret
 exact ⟨rfl, by repeat (first | exact HB.out | exact Z7 HB.out _ | refine Z8 ?_ (Nat.le_refl _))⟩
set_option maxHeartbeats 8000000 in
set_option maxRecDepth 100000 in
theorem md_12 (y : Int) (w : World) : Calls Tryz.prog 179 #[.int .i64 y, .int .i64 12] w fun e w' => e = .returned (.int .i64 31) ∧ Below w.heap.size w w' := by
 have HB := Z0 (Below.refl w.heap.size w)
 go_enter Tryz.func179, Tryz.ntmps179
 go_wp2_with (first | fail)
 go_ret
 exact ⟨rfl, by repeat (first | exact HB.out | exact Z7 HB.out _ | refine Z8 ?_ (Nat.le_refl _))⟩
theorem val_monthDays.calls (a0 : Int) (a1 : Int) (r : Int) (w : World) (h : val_monthDays.f a0 a1 = some r) :
  Calls Tryz.prog 179 #[.int .i64 a0, .int .i64 a1] w fun e w' => e = .returned (.int .i64 r) ∧ Below w.heap.size w w' := by
 unfold val_monthDays.f at h
 split at h
 ·rename_i hm
  by_cases h2 : a1 = 2
  ·subst h2
   rw [if_pos rfl] at h
   obtain ⟨l, hl, h⟩ := Option.bind_eq_some_iff.mp h
   cases l with
   | true => cases h; exact md_2t a0 w (fun W => (val_isLeap.calls 1 a0 true W hl).mono (fun _ _ hx => ⟨hx.1, hx.2.below⟩))
   | false => cases h; exact md_2f a0 w (fun W => (val_isLeap.calls 1 a0 false W hl).mono (fun _ _ hx => ⟨hx.1, hx.2.below⟩))
  rw [if_neg h2] at h
  by_cases h1 : a1 = 1
  ·subst h1; cases h; exact md_1 a0 w
  by_cases h3 : a1 = 3
  ·subst h3; cases h; exact md_3 a0 w
  by_cases h4 : a1 = 4
  ·subst h4; cases h; exact md_4 a0 w
  by_cases h5 : a1 = 5
  ·subst h5; cases h; exact md_5 a0 w
  by_cases h6 : a1 = 6
  ·subst h6; cases h; exact md_6 a0 w
  by_cases h7 : a1 = 7
  ·subst h7; cases h; exact md_7 a0 w
  by_cases h8 : a1 = 8
  ·subst h8; cases h; exact md_8 a0 w
  by_cases h9 : a1 = 9
  ·subst h9; cases h; exact md_9 a0 w
  by_cases h10 : a1 = 10
  ·subst h10; cases h; exact md_10 a0 w
  by_cases h11 : a1 = 11
  ·subst h11; cases h; exact md_11 a0 w
  have h12 : a1 = 12 := by omega
  subst h12; cases h; exact md_12 a0 w
 ·cases h
end Go.Proofs.YtldpdidlfbphcaaGreatDoor.P
end
section
namespace Go.Proofs.YtldpdidlfbphcaaGreatDoor.P
open Go.RowKit Go.Proofs.YtldpdidlfbphcaaGreatDoorW.PrintWords Go.Proofs.YtldpdidlfbphcaaGreatDoorW.PrintLast Go.Proofs.YtldpdidlfbphcaaGreatDoorW.PrintMore
attribute [local go_sem] max2_int min2_int max_two min_two max_three min_three max_four min_four
mutual
def val_Split.l0 : Nat → Int → Int → Option (Int × Int × Int × Int)
 | 0, _, _ => none
 | k + 1, x0, x6 => (val_yearsDays.f (wrap64 (x6 + 1))).bind fun t562 => (if t562 < x0 then (val_Split.l0 k x0 (wrap64 (x6 + 1))) else ((val_yearsDays.f x6).bind fun t563 => (val_Split.l1 k x6 (wrap64 (x0 - t563)) 1)))
def val_Split.l1 : Nat → Int → Int → Int → Option (Int × Int × Int × Int)
 | 0, _, _, _ => none
 | k + 1, x6, x7, x8 => (val_monthDays.f x6 x8).bind fun t564 => (if x7 > t564 then ((val_monthDays.f x6 x8).bind fun t565 => (val_Split.l1 k x6 (wrap64 (x7 - t565)) (wrap64 (x8 + 1)))) else (some (x6, x8, x7, 0)))
end
def val_Split.f (k : Nat) (a0 : Int) : Option (Int × Int × Int × Int) := (val_isDay.f a0).bind fun t561 => (if t561 = true then (if a0 = 0 then (some (0, 0, 0, 0)) else (val_Split.l0 k a0 (wrap64 ((wrap64 (Int.tdiv a0 366)) + 1)))) else (some (0, 0, 0, 1)))
theorem val_Split.mono_l : ∀ k, (∀ y0 y1, LeO (val_Split.l0 k y0 y1) (val_Split.l0 (k + 1) y0 y1)) ∧ (∀ y0 y1 y2, LeO (val_Split.l1 k y0 y1 y2) (val_Split.l1 (k + 1) y0 y1 y2))
 | 0 => ⟨fun _ _ r h => by simp [val_Split.l0] at h, fun _ _ _ r h => by simp [val_Split.l1] at h⟩
 | k + 1 => by
  obtain ⟨ih0, ih1⟩ := val_Split.mono_l k
  refine ⟨?_, ?_⟩
  ·intro y0 y1
   unfold val_Split.l0
   repeat' first
   | (with_reducible exact ih0 _ _)
   | (with_reducible exact ih1 _ _ _)
   | (with_reducible exact LeO.refl _)
   | (with_reducible exact X2 _)
   | (with_reducible refine X4 ?_ ?_)
   | (with_reducible refine X3 ?_ (fun _ => ?_))
   | exact ih0 _ _
   | exact ih1 _ _ _
   | exact X2 _
   | refine X4 ?_ ?_
   | refine X3 ?_ (fun _ => ?_)
  ·intro y0 y1 y2
   unfold val_Split.l1
   repeat' first
   | (with_reducible exact ih0 _ _)
   | (with_reducible exact ih1 _ _ _)
   | (with_reducible exact LeO.refl _)
   | (with_reducible exact X2 _)
   | (with_reducible refine X4 ?_ ?_)
   | (with_reducible refine X3 ?_ (fun _ => ?_))
   | exact ih0 _ _
   | exact ih1 _ _ _
   | exact X2 _
   | refine X4 ?_ ?_
   | refine X3 ?_ (fun _ => ?_)
theorem val_Split.mono : ∀ a0 k, LeO (val_Split.f k a0) (val_Split.f (k + 1) a0) := by
 intro a0 k
 obtain ⟨ih0, ih1⟩ := val_Split.mono_l k
 unfold val_Split.f
 repeat' first
   | (with_reducible exact ih0 _ _)
   | (with_reducible exact ih1 _ _ _)
   | (with_reducible exact LeO.refl _)
   | (with_reducible exact X2 _)
   | (with_reducible refine X4 ?_ ?_)
   | (with_reducible refine X3 ?_ (fun _ => ?_))
   | exact ih0 _ _
   | exact ih1 _ _ _
   | exact X2 _
   | refine X4 ?_ ?_
   | refine X3 ?_ (fun _ => ?_)
set_option maxHeartbeats 8000000 in
set_option maxRecDepth 100000 in
theorem val_Split.calls (k : Nat) (a0 : Int) (r1 : Int) (r2 : Int) (r3 : Int) (r4 : Int) (w : World) (h : val_Split.f k a0 = some (r1, r2, r3, r4)) :
  Calls Tryz.prog 177 #[.int .i64 a0] w fun e w' => e = .returned (.tuple #[.int .i64 r1, .int .i64 r2, .int .i64 r3, .int .i64 r4]) ∧ Below w.heap.size w w' := by
 have HB := Z0 (Below.refl w.heap.size w)
 have H : ((val_isDay.f a0).bind fun t561 => (if t561 = true then (if a0 = 0 then (some (0, 0, 0, 0)) else (val_Split.l0 k a0 (wrap64 ((wrap64 (Int.tdiv a0 366)) + 1)))) else (some (0, 0, 0, 1)))) = some (r1, r2, r3, r4) := h
 clear h
 replace H := Option.bind_eq_some_iff.mp H
 obtain ⟨t561, A20, H⟩ := H
 replace H : (if t561 = true then (if a0 = 0 then (some (0, 0, 0, 0)) else (val_Split.l0 k a0 (wrap64 ((wrap64 (Int.tdiv a0 366)) + 1)))) else (some (0, 0, 0, 1))) = some (r1, r2, r3, r4) := H
 have A2 := Z0 A20
 clear A20
 by_cases c3 : t561 = true
 ·subst c3
  have H1 : (if a0 = 0 then (some (0, 0, 0, 0)) else (val_Split.l0 k a0 (wrap64 ((wrap64 (Int.tdiv a0 366)) + 1)))) = some (r1, r2, r3, r4) := by rw [if_pos rfl] at H; exact H
  clear H
  have H := H1
  clear H1
  by_cases c4 : a0 = 0
  ·rw [if_pos c4] at H
   have c4b0 : (a0 == 0) = true := beq_iff_eq.mpr c4
   have c4b1 : (a0 != 0) = false := bne_eq_false_iff_eq.mpr c4
   clear c4
   simp only [Option.some.injEq, Prod.mk.injEq] at H
   obtain ⟨rfl, rfl, rfl, rfl⟩ := H
   go_enter Tryz.func177, Tryz.ntmps177
   go_wp2_with (first | ((with_reducible refine X1 (f := 136) rfl ?_); refine goesL_ (some 10) rfl rfl Tryz.func136 (by kernel_rfl) rfl #[.int .i64 a0] rfl (by (try simp only [Y2, Y7, Y8]); first | done | rfl) ?_; (with_reducible refine (val_isDay.calls a0 true _ A2.out).mono ?_); rintro e w' ⟨rfl, ⟨nd, rfl⟩⟩; refine ⟨_, rfl, ?_⟩))
   refine bodyPost_ret (results_list (rs := [.tmp 2, .tmp 3, .tmp 4, .tmp 5]) rfl (by simp) (.tmp (.tmp (.tmp (.tmp .nil))))) rfl ?_
   exact ⟨rfl, by repeat (first | (with_reducible first | exact HB.out | apply Z7 | apply Z4 | apply Z9) | exact HB.out)⟩
  ·rw [if_neg c4] at H
   have c4b0 : (a0 == 0) = false := beq_eq_false_iff_ne.mpr c4
   have c4b1 : (a0 != 0) = true := bne_iff_ne.mpr c4
   have H' := Z0 H
   clear H
   go_enter Tryz.func177, Tryz.ntmps177
   go_wp2_with (first | ((with_reducible refine X1 (f := 136) rfl ?_); refine goesL_ (some 10) rfl rfl Tryz.func136 (by kernel_rfl) rfl #[.int .i64 a0] rfl (by (try simp only [Y2, Y7, Y8]); first | done | rfl) ?_; (with_reducible refine (val_isDay.calls a0 true _ A2.out).mono ?_); rintro e w' ⟨rfl, ⟨nd, rfl⟩⟩; refine ⟨_, rfl, ?_⟩))
   go_loopg [6] k (fun kq v6 w' => ∃ (x6_1 : Int), v6 = .int .i64 x6_1 ∧ Aside0 (val_Split.l0 kq a0 x6_1 = some (r1, r2, r3, r4)) ∧ Aside0 (kq ≤ k) ∧ Aside0 (Below w.heap.size w w'))
   case atStart => exact ⟨(wrap64 ((wrap64 (Int.tdiv a0 366)) + 1)), (by first | rfl | (simp; done) | (simp [*]; done)), H', ⟨Nat.le_refl _⟩, ⟨by repeat (first | (with_reducible first | exact HB.out | apply Z7 | apply Z4 | apply Z9) | exact HB.out)⟩⟩
   case round =>
    clear H'
    (try clear c1);(try clear p2);(try clear c3);(try clear c4);(try clear c4b0);(try clear c4b1)
    obtain ⟨x6_1, rfl, HA, HK1, HB⟩ := hrel
    cases gk with
    | zero => exact absurd HA.out (by simp [val_Split.l0])
    | succ k1 =>
     have H := HA.out
     clear HA
     simp only [val_Split.l0] at H
     replace H := Option.bind_eq_some_iff.mp H
     obtain ⟨t562, A50, H⟩ := H
     replace H : (if t562 < a0 then (val_Split.l0 k1 a0 (wrap64 (x6_1 + 1))) else ((val_yearsDays.f x6_1).bind fun t563 => (val_Split.l1 k1 x6_1 (wrap64 (a0 - t563)) 1))) = some (r1, r2, r3, r4) := H
     have A5 := Z0 A50
     clear A50
     by_cases c6 : t562 < a0
     ·rw [if_pos c6] at H
      have c6b0 : decide (t562 < a0) = true := decide_eq_true c6
      clear c6
      have H' := Z0 H
      clear H
      go_wp2_with (first | ((with_reducible refine X1 (f := 180) rfl ?_); refine goesL_ (some 19) rfl rfl Tryz.func180 (by kernel_rfl) rfl #[.int .i64 (wrap64 (x6_1 + 1))] rfl (by (try simp only [Y2, Y7, Y8]); first | done | rfl) ?_; (with_reducible refine (val_yearsDays.calls (wrap64 (x6_1 + 1)) t562 _ A5.out).mono ?_); rintro e w' ⟨rfl, ⟨nd, rfl⟩⟩; refine ⟨_, rfl, ?_⟩))
      go_roundg k1
      case measure => have := HK1.out; omega
      case rel => exact ⟨(wrap64 (x6_1 + 1)), (by first | rfl | (simp; done) | (simp [*]; done)), H', ⟨by have := HK1.out; omega⟩, ⟨by repeat (first | (with_reducible first | exact HB.out | apply Z7 | apply Z4 | apply Z9) | exact HB.out)⟩⟩
     ·rw [if_neg c6] at H
      have c6b0 : decide (t562 < a0) = false := decide_eq_false c6
      clear c6
      replace H := Option.bind_eq_some_iff.mp H
      obtain ⟨t563, A70, H⟩ := H
      replace H : (val_Split.l1 k1 x6_1 (wrap64 (a0 - t563)) 1) = some (r1, r2, r3, r4) := H
      have A7 := Z0 A70
      clear A70
      have H' := Z0 H
      clear H
      go_wp2_with (first | ((with_reducible refine X1 (f := 180) rfl ?_); refine goesL_ (some 19) rfl rfl Tryz.func180 (by kernel_rfl) rfl #[.int .i64 (wrap64 (x6_1 + 1))] rfl (by (try simp only [Y2, Y7, Y8]); first | done | rfl) ?_; (with_reducible refine (val_yearsDays.calls (wrap64 (x6_1 + 1)) t562 _ A5.out).mono ?_); rintro e w' ⟨rfl, ⟨nd, rfl⟩⟩; refine ⟨_, rfl, ?_⟩) | ((with_reducible refine X1 (f := 180) rfl ?_); refine goesL_ (some 26) rfl rfl Tryz.func180 (by kernel_rfl) rfl #[.int .i64 x6_1] rfl (by (try simp only [Y2, Y7, Y8]); first | done | rfl) ?_; (with_reducible refine (val_yearsDays.calls x6_1 t563 _ A7.out).mono ?_); rintro e w' ⟨rfl, ⟨nd, rfl⟩⟩; refine ⟨_, rfl, ?_⟩))
      go_loopg [7, 8] k1 (fun kq v7 v8 w' => ∃ (x7_2 : Int) (x8_2 : Int), v7 = .int .i64 x7_2 ∧ v8 = .int .i64 x8_2 ∧ Aside0 (val_Split.l1 kq x6_1 x7_2 x8_2 = some (r1, r2, r3, r4)) ∧ Aside0 (kq ≤ k1) ∧ Aside0 (Below w.heap.size w w'))
      case atStart => exact ⟨(wrap64 (a0 - t563)), (1), (by first | rfl | (simp; done) | (simp [*]; done)), (by first | rfl | (simp; done) | (simp [*]; done)), H', ⟨Nat.le_refl _⟩, ⟨by repeat (first | (with_reducible first | exact HB.out | apply Z7 | apply Z4 | apply Z9) | exact HB.out)⟩⟩
      case round =>
       clear H'
       (try clear c1);(try clear p2);(try clear c3);(try clear c4);(try clear c4b0);(try clear c4b1);(try clear c6);(try clear c6b0);(try clear p6);(try clear p2)
       obtain ⟨x7_2, x8_2, rfl, rfl, HA, HK2, HB⟩ := hrel
       cases gk with
       | zero => exact absurd HA.out (by simp [val_Split.l1])
       | succ k2 =>
        have H := HA.out
        clear HA
        simp only [val_Split.l1] at H
        replace H := Option.bind_eq_some_iff.mp H
        obtain ⟨t564, A80, H⟩ := H
        replace H : (if x7_2 > t564 then ((val_monthDays.f x6_1 x8_2).bind fun t565 => (val_Split.l1 k2 x6_1 (wrap64 (x7_2 - t565)) (wrap64 (x8_2 + 1)))) else (some (x6_1, x8_2, x7_2, 0))) = some (r1, r2, r3, r4) := H
        have A8 := Z0 A80
        clear A80
        by_cases c9 : x7_2 > t564
        ·rw [if_pos c9] at H
         have c9b0 : decide (t564 < x7_2) = true := decide_eq_true c9
         clear c9
         replace H := Option.bind_eq_some_iff.mp H
         obtain ⟨t565, A100, H⟩ := H
         replace H : (val_Split.l1 k2 x6_1 (wrap64 (x7_2 - t565)) (wrap64 (x8_2 + 1))) = some (r1, r2, r3, r4) := H
         have A10 := Z0 A100
         clear A100
         have H' := Z0 H
         clear H
         go_wp2_with (first | ((with_reducible refine X1 (f := 179) rfl ?_); refine goesL_ (some 31) rfl rfl Tryz.func179 (by kernel_rfl) rfl #[.int .i64 x6_1, .int .i64 x8_2] rfl (by (try simp only [Y2, Y7, Y8]); first | done | rfl) ?_; (with_reducible refine (val_monthDays.calls x6_1 x8_2 t564 _ A8.out).mono ?_); rintro e w11 ⟨rfl, hb⟩; refine ⟨_, rfl, ?_⟩; have n0_ := Z0 (Y0 HB.out hb); clear HB; have HB := n0_; clear n0_; (try clear hb); (try clear hb2); (try clear hk); (try clear hi)) | ((with_reducible refine X1 (f := 179) rfl ?_); refine goesL_ (some 36) rfl rfl Tryz.func179 (by kernel_rfl) rfl #[.int .i64 x6_1, .int .i64 x8_2] rfl (by (try simp only [Y2, Y7, Y8]); first | done | rfl) ?_; (with_reducible refine (val_monthDays.calls x6_1 x8_2 t565 _ A10.out).mono ?_); rintro e w12 ⟨rfl, hb⟩; refine ⟨_, rfl, ?_⟩; have n0_ := Z0 (Y0 HB.out hb); clear HB; have HB := n0_; clear n0_; (try clear hb); (try clear hb2); (try clear hk); (try clear hi)))
         go_roundg k2
         case measure => have := HK1.out; have := HK2.out; omega
         case rel => exact ⟨(wrap64 (x7_2 - t565)), (wrap64 (x8_2 + 1)), (by first | rfl | (simp; done) | (simp [*]; done)), (by first | rfl | (simp; done) | (simp [*]; done)), H', ⟨by have := HK1.out; have := HK2.out; omega⟩, ⟨by repeat (first | (with_reducible first | exact HB.out | apply Z7 | apply Z4 | apply Z9) | exact HB.out)⟩⟩
        ·rw [if_neg c9] at H
         have c9b0 : decide (t564 < x7_2) = false := decide_eq_false c9
         clear c9
         simp only [Option.some.injEq, Prod.mk.injEq] at H
         obtain ⟨rfl, rfl, rfl, rfl⟩ := H
         go_wp2_with (first | ((with_reducible refine X1 (f := 179) rfl ?_); refine goesL_ (some 31) rfl rfl Tryz.func179 (by kernel_rfl) rfl #[.int .i64 x6_1, .int .i64 x8_2] rfl (by (try simp only [Y2, Y7, Y8]); first | done | rfl) ?_; (with_reducible refine (val_monthDays.calls x6_1 x8_2 t564 _ A8.out).mono ?_); rintro e w13 ⟨rfl, hb⟩; refine ⟨_, rfl, ?_⟩; have n0_ := Z0 (Y0 HB.out hb); clear HB; have HB := n0_; clear n0_; (try clear hb); (try clear hb2); (try clear hk); (try clear hi)))
         refine bodyPost_ret (results_list (rs := [.tmp 2, .tmp 3, .tmp 4, .tmp 5]) rfl (by simp) (.tmp (.tmp (.tmp (.tmp .nil))))) rfl ?_
         exact ⟨rfl, by repeat (first | (with_reducible first | exact HB.out | apply Z7 | apply Z4 | apply Z9) | exact HB.out)⟩
 ·replace c3 := Bool.eq_false_iff.mpr c3
  subst c3
  have H1 : (some (0, 0, 0, 1)) = some (r1, r2, r3, r4) := by rw [if_neg (show ¬ (false = true) by decide)] at H; exact H
  clear H
  have H := H1
  clear H1
  simp only [Option.some.injEq, Prod.mk.injEq] at H
  obtain ⟨rfl, rfl, rfl, rfl⟩ := H
  go_enter Tryz.func177, Tryz.ntmps177
  go_wp2_with (first | ((with_reducible refine X1 (f := 136) rfl ?_); refine goesL_ (some 10) rfl rfl Tryz.func136 (by kernel_rfl) rfl #[.int .i64 a0] rfl (by (try simp only [Y2, Y7, Y8]); first | done | rfl) ?_; (with_reducible refine (val_isDay.calls a0 false _ A2.out).mono ?_); rintro e w' ⟨rfl, ⟨nd, rfl⟩⟩; refine ⟨_, rfl, ?_⟩))
  refine bodyPost_ret (results_list (rs := [.tmp 2, .tmp 3, .tmp 4, .tmp 5]) rfl (by simp) (.tmp (.tmp (.tmp (.tmp .nil))))) rfl ?_
  exact ⟨rfl, by repeat (first | (with_reducible first | exact HB.out | apply Z7 | apply Z4 | apply Z9) | exact HB.out)⟩
def val_padded.f (a0 : Int) (a1 : Int) : Option (ByteArray) := (val_decimal.f a0).bind fun t566 => ((strings_Repeat.f (⟨#[48]⟩ : ByteArray) (wrap64 (a1 - (t566.size : Int)))).bind fun t567 => (if t567.size + t566.size ≤ 9223372036854775807 then (some (t567 ++ t566)) else (none)))
set_option maxHeartbeats 8000000 in
set_option maxRecDepth 100000 in
theorem val_padded.calls (a0 : Int) (a1 : Int) (r : ByteArray) (w : World) (h : val_padded.f a0 a1 = some r) :
  Calls Tryz.prog 178 #[.int .i64 a0, .int .i64 a1] w fun e w' => e = .returned (.string r) ∧ Below w.heap.size w w' := by
 have HB := Z0 (Below.refl w.heap.size w)
 have H : ((val_decimal.f a0).bind fun t566 => ((strings_Repeat.f (⟨#[48]⟩ : ByteArray) (wrap64 (a1 - (t566.size : Int)))).bind fun t567 => (if t567.size + t566.size ≤ 9223372036854775807 then (some (t567 ++ t566)) else (none)))) = some r := h
 clear h
 replace H := Option.bind_eq_some_iff.mp H
 obtain ⟨t566, A30, H⟩ := H
 replace H : ((strings_Repeat.f (⟨#[48]⟩ : ByteArray) (wrap64 (a1 - (t566.size : Int)))).bind fun t567 => (if t567.size + t566.size ≤ 9223372036854775807 then (some (t567 ++ t566)) else (none))) = some r := H
 have A3 := Z0 A30
 clear A30
 replace H := Option.bind_eq_some_iff.mp H
 obtain ⟨t567, A40, H⟩ := H
 replace H : (if t567.size + t566.size ≤ 9223372036854775807 then (some (t567 ++ t566)) else (none)) = some r := H
 have A4 := Z0 A40
 clear A40
 by_cases c5 : t567.size + t566.size ≤ 9223372036854775807
 ·rw [if_pos c5] at H
  have c5b0 := eq_true c5
  have c5b1 : decide (t567.size + t566.size ≤ 9223372036854775807) = true := decide_eq_true c5
  try have c5b2 : (9223372036854775807 < t567.size + t566.size) = False := eq_false (Nat.not_lt.2 c5)
  obtain rfl := Option.some.inj H
  go_enter Tryz.func178, Tryz.ntmps178
  go_wp2_with (first | ((with_reducible refine X1 (f := 98) rfl ?_); refine goesL_ (some 7) rfl rfl Tryz.func98 (by kernel_rfl) rfl #[.int .i64 a0] rfl (by (try simp only [Y2, Y7, Y8]); first | done | rfl) ?_; (with_reducible refine (val_decimal.calls a0 t566 _ A3.out).mono ?_); rintro e w6 ⟨rfl, hb⟩; refine ⟨_, rfl, ?_⟩; have n0_ := Z0 (Y0 HB.out hb); clear HB; have HB := n0_; clear n0_; (try clear hb); (try clear hb2); (try clear hk); (try clear hi)) | ((with_reducible refine X1 (f := 99) rfl ?_); refine goesL_ (some 12) rfl rfl Tryz.func99 (by kernel_rfl) rfl #[.string (⟨#[48]⟩ : ByteArray), .int .i64 (wrap64 (a1 - (t566.size : Int)))] rfl (by (try simp only [Y2, Y7, Y8]); first | done | rfl) ?_; (with_reducible refine (strings_Repeat.calls (⟨#[48]⟩ : ByteArray) (wrap64 (a1 - (t566.size : Int))) t567 _ A4.out).mono ?_); rintro e w7 ⟨rfl, hb⟩; refine ⟨_, rfl, ?_⟩; have n0_ := Z0 (Y0 HB.out hb); clear HB; have HB := n0_; clear n0_; (try clear hb); (try clear hb2); (try clear hk); (try clear hi)))
  go_ret
  exact ⟨rfl, by repeat (first | (with_reducible first | exact HB.out | apply Z7 | apply Z4 | apply Z9) | exact HB.out)⟩
 ·rw [if_neg c5] at H
  exact absurd H (by simp)
end Go.Proofs.YtldpdidlfbphcaaGreatDoor.P
end
