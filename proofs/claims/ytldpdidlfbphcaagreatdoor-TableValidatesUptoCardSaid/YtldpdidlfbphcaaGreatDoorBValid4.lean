/- Part 4 of this proof: what the last part leans on. -/
import Derived.Test.YtldpdidlfbphcaaGreatDoorBValid3
import Derived.Laws.EntriesVeiled
set_option linter.unusedVariables false
set_option linter.unusedSimpArgs false
section
namespace Go.Proofs.YtldpdidlfbphcaaGreatDoor.P
open Go.RowKit Go.Proofs.YtldpdidlfbphcaaGreatDoorW.PrintWords Go.Proofs.YtldpdidlfbphcaaGreatDoorW.PrintLast Go.Proofs.YtldpdidlfbphcaaGreatDoorW.PrintMore
attribute [local go_sem] max2_int min2_int max_two min_two max_three min_three max_four min_four
def table_length.l0 : Nat → Int → List (S23) → Int → Int → Option (Int)
 | 0, _, _, _, _ => none
 | k + 1, x3, x9, x10, x11 => if x11 < x10 then (if 0 ≤ x11 then (if x11 < (x9.length : Int) then (table_length.l0 k (wrap64 (x3 + ((rd_T23 x9 x11).f2))) x9 x10 (wrap64 (x11 + 1))) else (none)) else (none)) else (some x3)
def table_length.f (k : Nat) (l0 : List (S23)) : Option (Int) := (table_nullBytes.f k l0).bind fun t359 => (table_length.l0 k (wrap64 (1 + t359)) l0 (l0.length : Int) 0)
theorem table_length.mono_l : ∀ k, (∀ y0 y1 y2 y3, LeO (table_length.l0 k y0 y1 y2 y3) (table_length.l0 (k + 1) y0 y1 y2 y3))
 | 0 => fun _ _ _ _ r h => by simp [table_length.l0] at h
 | k + 1 => by
  have ih0 := table_length.mono_l k
  ·intro y0 y1 y2 y3
   unfold table_length.l0
   repeat' first
   | (with_reducible exact ih0 _ _ _ _)
   | (with_reducible exact table_nullBytes.mono _ _)
   | (with_reducible exact LeO.refl _)
   | (with_reducible exact Y5 _)
   | (with_reducible refine Y7 ?_ ?_)
   | (with_reducible refine Y6 ?_ (fun _ => ?_))
   | exact ih0 _ _ _ _
   | exact table_nullBytes.mono _ _
   | exact Y5 _
   | refine Y7 ?_ ?_
   | refine Y6 ?_ (fun _ => ?_)
theorem table_length.mono : ∀ a0 k, LeO (table_length.f k a0) (table_length.f (k + 1) a0) := by
 intro a0 k
 have ih0 := table_length.mono_l k
 unfold table_length.f
 repeat' first
   | (with_reducible exact ih0 _ _ _ _)
   | (with_reducible exact table_nullBytes.mono _ _)
   | (with_reducible exact LeO.refl _)
   | (with_reducible exact Y5 _)
   | (with_reducible refine Y7 ?_ ?_)
   | (with_reducible refine Y6 ?_ (fun _ => ?_))
   | exact ih0 _ _ _ _
   | exact table_nullBytes.mono _ _
   | exact Y5 _
   | refine Y7 ?_ ?_
   | refine Y6 ?_ (fun _ => ?_)
set_option maxHeartbeats 8000000 in
set_option maxRecDepth 100000 in
theorem table_length.calls (k : Nat) (A0 : Option Addr) (c0 : Nat) (l0 : List (S23)) (r : Int) (w : World) (hr0 : Kd.C k23 w A0 l0.length l0) (hc0 : l0.length ≤ c0) (h : table_length.f k l0 = some r) :
  Calls Tryz.prog 69 #[.slice A0 l0.length c0] w fun e w' => e = .returned (.int .i64 r) ∧ Below w.heap.size w w' := by
 have hu23 := Tryz.underlying23
 have HR0 := Z0 hr0
 have HC0 := Z0 hc0
 clear hr0 hc0
 have HB := Z0 (Below.refl w.heap.size w)
 have H : ((table_nullBytes.f k l0).bind fun t359 => (table_length.l0 k (wrap64 (1 + t359)) l0 (l0.length : Int) 0)) = some r := h
 clear h
 replace H := Option.bind_eq_some_iff.mp H
 obtain ⟨t359, A20, H⟩ := H
 replace H : (table_length.l0 k (wrap64 (1 + t359)) l0 (l0.length : Int) 0) = some r := H
 have A2 := Z0 A20
 clear A20
 have H' := Z0 H
 clear H
 go_enter Tryz.func69, Tryz.ntmps69
 go_wp2_with (first | ((with_reducible refine Y3 (f := 71) rfl ?_); refine goesL_ (some 7) rfl rfl Tryz.func71 (by kernel_rfl) rfl #[.slice A0 l0.length c0] rfl V1 ?_; (with_reducible refine (table_nullBytes.calls k _ _ l0 t359 _ ?side1 ?side2 A2.out).mono ?_); (case side1 => repeat (first | exact HR0.out | (with_reducible refine Kd.C_alloc ?_ _) | (with_reducible refine Kd.C_drewN ?_ _) | (with_reducible refine Kd.C_drew ?_))); (case side2 => exact HC0.out); rintro e w3 ⟨rfl, hb⟩; refine ⟨_, rfl, ?_⟩; have n0_ := Z0 (Z6 HB.out hb); clear HB; have HB := n0_; clear n0_; (try clear hb); (try clear hb2); (try clear hk); (try clear hi)))
 go_loopg [3, 11] k (fun kq v3 v11 w' => ∃ (x3_1 : Int) (x11_1 : Int), v3 = .int .i64 x3_1 ∧ v11 = .int .i64 x11_1 ∧ Aside0 (table_length.l0 kq x3_1 l0 (l0.length : Int) x11_1 = some r) ∧ Aside0 (kq ≤ k) ∧ Aside0 (Below w.heap.size w w'))
 case atStart => exact ⟨(wrap64 (1 + t359)), (0), V2, V2, H', ⟨Nat.le_refl _⟩, ⟨V0⟩⟩
 case round =>
  clear H'
  (try clear p2)
  obtain ⟨x3_1, x11_1, rfl, rfl, HA, HK1, HB⟩ := hrel
  cases gk with
  | zero => exact absurd HA.out (by simp [table_length.l0])
  | succ k1 =>
   have H := HA.out
   clear HA
   simp only [table_length.l0] at H
   by_cases c4 : x11_1 < (l0.length : Int)
   ·rw [if_pos c4] at H
    have c4b0 : decide (x11_1 < (l0.length : Int)) = true := decide_eq_true c4
    clear c4
    by_cases c5 : 0 ≤ x11_1
    ·rw [if_pos c5] at H
     have c5b0 : decide (0 ≤ x11_1) = true := decide_eq_true c5
     clear c5
     by_cases c6 : x11_1 < (l0.length : Int)
     ·rw [if_pos c6] at H
      have c6b0 : decide (x11_1 < (l0.length : Int)) = true := decide_eq_true c6
      clear c6
      have H' := Z0 H
      clear H
      have p360 : 0 ≤ (x11_1 : Int) := of_decide_eq_true V3
      have q360 : x11_1 < (l0.length : Int) := of_decide_eq_true V3
      obtain ⟨ad360, e360, hx360_0, hx360_1, hx360_2, hx360_3⟩ := at_T23 HR0.out x11_1 p360 q360
      cases e360
      replace hx360_0 := (HB.out.cell (World.block_lt_of_cell? w _ hx360_0)).trans hx360_0
      replace hx360_1 := (HB.out.cell (World.block_lt_of_cell? w _ hx360_1)).trans hx360_1
      replace hx360_2 := (HB.out.cell (World.block_lt_of_cell? w _ hx360_2)).trans hx360_2
      replace hx360_3 := (HB.out.cell (World.block_lt_of_cell? w _ hx360_3)).trans hx360_3
      replace p360 := eq_true p360
      replace q360 := eq_true q360
      go_wp2_with (first | ((with_reducible refine Y4 (N := 5) rfl ?_); refine Y2 ?hg (N := 5) ?hd (cs := #[.string (⟨#[]⟩ : ByteArray), .int .i64 0, .int .i64 0, .bool false]) (t := 23) ?hr ?_; (case hd => rfl); (case hg => rfl); (case hr => go_simp; try rfl); intro gb361 hg w7 hbox hb; have n0_ := Z0 (Z6 HB.out hb); have n1_ := Z0 (hbox); have n3_ := Z0 ((by rw [hg]; exact (Y0 HB.out) : w.heap.size ≤ gb361)); clear HB; have HB := n0_; have BK361 := n1_; have GE361 := n3_; clear n0_ n1_ n3_; clear hb hbox hg; have hcz8_0 : w7.cell? ⟨gb361, 0, none⟩ = some (.string (⟨#[]⟩ : ByteArray)) := (Z2 BK361.out 0).trans rfl; have hcz8_1 : w7.cell? ⟨gb361, 1, none⟩ = some (.int .i64 0) := (Z2 BK361.out 1).trans rfl; have hcz8_2 : w7.cell? ⟨gb361, 2, none⟩ = some (.int .i64 0) := (Z2 BK361.out 2).trans rfl; have hcz8_3 : w7.cell? ⟨gb361, 3, none⟩ = some (.bool false) := (Z2 BK361.out 3).trans rfl; have hfz8_0 := Z1 BK361.out 0; have hfz8_1 := Z1 BK361.out 1; have hfz8_2 := Z1 BK361.out 2; have hfz8_3 := Z1 BK361.out 3))
      go_roundg k1
      case measure => have := HK1.out; omega
      case rel => exact ⟨(wrap64 (x3_1 + ((rd_T23 l0 x11_1).f2))), (wrap64 (x11_1 + 1)), V2, V2, H', ⟨by have := HK1.out; omega⟩, ⟨V0⟩⟩
     ·rw [if_neg c6] at H
      exact absurd H (by simp)
    ·rw [if_neg c5] at H
     exact absurd H (by simp)
   ·rw [if_neg c4] at H
    have c4b0 : decide (x11_1 < (l0.length : Int)) = false := decide_eq_false c4
    clear c4
    obtain rfl := Option.some.inj H
    go_wp2
    go_ret
    exact ⟨rfl, V0⟩
def fS (x : S23) : Bool := fieldS x.f0 x.f1 x.f2
theorem all_take_succ {α : Type} (p : α → Bool) (d : α) : ∀ (l : List α) (n : Nat), n < l.length → (l.take (n + 1)).all p = ((l.take n).all p && p (l.getD n d))
 | [], n, h => absurd h (Nat.not_lt_zero _)
 | x :: r, 0, _ => by simp
 | x :: r, n + 1, h => by
  have ih := all_take_succ p d r n (Nat.lt_of_succ_lt_succ h)
  rw [List.take_succ_cons, List.take_succ_cons, List.all_cons, List.all_cons, ih, List.getD_cons_succ, Bool.and_assoc]
theorem all_bad {α : Type} (p : α → Bool) (d : α) (l : List α) (n : Nat) (h : n < l.length) (hp : p (l.getD n d) = false) : l.all p = false := by
 rw [List.all_eq_false]
 refine ⟨l.getD n d, ?_, by rw [hp]; decide⟩
 rw [List.getD_eq_getElem?_getD, List.getElem?_eq_getElem h, Option.getD_some]
 exact List.getElem_mem h
set_option maxHeartbeats 8000000 in
set_option maxRecDepth 100000 in
theorem vf1_calls (s : ByteArray) (kd wd : Int) (nl b : Bool) (w : World) (hb1 : fieldS s kd wd = b) :
  Calls Tryz.prog 76 #[.agg #[.string s, .int .i64 kd, .int .i64 wd, .bool nl]] w fun e w' => e = .returned (.bool (!b)) ∧ Below w.heap.size w w' := by
 have CF := Z0 (fun W => table_isField.calls s kd wd nl b W (by rw [isField_is, hb1]))
 have hu23 := Tryz.underlying23
 clear hb1
 have HB := Z0 (Below.refl w.heap.size w)
 cases b
 all_goals
  go_enter Tryz.func76, Tryz.ntmps76
  go_wp2_with (first | ((with_reducible refine Y4 (N := 1) rfl ?_); refine Y2 ?hg (N := 1) ?hd (cs := #[.string s, .int .i64 kd, .int .i64 wd, .bool nl]) (t := 23) ?hr ?_; (case hd => rfl); (case hg => rfl); (case hr => go_simp; try rfl); intro g1 hg w1 hbox hb; have BK := Z0 hbox; have GE := Z0 ((by rw [hg]; exact (Y0 HB.out)) : w.heap.size ≤ g1); have n0_ := Z0 (Z6 HB.out hb); clear HB; have HB := n0_; clear n0_; (try clear hb); clear hbox hg; have k0 : w1.cell? ⟨g1, 0, none⟩ = some (.string s) := (Z2 BK.out 0).trans rfl; have k1 : w1.cell? ⟨g1, 1, none⟩ = some (.int .i64 kd) := (Z2 BK.out 1).trans rfl; have k2 : w1.cell? ⟨g1, 2, none⟩ = some (.int .i64 wd) := (Z2 BK.out 2).trans rfl; have k3 : w1.cell? ⟨g1, 3, none⟩ = some (.bool nl) := (Z2 BK.out 3).trans rfl; have kz0 := Z1 BK.out 0; have kz1 := Z1 BK.out 1; have kz2 := Z1 BK.out 2; have kz3 := Z1 BK.out 3) | (go_at_call 47; (with_reducible refine (CF.out _).mono ?_); rintro e w2 ⟨rfl, hb⟩; have n0_ := Z0 (Z6 HB.out hb); clear HB; have HB := n0_; clear n0_; (try clear hb)))
  go_ret
  exact ⟨rfl, HB.out⟩
set_option maxHeartbeats 8000000 in
set_option maxRecDepth 100000 in
theorem vf_idx (A0 : Option Addr) (c0 : Nat) (l0 : List (S23)) (w : World) (hr0 : Kd.C k23 w A0 l0.length l0) (hc0 : l0.length ≤ c0) (hL : l0.length ≤ 1000000000) :
  Calls Tryz.prog 66 #[.slice A0 l0.length c0, .func (.func 76) #[] #[]] w fun e w' => ∃ n : Int, e = .returned (.int .i64 n) ∧ decide (n ≥ 0) = !l0.all fS ∧ Below w.heap.size w w' := by
 have hu23 := Tryz.underlying23
 have HR0 := Z0 hr0
 have HC0 := Z0 hc0
 have HL := Z0 hL
 clear hr0 hc0 hL
 have HB := Z0 (Below.refl w.heap.size w)
 go_enter Tryz.func66, Tryz.ntmps66
 go_wp2
 go_loopg [8] (l0.length + 1) (fun kq v8 w' => ∃ n : Nat, v8 = .int .i64 (n : Int) ∧ Aside0 (n ≤ l0.length) ∧ Aside0 ((l0.take n).all fS = true) ∧ Aside0 (kq + n = l0.length + 1) ∧ Aside0 (Below w.heap.size w w'))
 case atStart => exact ⟨0, rfl, ⟨Nat.zero_le _⟩, ⟨by simp⟩, ⟨by omega⟩, HB⟩
 case round =>
  obtain ⟨n, rfl, HN, HA, HK, HB⟩ := hrel
  by_cases c3 : (n : Int) < (l0.length : Int)
  ·have c3b := decide_eq_true c3
   have p2 : (0 : Int) ≤ n := Int.natCast_nonneg _
   obtain ⟨ad, ea, hx0, hx1, hx2, hx3⟩ := at_T23 HR0.out (n : Int) p2 c3
   cases ea
   replace hx0 := (HB.out.cell (World.block_lt_of_cell? w _ hx0)).trans hx0
   replace hx1 := (HB.out.cell (World.block_lt_of_cell? w _ hx1)).trans hx1
   replace hx2 := (HB.out.cell (World.block_lt_of_cell? w _ hx2)).trans hx2
   replace hx3 := (HB.out.cell (World.block_lt_of_cell? w _ hx3)).trans hx3
   obtain ⟨x, hxx⟩ : ∃ x, rd_T23 l0 (n : Int) = x := ⟨_, rfl⟩
   rw [hxx] at hx0 hx1 hx2 hx3
   rw [Int.toNat_natCast] at hx0 hx1 hx2 hx3
   have hget : l0.getD n z23 = x := hxx
   have hall := all_take_succ fS z23 l0 n (Int.ofNat_lt.1 c3)
   rw [hget, HA.out, Bool.true_and] at hall
   have HX := Z0 hget
   have HAL := Z0 hall
   have hw : wrap64 ((n : Int) + 1) = ((n + 1 : Nat) : Int) := by
    have := HL.out
    have e : ((n : Int) + 1) = ((n + 1 : Nat) : Int) := by omega
    rw [e]; exact (show wrap64 ((n + 1 : Nat) : Int) = _ by unfold wrap64; omega)
   have HN1 := Z0 (Int.ofNat_lt.1 c3)
   clear hget hall hxx
   obtain ⟨b, hb1⟩ : ∃ b, fS x = b := ⟨_, rfl⟩
   have CV := Z0 (fun W => vf1_calls x.f0 x.f1 x.f2 x.f3 b W hb1)
   have HB1 := Z0 hb1
   clear hb1
   cases b
   ·go_wp2_with (first | (go_at_call 76; (with_reducible refine (CV.out _).mono ?_); rintro e w7 ⟨rfl, hb⟩; have n0_ := Z0 (Z6 HB.out hb); clear HB; have HB := n0_; clear n0_; (try clear hb)))
    go_ret
    refine ⟨_, rfl, ?_, HB.out⟩
    rw [all_bad fS z23 l0 n HN1.out (by rw [HX.out]; exact HB1.out)]
    exact decide_eq_true (Int.natCast_nonneg _)
   ·go_wp2_with (first | (go_at_call 76; (with_reducible refine (CV.out _).mono ?_); rintro e w7 ⟨rfl, hb⟩; have n0_ := Z0 (Z6 HB.out hb); clear HB; have HB := n0_; clear n0_; (try clear hb)))
    go_roundg (gk - 1)
    case measure => have := HK.out; have := HN1.out; omega
    case rel => exact ⟨n + 1, by rw [hw], ⟨HN1.out⟩, ⟨by rw [HAL.out]; exact HB1.out⟩, ⟨by have := HK.out; have := HN1.out; omega⟩, HB⟩
  ·have c3b := decide_eq_false c3
   have hn : n = l0.length := by have := HN.out; omega
   have hA := HA.out
   rw [hn, List.take_length] at hA
   have HA' := Z0 hA
   clear hA
   go_wp2
   go_ret
   exact ⟨_, rfl, by rw [HA'.out]; rfl, HB.out⟩
set_option maxHeartbeats 8000000 in
set_option maxRecDepth 100000 in
theorem vf_con (A0 : Option Addr) (c0 : Nat) (l0 : List (S23)) (b : Bool) (w : World) (hr0 : Kd.C k23 w A0 l0.length l0) (hc0 : l0.length ≤ c0) (hL : l0.length ≤ 1000000000) (hb1 : l0.all fS = b) :
  Calls Tryz.prog 75 #[.slice A0 l0.length c0, .func (.func 76) #[] #[]] w fun e w' => e = .returned (.bool (!b)) ∧ Below w.heap.size w w' := by
 have CI := Z0 (vf_idx A0 c0 l0 w hr0 hc0 hL)
 rw [hb1] at CI
 clear hr0 hc0 hL hb1
 have HB := Z0 (Below.refl w.heap.size w)
 go_enter Tryz.func75, Tryz.ntmps75
 go_wp2_with (first | (go_at_call 66; (with_reducible refine (CI.out).mono ?_); rintro e w1 ⟨n, rfl, hn, hb⟩; have HN := Z0 hn; clear hn; have n0_ := Z0 (Z6 HB.out hb); clear HB; have HB := n0_; clear n0_; (try clear hb)))
 go_ret
 exact ⟨by rw [HN.out]; rfl, HB.out⟩
end Go.Proofs.YtldpdidlfbphcaaGreatDoor.P
end
section
namespace Go.Proofs.YtldpdidlfbphcaaGreatDoor.P
open Go.RowKit Go.Proofs.YtldpdidlfbphcaaGreatDoorW.PrintWords Go.Proofs.YtldpdidlfbphcaaGreatDoorW.PrintLast Go.Proofs.YtldpdidlfbphcaaGreatDoorW.PrintMore
open Go.ChangeMaps Go.ChangeShapes Go.WideShapes Go.MapKept
attribute [local go_sem] max2_int min2_int max_two min_two max_three min_three max_four min_four
theorem drop_getD {α : Type} (d : α) : ∀ (l : List α) (n : Nat), n < l.length → l.drop n = l.getD n d :: l.drop (n + 1)
 | [], n, h => absurd h (Nat.not_lt_zero _)
 | x :: r, 0, _ => rfl
 | x :: r, n + 1, h => by
  rw [List.drop_succ_cons, List.drop_succ_cons, List.getD_cons_succ]
  exact drop_getD d r n (Nat.lt_of_succ_lt_succ h)
theorem take_getD {α : Type} (d : α) : ∀ (l : List α) (n : Nat), n < l.length → l.take (n + 1) = l.take n ++ [l.getD n d]
 | [], n, h => absurd h (Nat.not_lt_zero _)
 | x :: r, 0, _ => rfl
 | x :: r, n + 1, h => by
  rw [List.take_succ_cons, List.take_succ_cons, List.getD_cons_succ, take_getD d r n (Nat.lt_of_succ_lt_succ h)]
  rfl
def nullsN : List S23 → Nat
 | [] => 0
 | x :: r => (if x.f3 = true then 1 else 0) + nullsN r
def wideN : List S23 → Int
 | [] => 0
 | x :: r => x.f2 + wideN r
def lenS (l : List S23) : Int := 1 + ((nullsN l + 7) / 8 : Nat) + wideN l
theorem nullsN_le : ∀ l, nullsN l ≤ l.length
 | [] => Nat.le_refl _
 | x :: r => by
  have := nullsN_le r
  unfold nullsN
  rw [List.length_cons]
  split <;> omega
theorem fS_width {x : S23} (h : fS x = true) : 0 ≤ x.f2 ∧ x.f2 ≤ 254 := by
 unfold fS fieldS kindLo kindHi at h
 simp only [Bool.and_eq_true, decide_eq_true_eq] at h
 obtain ⟨_, _, h1, h2⟩ := h
 constructor
 ·refine Int.le_trans ?_ h1
  repeat' split
  all_goals decide
 ·refine Int.le_trans h2 ?_
  repeat' split
  all_goals decide
theorem nulls_go (l0 : List S23) (hL : l0.length ≤ 1000000000) : ∀ (m n k acc : Nat), n + m = l0.length → m < k → acc ≤ n → table_nullBytes.l0 k (acc : Int) l0 (l0.length : Int) (n : Int) = some (((acc + nullsN (l0.drop n) + 7) / 8 : Nat) : Int)
 | 0, n, 0, acc, h, hk, ha => absurd hk (by omega)
 | m + 1, n, 0, acc, h, hk, ha => absurd hk (by omega)
 | 0, n, k + 1, acc, h, hk, ha => by
  unfold table_nullBytes.l0
  rw [if_neg (by omega), List.drop_eq_nil_of_le (by omega)]
  have e : wrap64 ((acc : Int) + 7) = ((acc + 7 : Nat) : Int) := by unfold wrap64; omega
  have e2 : Int.tdiv ((acc + 7 : Nat) : Int) 8 = (((acc + 7) / 8 : Nat) : Int) := rfl
  rw [e, e2]
  refine congrArg some ?_
  unfold nullsN wrap64
  omega
 | m + 1, n, k + 1, acc, h, hk, ha => by
  unfold table_nullBytes.l0
  rw [if_pos (by omega), if_pos (by omega), if_pos (by omega), drop_getD z23 l0 n (by omega)]
  have e : rd_T23 l0 (n : Int) = l0.getD n z23 := rfl
  have e1 : wrap64 ((n : Int) + 1) = ((n + 1 : Nat) : Int) := by unfold wrap64; omega
  have e2 : wrap64 ((acc : Int) + 1) = ((acc + 1 : Nat) : Int) := by unfold wrap64; omega
  rw [e, e1, e2]
  show _ = some (((acc + ((if (l0.getD n z23).f3 = true then 1 else 0) + nullsN (l0.drop (n + 1))) + 7) / 8 : Nat) : Int)
  split
  ·rw [nulls_go l0 hL m (n + 1) k (acc + 1) (by omega) (by omega) (by omega), Nat.add_assoc acc 1]
  ·rw [nulls_go l0 hL m (n + 1) k acc (by omega) (by omega) (by omega), Nat.zero_add]
theorem nulls_is (l0 : List S23) (hL : l0.length ≤ 1000000000) (k : Nat) (hk : l0.length < k) : table_nullBytes.f k l0 = some (((nullsN l0 + 7) / 8 : Nat) : Int) := by
 have := nulls_go l0 hL l0.length 0 k 0 (by omega) hk (Nat.le_refl _)
 rw [List.drop_zero, Nat.zero_add] at this
 exact this
theorem wide_go (l0 : List S23) (hL : l0.length ≤ 1000000000) (hf : l0.all fS = true) : ∀ (m n k : Nat) (acc : Int), n + m = l0.length → m < k → 0 ≤ acc → acc ≤ 1000000000 + 254 * n → table_length.l0 k acc l0 (l0.length : Int) (n : Int) = some (acc + wideN (l0.drop n))
 | 0, n, 0, acc, h, hk, ha, hb => absurd hk (by omega)
 | m + 1, n, 0, acc, h, hk, ha, hb => absurd hk (by omega)
 | 0, n, k + 1, acc, h, hk, ha, hb => by
  unfold table_length.l0
  rw [if_neg (by omega), List.drop_eq_nil_of_le (by omega)]
  refine congrArg some ?_
  unfold wideN
  omega
 | m + 1, n, k + 1, acc, h, hk, ha, hb => by
  unfold table_length.l0
  rw [if_pos (by omega), if_pos (by omega), if_pos (by omega), drop_getD z23 l0 n (by omega)]
  have e : rd_T23 l0 (n : Int) = l0.getD n z23 := rfl
  have hx : fS (l0.getD n z23) = true := by
   rw [List.getD_eq_getElem?_getD, List.getElem?_eq_getElem (show n < l0.length by omega), Option.getD_some]
   exact List.all_eq_true.1 hf _ (List.getElem_mem _)
  have hw := fS_width hx
  rw [e]
  generalize l0.getD n z23 = x at hw ⊢
  have e1 : wrap64 ((n : Int) + 1) = ((n + 1 : Nat) : Int) := by unfold wrap64; omega
  have e2 : wrap64 (acc + x.f2) = acc + x.f2 := by unfold wrap64; omega
  rw [e1, e2, wide_go l0 hL hf m (n + 1) k (acc + x.f2) (by omega) (by omega) (by omega) (by omega)]
  refine congrArg some ?_
  show _ = acc + (x.f2 + wideN (l0.drop (n + 1)))
  omega
theorem length_is (l0 : List S23) (hL : l0.length ≤ 1000000000) (hf : l0.all fS = true) (k : Nat) (hk : l0.length < k) : table_length.f k l0 = some (lenS l0) := by
 unfold table_length.f lenS
 have hn := nullsN_le l0
 rw [nulls_is l0 hL k hk, Option.bind_some]
 have e : wrap64 (1 + (((nullsN l0 + 7) / 8 : Nat) : Int)) = 1 + (((nullsN l0 + 7) / 8 : Nat) : Int) := by unfold wrap64; omega
 rw [e]
 have := wide_go l0 hL hf l0.length 0 k (1 + (((nullsN l0 + 7) / 8 : Nat) : Int)) (by omega) hk (by omega) (by omega)
 rw [List.drop_zero] at this
 exact this
def hasName (l : List S23) (s : ByteArray) : Bool := l.any (fun x => s == x.f0)
def dupA : List S23 → List S23 → Bool
 | _, [] => false
 | acc, x :: r => hasName acc x.f0 || dupA (acc ++ [x]) r
def vfS (l : List S23) : Int := if l.length = 0 then 1 else if l.all fS = false then 1 else if dupA [] l = true then 5 else if l.length > 16 then 3 else if lenS l > 2000 then 3 else 0
def seenE : List S23 → Nat → List MapEntry
 | [], _ => []
 | x :: r, i => ⟨.string x.f0, .bool true, i⟩ :: seenE r (i + 1)
theorem seenE_snoc (x : S23) : ∀ (l : List S23) (i : Nat), seenE (l ++ [x]) i = seenE l i ++ [⟨.string x.f0, .bool true, i + l.length⟩]
 | [], i => rfl
 | y :: r, i => by
  show _ :: seenE (r ++ [x]) (i + 1) = _
  rw [seenE_snoc x r (i + 1), List.length_cons, Nat.add_assoc, Nat.add_comm 1]
  rfl
theorem find_seen (s : ByteArray) : ∀ (l : List S23) (i j : Nat), Instr.findNow .string (.string s) (seenE l i) j = if hasName l s = true then some (some (j + (l.findIdx (fun x => s == x.f0)), .bool true)) else some none
 | [], i, j => rfl
 | x :: r, i, j => by
  have ih := find_seen s r (i + 1) (j + 1)
  show (match Instr.sameNow .string (.string s) (.string x.f0) with | some true => some (some (j, Value.bool true)) | some false => Instr.findNow .string (.string s) (seenE r (i + 1)) (j + 1) | none => none) = _
  have e : Instr.sameNow .string (.string s) (.string x.f0) = some (s == x.f0) := rfl
  rw [e, ih]
  unfold hasName
  rw [List.any_cons, List.findIdx_cons]
  cases s == x.f0
  ·simp only [Bool.false_or, cond_false, Nat.add_assoc, Nat.add_comm 1]
  ·rfl
theorem run_seen (W : World) (r : Nat) (l : List S23) (c : Nat) (s : ByteArray) (b : Bool) (hb : W.heap[r]? = some (.map (seenE l 0).toArray c)) (hs : hasName l s = b) :
  (Instr.lookup 88 (.map (some r)) (.string s) false).run Tryz.prog W = .ok (.bool b) W := by
 have ht := Tryz.underlying88
 have hk := Tryz.underlying9
 have hkey : IsKey .string (.string s) := trivial
 have hf := find_seen s l 0 0
 have hz : ∀ W, (zeroValue 4).run Tryz.prog W = .ok (.bool false) W := (Go.zero_of_info (n := 1) (by kernel_rfl)).1
 cases b
 ·rw [if_neg (by rw [hs]; decide)] at hf
  have hf' : Instr.findNow .string (.string s) (seenE l 0).toArray.toList 0 = some none := hf
  simp [Instr.lookup, run_underlying ht, MapKept.run_getObj_map hb, run_checkKey hk hkey, run_findKey hk hf', Result.andThen, hz]
 ·rw [if_pos hs] at hf
  have hf' : Instr.findNow .string (.string s) (seenE l 0).toArray.toList 0 = some (some (_, .bool true)) := hf
  simp [Instr.lookup, run_underlying ht, MapKept.run_getObj_map hb, run_checkKey hk hkey, run_findKey hk hf', Result.andThen]
theorem seen_ins {w W : World} {r : Nat} {l : List S23} {c : Nat} (x : S23) (hb : W.heap[r]? = some (.map (seenE l 0).toArray c)) (hc : l.length = c) (hs : hasName l x.f0 = false) (hB : Below w.heap.size w W) (hr : w.heap.size ≤ r) :
  ∃ W', (Instr.mapUpdate 88 (.map (some r)) (.string x.f0) (.bool true)).run Tryz.prog W = .ok () W' ∧ W'.heap[r]? = some (.map (seenE (l ++ [x]) 0).toArray (c + 1)) ∧ Below w.heap.size w W' := by
 have ht := Tryz.underlying88
 have hk := Tryz.underlying9
 have hkey : IsKey .string (.string x.f0) := trivial
 have hf := find_seen x.f0 l 0 0
 rw [if_neg (by rw [hs]; decide)] at hf
 have hf' : Instr.findNow .string (.string x.f0) (seenE l 0).toArray.toList 0 = some none := hf
 have he : (seenE (l ++ [x]) 0).toArray = (seenE l 0).toArray.push ⟨.string x.f0, .bool true, c⟩ := by
  rw [seenE_snoc, Nat.zero_add, hc, List.push_toArray]
 refine ⟨setBlock W r (.map ((seenE l 0).toArray.push ⟨.string x.f0, .bool true, c⟩) (c + 1)), ?_, by rw [he]; exact heap_setBlock_same hb _, hB.trans ⟨rfl, rfl, rfl, ?_, fun i hi => heap_setBlock_other hb _ (by omega)⟩⟩
 ·simp [Instr.mapUpdate, run_underlying ht, MapKept.run_getObj_map hb, run_checkKey hk hkey, run_findKey hk hf', MapKept.run_setObj_map _ hb, Result.andThen, setBlock]
 ·simp [setBlock]
theorem obj_far {w : World} {g : Nat} {o : Obj} (h : w.heap[g]? = some o) {p : Addr} (hp : g ≠ p.block) (u : Value) : (w.setCell p u).heap[g]? = some o := (Below.heap_setCell w p u g hp).trans h
set_option maxHeartbeats 8000000 in
set_option maxRecDepth 100000 in
theorem vf_walk (A0 : Option Addr) (c0 : Nat) (l0 : List (S23)) (w : World) (hr0 : Kd.C k23 w A0 l0.length l0) (hc0 : l0.length ≤ c0) (hL : l0.length ≤ 1000000000) :
  Calls Tryz.prog 36 #[.slice A0 l0.length c0] w fun e w' => e = .returned (.int .i64 (vfS l0)) ∧ Below w.heap.size w w' := by
 have hu23 := Tryz.underlying23
 have hmm := @run_makeMap Tryz.prog 88
 obtain ⟨b, hb1⟩ : ∃ b, l0.all fS = b := ⟨_, rfl⟩
 have CC := Z0 (vf_con A0 c0 l0 b w hr0 hc0 hL hb1)
 have HR0 := Z0 hr0
 have HC0 := Z0 hc0
 have HL := Z0 hL
 have HF := Z0 hb1
 clear hr0 hc0 hL hb1
 have HB := Z0 (Below.refl w.heap.size w)
 by_cases h0 : l0.length = 0
 ·have c0b : ((l0.length : Int) == 0) = true := by rw [h0]; rfl
  have HV : Aside0 (vfS l0 = 1) := ⟨by unfold vfS; rw [if_pos h0]⟩
  clear h0
  go_enter Tryz.func36, Tryz.ntmps36
  go_wp2
  go_ret
  exact ⟨by rw [HV.out]; rfl, HB.out⟩
 have c0b : ((l0.length : Int) == 0) = false := beq_eq_false_iff_ne.2 (by omega)
 have H0 := Z0 h0
 clear h0
 cases b
 ·have HV : Aside0 (vfS l0 = 1) := ⟨by unfold vfS; rw [if_neg H0.out, if_pos HF.out]⟩
  go_enter Tryz.func36, Tryz.ntmps36
  go_wp2_with (first | (go_at_call 75; (with_reducible refine (CC.out).mono ?_); rintro e w1 ⟨rfl, hb⟩; have n0_ := Z0 (Z6 HB.out hb); clear HB; have HB := n0_; clear n0_; (try clear hb)))
  go_ret
  exact ⟨by rw [HV.out]; rfl, HB.out⟩
 go_enter Tryz.func36, Tryz.ntmps36
 go_wp2_with (first | (go_at_call 75; (with_reducible refine (CC.out).mono ?_); rintro e w1 ⟨rfl, hb⟩; have n0_ := Z0 (Z6 HB.out hb); clear HB; have HB := n0_; clear n0_; (try clear hb)))
 have GM : Aside0 (w.heap.size ≤ w1.heap.size) := ⟨HB.out.size⟩
 go_loopg [16] (l0.length + 1) (fun kq v16 w' => ∃ n : Nat, v16 = .int .i64 (n : Int) ∧ Aside0 (n ≤ l0.length) ∧ Aside0 (dupA [] l0 = dupA (l0.take n) (l0.drop n)) ∧ Aside0 (kq + n = l0.length + 1) ∧ Aside0 (w'.heap[w1.heap.size]? = some (.map (seenE (l0.take n) 0).toArray n)) ∧ Aside0 (Below w.heap.size w w'))
 case atStart => exact ⟨0, rfl, ⟨Nat.zero_le _⟩, ⟨rfl⟩, ⟨by omega⟩, ⟨blk_new w1 _⟩, ⟨below_alloc HB.out _⟩⟩
 case round =>
  clear HB
  obtain ⟨n, rfl, HN, HA, HK, HM, HB⟩ := hrel
  by_cases c3 : (n : Int) < (l0.length : Int)
  ·have c3b := decide_eq_true c3
   have p2 : (0 : Int) ≤ n := Int.natCast_nonneg _
   obtain ⟨ad, ea, hx0, hx1, hx2, hx3⟩ := at_T23 HR0.out (n : Int) p2 c3
   cases ea
   replace hx0 := (HB.out.cell (World.block_lt_of_cell? w _ hx0)).trans hx0
   replace hx1 := (HB.out.cell (World.block_lt_of_cell? w _ hx1)).trans hx1
   replace hx2 := (HB.out.cell (World.block_lt_of_cell? w _ hx2)).trans hx2
   replace hx3 := (HB.out.cell (World.block_lt_of_cell? w _ hx3)).trans hx3
   obtain ⟨x, hxx⟩ : ∃ x, rd_T23 l0 (n : Int) = x := ⟨_, rfl⟩
   rw [hxx] at hx0 hx1 hx2 hx3
   rw [Int.toNat_natCast] at hx0 hx1 hx2 hx3
   have hget : l0.getD n z23 = x := hxx
   have hdrop := drop_getD z23 l0 n (Int.ofNat_lt.1 c3)
   have htake := take_getD z23 l0 n (Int.ofNat_lt.1 c3)
   rw [hget] at hdrop htake
   have hdup := HA.out
   rw [hdrop] at hdup
   have hw : wrap64 ((n : Int) + 1) = ((n + 1 : Nat) : Int) := by
    have := HL.out
    have e : ((n : Int) + 1) = ((n + 1 : Nat) : Int) := by omega
    rw [e]; exact (show wrap64 ((n + 1 : Nat) : Int) = _ by unfold wrap64; omega)
   have HN1 := Z0 (Int.ofNat_lt.1 c3)
   have HLN : Aside0 ((l0.take n).length = n) := ⟨by rw [List.length_take]; exact Nat.min_eq_left HN.out⟩
   obtain ⟨d, hd⟩ : ∃ d, hasName (l0.take n) x.f0 = d := ⟨_, rfl⟩
   have HD := Z0 hd
   have HT := Z0 htake
   have HA2 : Aside0 (dupA [] l0 = (d || dupA (l0.take (n + 1)) (l0.drop (n + 1)))) := ⟨by rw [hdup, htake, ← hd]; rfl⟩
   clear hget hxx hd htake hdup hdrop HA
   cases d
   ·go_wp2_with (first | ((with_reducible refine Y4 (N := 5) rfl ?_); refine Y2 ?hg (N := 5) ?hd (cs := #[.string (⟨#[]⟩ : ByteArray), .int .i64 0, .int .i64 0, .bool false]) (t := 23) ?hr ?_; (case hd => rfl); (case hg => rfl); (case hr => go_simp; try rfl); intro g5 hg w7 hbox hb; have NE := Z0 ((by rw [hg]; exact Nat.ne_of_lt (blk_lt HM.out)) : w1.heap.size ≠ g5); have HM7 := Z0 (Z7 HM.out hb); clear HM; have BK := Z0 hbox; have GE := Z0 ((by rw [hg]; exact (Y0 HB.out)) : w.heap.size ≤ g5); have n0_ := Z0 (Z6 HB.out hb); clear HB; have HB := n0_; clear n0_; (try clear hb); clear hbox hg; have k0 : w7.cell? ⟨g5, 0, none⟩ = some (.string (⟨#[]⟩ : ByteArray)) := (Z2 BK.out 0).trans rfl; have k1 : w7.cell? ⟨g5, 1, none⟩ = some (.int .i64 0) := (Z2 BK.out 1).trans rfl; have k2 : w7.cell? ⟨g5, 2, none⟩ = some (.int .i64 0) := (Z2 BK.out 2).trans rfl; have k3 : w7.cell? ⟨g5, 3, none⟩ = some (.bool false) := (Z2 BK.out 3).trans rfl; have kz0 := Z1 BK.out 0; have kz1 := Z1 BK.out 1; have kz2 := Z1 BK.out 2; have kz3 := Z1 BK.out 3; have m4 := obj_far (obj_far (obj_far (obj_far HM7.out NE.out (p := ⟨g5, 0, none⟩) (.string x.f0)) NE.out (p := ⟨g5, 1, none⟩) (.int .i64 x.f1)) NE.out (p := ⟨g5, 2, none⟩) (.int .i64 x.f2)) NE.out (p := ⟨g5, 3, none⟩) (.bool x.f3); have hlk := run_seen _ w1.heap.size (l0.take n) n x.f0 false m4 HD.out; obtain ⟨W5, hup, hm5, hb5⟩ := seen_ins x m4 HLN.out HD.out (below_set (below_set (below_set (below_set HB.out GE.out) GE.out) GE.out) GE.out) GM.out; have HM5 := Z0 hm5; have HB5 := Z0 hb5; clear hm5 hb5; clear m4))
    go_roundg (gk - 1)
    case measure => have := HK.out; have := HN1.out; omega
    case rel => exact ⟨n + 1, by rw [hw], ⟨HN1.out⟩, ⟨by rw [HA2.out]; rfl⟩, ⟨by have := HK.out; have := HN1.out; omega⟩, ⟨by rw [HT.out]; exact HM5.out⟩, HB5⟩
   ·have HV : Aside0 (vfS l0 = 5) := ⟨by unfold vfS; rw [if_neg H0.out, if_neg (by rw [HF.out]; decide), if_pos (by rw [HA2.out]; rfl)]⟩
    go_wp2_with (first | ((with_reducible refine Y4 (N := 5) rfl ?_); refine Y2 ?hg (N := 5) ?hd (cs := #[.string (⟨#[]⟩ : ByteArray), .int .i64 0, .int .i64 0, .bool false]) (t := 23) ?hr ?_; (case hd => rfl); (case hg => rfl); (case hr => go_simp; try rfl); intro g5 hg w7 hbox hb; have NE := Z0 ((by rw [hg]; exact Nat.ne_of_lt (blk_lt HM.out)) : w1.heap.size ≠ g5); have HM7 := Z0 (Z7 HM.out hb); clear HM; have BK := Z0 hbox; have GE := Z0 ((by rw [hg]; exact (Y0 HB.out)) : w.heap.size ≤ g5); have n0_ := Z0 (Z6 HB.out hb); clear HB; have HB := n0_; clear n0_; (try clear hb); clear hbox hg; have k0 : w7.cell? ⟨g5, 0, none⟩ = some (.string (⟨#[]⟩ : ByteArray)) := (Z2 BK.out 0).trans rfl; have k1 : w7.cell? ⟨g5, 1, none⟩ = some (.int .i64 0) := (Z2 BK.out 1).trans rfl; have k2 : w7.cell? ⟨g5, 2, none⟩ = some (.int .i64 0) := (Z2 BK.out 2).trans rfl; have k3 : w7.cell? ⟨g5, 3, none⟩ = some (.bool false) := (Z2 BK.out 3).trans rfl; have kz0 := Z1 BK.out 0; have kz1 := Z1 BK.out 1; have kz2 := Z1 BK.out 2; have kz3 := Z1 BK.out 3; have m4 := obj_far (obj_far (obj_far (obj_far HM7.out NE.out (p := ⟨g5, 0, none⟩) (.string x.f0)) NE.out (p := ⟨g5, 1, none⟩) (.int .i64 x.f1)) NE.out (p := ⟨g5, 2, none⟩) (.int .i64 x.f2)) NE.out (p := ⟨g5, 3, none⟩) (.bool x.f3); have hlk := run_seen _ w1.heap.size (l0.take n) n x.f0 true m4 HD.out; clear m4))
    go_ret
    exact ⟨by rw [HV.out]; rfl, below_set (below_set (below_set (below_set HB.out GE.out) GE.out) GE.out) GE.out⟩
  ·have c3b := decide_eq_false c3
   have hn : n = l0.length := by have := HN.out; omega
   have hA := HA.out
   rw [hn, List.take_length, List.drop_length] at hA
   have HA' : Aside0 (dupA [] l0 = false) := ⟨hA⟩
   clear hA hn
   by_cases h16 : l0.length > 16
   ·have c16 : decide (16 < (l0.length : Int)) = true := decide_eq_true (by omega)
    have HV : Aside0 (vfS l0 = 3) := ⟨by unfold vfS; rw [if_neg H0.out, if_neg (by rw [HF.out]; decide), if_neg (by rw [HA'.out]; decide), if_pos h16]⟩
    clear h16
    go_wp2
    go_ret
    exact ⟨by rw [HV.out]; rfl, HB.out⟩
   ·have c16 : decide (16 < (l0.length : Int)) = false := decide_eq_false (by omega)
    obtain ⟨m, hm⟩ : ∃ m, lenS l0 = m := ⟨_, rfl⟩
    have CL := Z0 (fun W a b => table_length.calls (l0.length + 1) A0 c0 l0 m W a b (by rw [length_is l0 HL.out HF.out _ (Nat.lt_succ_self _), hm]))
    have H16 := Z0 h16
    clear h16
    by_cases h2 : m > 2000
    ·have c2 : decide (2000 < m) = true := decide_eq_true h2
     have HV : Aside0 (vfS l0 = 3) := ⟨by unfold vfS; rw [if_neg H0.out, if_neg (by rw [HF.out]; decide), if_neg (by rw [HA'.out]; decide), if_neg H16.out, hm, if_pos h2]⟩
     clear h2 hm
     go_wp2_with (first | (go_at_call 69; (with_reducible refine (CL.out _ (Kd.C_below HR0.out HB.out) HC0.out).mono ?_); rintro e w8 ⟨rfl, hb⟩; have n0_ := Z0 (Z6 HB.out hb); clear HB; have HB := n0_; clear n0_; (try clear hb)))
     go_ret
     exact ⟨by rw [HV.out]; rfl, HB.out⟩
    ·have c2 : decide (2000 < m) = false := decide_eq_false h2
     have HV : Aside0 (vfS l0 = 0) := ⟨by unfold vfS; rw [if_neg H0.out, if_neg (by rw [HF.out]; decide), if_neg (by rw [HA'.out]; decide), if_neg H16.out, hm, if_neg h2]⟩
     clear h2 hm
     go_wp2_with (first | (go_at_call 69; (with_reducible refine (CL.out _ (Kd.C_below HR0.out HB.out) HC0.out).mono ?_); rintro e w8 ⟨rfl, hb⟩; have n0_ := Z0 (Z6 HB.out hb); clear HB; have HB := n0_; clear n0_; (try clear hb)))
     go_ret
     exact ⟨by rw [HV.out]; rfl, HB.out⟩
def table_ValidateFields.f (l0 : List (S23)) : Option (Int) := if l0.length ≤ 1000000000 then some (vfS l0) else none
theorem table_ValidateFields.calls (A0 : Option Addr) (c0 : Nat) (l0 : List (S23)) (r : Int) (w : World) (hr0 : Kd.C k23 w A0 l0.length l0) (hc0 : l0.length ≤ c0) (h : table_ValidateFields.f l0 = some r) :
  Calls Tryz.prog 36 #[.slice A0 l0.length c0] w fun e w' => e = .returned (.int .i64 r) ∧ Below w.heap.size w w' := by
 unfold table_ValidateFields.f at h
 split at h
 ·rename_i hL
  cases h
  exact vf_walk A0 c0 l0 w hr0 hc0 hL
 ·cases h
end Go.Proofs.YtldpdidlfbphcaaGreatDoor.P
end
section
namespace Go.Proofs.YtldpdidlfbphcaaGreatDoor.P
open Go.RowKit Go.Proofs.YtldpdidlfbphcaaGreatDoorW.PrintWords Go.Proofs.YtldpdidlfbphcaaGreatDoorW.PrintLast Go.Proofs.YtldpdidlfbphcaaGreatDoorW.PrintMore
attribute [local go_sem] max2_int min2_int max_two min_two max_three min_three max_four min_four
def cabinetryref03_nulls.l0 : Nat → List (S23) → Int → Int → Option (Int)
 | 0, _, _, _ => none
 | k + 1, x0, x3, x4 => if x4 < (x0.length : Int) then (if 0 ≤ x4 then (if (rd_T23 x0 x4).f3 = true then (cabinetryref03_nulls.l0 k x0 (wrap64 (x3 + 1)) (wrap64 (x4 + 1))) else (cabinetryref03_nulls.l0 k x0 x3 (wrap64 (x4 + 1)))) else (none)) else (some (wrap64 (Int.tdiv (wrap64 (x3 + 7)) 8)))
def cabinetryref03_nulls.f (k : Nat) (l0 : List (S23)) : Option (Int) := cabinetryref03_nulls.l0 k l0 0 0
theorem cabinetryref03_nulls.mono_l : ∀ k, (∀ y0 y1 y2, LeO (cabinetryref03_nulls.l0 k y0 y1 y2) (cabinetryref03_nulls.l0 (k + 1) y0 y1 y2))
 | 0 => fun _ _ _ r h => by simp [cabinetryref03_nulls.l0] at h
 | k + 1 => by
  have ih0 := cabinetryref03_nulls.mono_l k
  ·intro y0 y1 y2
   unfold cabinetryref03_nulls.l0
   repeat' first
   | (with_reducible exact ih0 _ _ _)
   | (with_reducible exact LeO.refl _)
   | (with_reducible exact Y5 _)
   | (with_reducible refine Y7 ?_ ?_)
   | (with_reducible refine Y6 ?_ (fun _ => ?_))
   | exact ih0 _ _ _
   | exact Y5 _
   | refine Y7 ?_ ?_
   | refine Y6 ?_ (fun _ => ?_)
theorem cabinetryref03_nulls.mono : ∀ a0 k, LeO (cabinetryref03_nulls.f k a0) (cabinetryref03_nulls.f (k + 1) a0) := by
 intro a0 k
 have ih0 := cabinetryref03_nulls.mono_l k
 unfold cabinetryref03_nulls.f
 repeat' first
   | (with_reducible exact ih0 _ _ _)
   | (with_reducible exact LeO.refl _)
   | (with_reducible exact Y5 _)
   | (with_reducible refine Y7 ?_ ?_)
   | (with_reducible refine Y6 ?_ (fun _ => ?_))
   | exact ih0 _ _ _
   | exact Y5 _
   | refine Y7 ?_ ?_
   | refine Y6 ?_ (fun _ => ?_)
set_option maxHeartbeats 8000000 in
set_option maxRecDepth 100000 in
theorem cabinetryref03_nulls.calls (k : Nat) (A0 : Option Addr) (c0 : Nat) (l0 : List (S23)) (r : Int) (w : World) (hr0 : Kd.C k23 w A0 l0.length l0) (hc0 : l0.length ≤ c0) (h : cabinetryref03_nulls.f k l0 = some r) :
  Calls Tryz.prog 72 #[.slice A0 l0.length c0] w fun e w' => e = .returned (.int .i64 r) ∧ Drawn0 w w' := by
 have HR0 := Z0 hr0
 have HC0 := Z0 hc0
 clear hr0 hc0
 have H : (cabinetryref03_nulls.l0 k l0 0 0) = some r := h
 clear h
 have H' := Z0 H
 clear H
 go_enter Tryz.func72, Tryz.ntmps72
 go_wp2
 go_loopg [3, 4] k (fun kq v3 v4 w' => ∃ (x3_1 : Int) (x4_1 : Int), v3 = .int .i64 x3_1 ∧ v4 = .int .i64 x4_1 ∧ Aside0 (cabinetryref03_nulls.l0 kq l0 x3_1 x4_1 = some r) ∧ Aside0 (kq ≤ k) ∧ Drawn0 w w')
 case atStart => exact ⟨(0), (0), V2, V2, H', ⟨Nat.le_refl _⟩, by repeat (first | exact Y9 _ | apply Y8)⟩
 case round =>
  clear H'
  obtain ⟨x3_1, x4_1, rfl, rfl, HA, HK1, ⟨m1, rfl⟩⟩ := hrel
  cases gk with
  | zero => exact absurd HA.out (by simp [cabinetryref03_nulls.l0])
  | succ k1 =>
   have H := HA.out
   clear HA
   simp only [cabinetryref03_nulls.l0] at H
   by_cases c2 : x4_1 < (l0.length : Int)
   ·rw [if_pos c2] at H
    have c2b0 : decide (x4_1 < (l0.length : Int)) = true := decide_eq_true c2
    clear c2
    by_cases c3 : 0 ≤ x4_1
    ·rw [if_pos c3] at H
     have c3b0 : decide (0 ≤ x4_1) = true := decide_eq_true c3
     clear c3
     obtain ⟨bq4, hbq4⟩ : ∃ b_ : Bool, b_ = ((rd_T23 l0 x4_1).f3) := ⟨_, rfl⟩
     replace H : (if bq4 = true then (cabinetryref03_nulls.l0 k1 l0 (wrap64 (x3_1 + 1)) (wrap64 (x4_1 + 1))) else (cabinetryref03_nulls.l0 k1 l0 x3_1 (wrap64 (x4_1 + 1)))) = some r := by rw [← hbq4] at H; exact H
     have Nbq4 := Z0 hbq4
     clear hbq4
     by_cases c5 : bq4 = true
     ·subst c5
      have H1 : (cabinetryref03_nulls.l0 k1 l0 (wrap64 (x3_1 + 1)) (wrap64 (x4_1 + 1))) = some r := by rw [if_pos rfl] at H; exact H
      clear H
      have H := H1
      clear H1
      have H' := Z0 H
      clear H
      have p211 : 0 ≤ (x4_1 : Int) := of_decide_eq_true V3
      have q211 : x4_1 < (l0.length : Int) := of_decide_eq_true V3
      obtain ⟨ad211, e211, hx211_0, hx211_1, hx211_2, hx211_3⟩ := at_T23 HR0.out x4_1 p211 q211
      (try rw [← Nbq4.out] at hx211_3)
      cases e211
      replace p211 := eq_true p211
      replace q211 := eq_true q211
      go_wp2
      go_roundg k1
      case measure => have := HK1.out; omega
      case rel => exact ⟨(wrap64 (x3_1 + 1)), (wrap64 (x4_1 + 1)), V2, V2, H', ⟨by have := HK1.out; omega⟩, by repeat (first | exact Y9 _ | apply Y8)⟩
     ·replace c5 := Bool.eq_false_iff.mpr c5
      subst c5
      have H1 : (cabinetryref03_nulls.l0 k1 l0 x3_1 (wrap64 (x4_1 + 1))) = some r := by rw [if_neg (show ¬ (false = true) by decide)] at H; exact H
      clear H
      have H := H1
      clear H1
      have H' := Z0 H
      clear H
      have p211 : 0 ≤ (x4_1 : Int) := of_decide_eq_true V3
      have q211 : x4_1 < (l0.length : Int) := of_decide_eq_true V3
      obtain ⟨ad211, e211, hx211_0, hx211_1, hx211_2, hx211_3⟩ := at_T23 HR0.out x4_1 p211 q211
      (try rw [← Nbq4.out] at hx211_3)
      cases e211
      replace p211 := eq_true p211
      replace q211 := eq_true q211
      go_wp2
      go_roundg k1
      case measure => have := HK1.out; omega
      case rel => exact ⟨(x3_1), (wrap64 (x4_1 + 1)), V2, V2, H', ⟨by have := HK1.out; omega⟩, by repeat (first | exact Y9 _ | apply Y8)⟩
    ·rw [if_neg c3] at H
     exact absurd H (by simp)
   ·rw [if_neg c2] at H
    have c2b0 : decide (x4_1 < (l0.length : Int)) = false := decide_eq_false c2
    clear c2
    obtain rfl := Option.some.inj H
    go_wp2
    go_ret
    exact ⟨V2, by repeat (first | exact Y9 _ | apply Y8)⟩
def cabinetryref03_Wide.l0 : Nat → List (S23) → Int → Int → Option (Int)
 | 0, _, _, _ => none
 | k + 1, x0, x3, x4 => if x4 < (x0.length : Int) then (if 0 ≤ x4 then (cabinetryref03_Wide.l0 k x0 (wrap64 (x3 + ((rd_T23 x0 x4).f2))) (wrap64 (x4 + 1))) else (none)) else (some x3)
def cabinetryref03_Wide.f (k : Nat) (l0 : List (S23)) : Option (Int) := (cabinetryref03_nulls.f k l0).bind fun t212 => (cabinetryref03_Wide.l0 k l0 (wrap64 (1 + t212)) 0)
theorem cabinetryref03_Wide.mono_l : ∀ k, (∀ y0 y1 y2, LeO (cabinetryref03_Wide.l0 k y0 y1 y2) (cabinetryref03_Wide.l0 (k + 1) y0 y1 y2))
 | 0 => fun _ _ _ r h => by simp [cabinetryref03_Wide.l0] at h
 | k + 1 => by
  have ih0 := cabinetryref03_Wide.mono_l k
  ·intro y0 y1 y2
   unfold cabinetryref03_Wide.l0
   repeat' first
   | (with_reducible exact ih0 _ _ _)
   | (with_reducible exact cabinetryref03_nulls.mono _ _)
   | (with_reducible exact LeO.refl _)
   | (with_reducible exact Y5 _)
   | (with_reducible refine Y7 ?_ ?_)
   | (with_reducible refine Y6 ?_ (fun _ => ?_))
   | exact ih0 _ _ _
   | exact cabinetryref03_nulls.mono _ _
   | exact Y5 _
   | refine Y7 ?_ ?_
   | refine Y6 ?_ (fun _ => ?_)
theorem cabinetryref03_Wide.mono : ∀ a0 k, LeO (cabinetryref03_Wide.f k a0) (cabinetryref03_Wide.f (k + 1) a0) := by
 intro a0 k
 have ih0 := cabinetryref03_Wide.mono_l k
 unfold cabinetryref03_Wide.f
 repeat' first
   | (with_reducible exact ih0 _ _ _)
   | (with_reducible exact cabinetryref03_nulls.mono _ _)
   | (with_reducible exact LeO.refl _)
   | (with_reducible exact Y5 _)
   | (with_reducible refine Y7 ?_ ?_)
   | (with_reducible refine Y6 ?_ (fun _ => ?_))
   | exact ih0 _ _ _
   | exact cabinetryref03_nulls.mono _ _
   | exact Y5 _
   | refine Y7 ?_ ?_
   | refine Y6 ?_ (fun _ => ?_)
set_option maxHeartbeats 8000000 in
set_option maxRecDepth 100000 in
theorem cabinetryref03_Wide.calls (k : Nat) (A0 : Option Addr) (c0 : Nat) (l0 : List (S23)) (r : Int) (w : World) (hr0 : Kd.C k23 w A0 l0.length l0) (hc0 : l0.length ≤ c0) (h : cabinetryref03_Wide.f k l0 = some r) :
  Calls Tryz.prog 70 #[.slice A0 l0.length c0] w fun e w' => e = .returned (.int .i64 r) ∧ Drawn0 w w' := by
 have HR0 := Z0 hr0
 have HC0 := Z0 hc0
 clear hr0 hc0
 have H : ((cabinetryref03_nulls.f k l0).bind fun t212 => (cabinetryref03_Wide.l0 k l0 (wrap64 (1 + t212)) 0)) = some r := h
 clear h
 replace H := Option.bind_eq_some_iff.mp H
 obtain ⟨t212, A20, H⟩ := H
 replace H : (cabinetryref03_Wide.l0 k l0 (wrap64 (1 + t212)) 0) = some r := H
 have A2 := Z0 A20
 clear A20
 have H' := Z0 H
 clear H
 go_enter Tryz.func70, Tryz.ntmps70
 go_wp2_with (first | ((with_reducible refine Y3 (f := 72) rfl ?_); refine goesL_ (some 6) rfl rfl Tryz.func72 (by kernel_rfl) rfl #[.slice A0 l0.length c0] rfl V1 ?_; (with_reducible refine (cabinetryref03_nulls.calls k _ _ l0 t212 _ ?side1 ?side2 A2.out).mono ?_); (case side1 => repeat (first | exact HR0.out | (with_reducible refine Kd.C_alloc ?_ _) | (with_reducible refine Kd.C_drewN ?_ _) | (with_reducible refine Kd.C_drew ?_))); (case side2 => exact HC0.out); rintro e w' ⟨rfl, ⟨nd, rfl⟩⟩; refine ⟨_, rfl, ?_⟩))
 go_loopg [3, 4] k (fun kq v3 v4 w' => ∃ (x3_1 : Int) (x4_1 : Int), v3 = .int .i64 x3_1 ∧ v4 = .int .i64 x4_1 ∧ Aside0 (cabinetryref03_Wide.l0 kq l0 x3_1 x4_1 = some r) ∧ Aside0 (kq ≤ k) ∧ Drawn0 w w')
 case atStart => exact ⟨(wrap64 (1 + t212)), (0), V2, V2, H', ⟨Nat.le_refl _⟩, by repeat (first | exact Y9 _ | apply Y8)⟩
 case round =>
  clear H'
  (try clear p2)
  obtain ⟨x3_1, x4_1, rfl, rfl, HA, HK1, ⟨m1, rfl⟩⟩ := hrel
  cases gk with
  | zero => exact absurd HA.out (by simp [cabinetryref03_Wide.l0])
  | succ k1 =>
   have H := HA.out
   clear HA
   simp only [cabinetryref03_Wide.l0] at H
   by_cases c3 : x4_1 < (l0.length : Int)
   ·rw [if_pos c3] at H
    have c3b0 : decide (x4_1 < (l0.length : Int)) = true := decide_eq_true c3
    clear c3
    by_cases c4 : 0 ≤ x4_1
    ·rw [if_pos c4] at H
     have c4b0 : decide (0 ≤ x4_1) = true := decide_eq_true c4
     clear c4
     have H' := Z0 H
     clear H
     have p213 : 0 ≤ (x4_1 : Int) := of_decide_eq_true V3
     have q213 : x4_1 < (l0.length : Int) := of_decide_eq_true V3
     obtain ⟨ad213, e213, hx213_0, hx213_1, hx213_2, hx213_3⟩ := at_T23 HR0.out x4_1 p213 q213
     cases e213
     replace p213 := eq_true p213
     replace q213 := eq_true q213
     go_wp2
     go_roundg k1
     case measure => have := HK1.out; omega
     case rel => exact ⟨(wrap64 (x3_1 + ((rd_T23 l0 x4_1).f2))), (wrap64 (x4_1 + 1)), V2, V2, H', ⟨by have := HK1.out; omega⟩, by repeat (first | exact Y9 _ | apply Y8)⟩
    ·rw [if_neg c4] at H
     exact absurd H (by simp)
   ·rw [if_neg c3] at H
    have c3b0 : decide (x4_1 < (l0.length : Int)) = false := decide_eq_false c3
    clear c3
    obtain rfl := Option.some.inj H
    go_wp2
    go_ret
    exact ⟨V2, by repeat (first | exact Y9 _ | apply Y8)⟩
mutual
def cabinetryref03_ValidateFields.l0 : Nat → List (S23) → Int → Option (Int)
 | 0, _, _ => none
 | k + 1, x0, x3 => if x3 < (x0.length : Int) then (if 0 ≤ x3 then ((cabinetryref03_isField.f k ((rd_T23 x0 x3).f0) ((rd_T23 x0 x3).f1) ((rd_T23 x0 x3).f2) ((rd_T23 x0 x3).f3)).bind fun t215 => (if t215 = true then (cabinetryref03_ValidateFields.l0 k x0 (wrap64 (x3 + 1))) else (some 1))) else (none)) else (cabinetryref03_ValidateFields.l1 k x0 0)
def cabinetryref03_ValidateFields.l1 : Nat → List (S23) → Int → Option (Int)
 | 0, _, _ => none
 | k + 1, x0, x4 => if x4 < (x0.length : Int) then (cabinetryref03_ValidateFields.l2 k x0 x4 0) else (if (x0.length : Int) > 16 then (some 3) else ((cabinetryref03_Wide.f k x0).bind fun t218 => (if t218 > 2000 then (some 3) else (some 0))))
def cabinetryref03_ValidateFields.l2 : Nat → List (S23) → Int → Int → Option (Int)
 | 0, _, _, _ => none
 | k + 1, x0, x4, x5 => if x5 < x4 then (if 0 ≤ x4 then (if x4 < (x0.length : Int) then (if 0 ≤ x5 then (if x5 < (x0.length : Int) then (if ((rd_T23 x0 x4).f0).toList = ((rd_T23 x0 x5).f0).toList then (some 5) else (cabinetryref03_ValidateFields.l2 k x0 x4 (wrap64 (x5 + 1)))) else (none)) else (none)) else (none)) else (none)) else (cabinetryref03_ValidateFields.l1 k x0 (wrap64 (x4 + 1)))
end
def cabinetryref03_ValidateFields.f (k : Nat) (l0 : List (S23)) : Option (Int) := if (l0.length : Int) = 0 then (some 1) else (cabinetryref03_ValidateFields.l0 k l0 0)
theorem cabinetryref03_ValidateFields.mono_l : ∀ k, (∀ y0 y1, LeO (cabinetryref03_ValidateFields.l0 k y0 y1) (cabinetryref03_ValidateFields.l0 (k + 1) y0 y1)) ∧ (∀ y0 y1, LeO (cabinetryref03_ValidateFields.l1 k y0 y1) (cabinetryref03_ValidateFields.l1 (k + 1) y0 y1)) ∧ (∀ y0 y1 y2, LeO (cabinetryref03_ValidateFields.l2 k y0 y1 y2) (cabinetryref03_ValidateFields.l2 (k + 1) y0 y1 y2))
 | 0 => ⟨fun _ _ r h => by simp [cabinetryref03_ValidateFields.l0] at h, fun _ _ r h => by simp [cabinetryref03_ValidateFields.l1] at h, fun _ _ _ r h => by simp [cabinetryref03_ValidateFields.l2] at h⟩
 | k + 1 => by
  obtain ⟨ih0, ih1, ih2⟩ := cabinetryref03_ValidateFields.mono_l k
  refine ⟨?_, ?_, ?_⟩
  ·intro y0 y1
   unfold cabinetryref03_ValidateFields.l0
   repeat' first
   | (with_reducible exact ih0 _ _)
   | (with_reducible exact ih1 _ _)
   | (with_reducible exact ih2 _ _ _)
   | (with_reducible exact cabinetryref03_Wide.mono _ _)
   | (with_reducible exact cabinetryref03_isField.mono _ _ _ _ _)
   | (with_reducible exact LeO.refl _)
   | (with_reducible exact Y5 _)
   | (with_reducible refine Y7 ?_ ?_)
   | (with_reducible refine Y6 ?_ (fun _ => ?_))
   | exact ih0 _ _
   | exact ih1 _ _
   | exact ih2 _ _ _
   | exact cabinetryref03_Wide.mono _ _
   | exact cabinetryref03_isField.mono _ _ _ _ _
   | exact Y5 _
   | refine Y7 ?_ ?_
   | refine Y6 ?_ (fun _ => ?_)
  ·intro y0 y1
   unfold cabinetryref03_ValidateFields.l1
   repeat' first
   | (with_reducible exact ih0 _ _)
   | (with_reducible exact ih1 _ _)
   | (with_reducible exact ih2 _ _ _)
   | (with_reducible exact cabinetryref03_Wide.mono _ _)
   | (with_reducible exact cabinetryref03_isField.mono _ _ _ _ _)
   | (with_reducible exact LeO.refl _)
   | (with_reducible exact Y5 _)
   | (with_reducible refine Y7 ?_ ?_)
   | (with_reducible refine Y6 ?_ (fun _ => ?_))
   | exact ih0 _ _
   | exact ih1 _ _
   | exact ih2 _ _ _
   | exact cabinetryref03_Wide.mono _ _
   | exact cabinetryref03_isField.mono _ _ _ _ _
   | exact Y5 _
   | refine Y7 ?_ ?_
   | refine Y6 ?_ (fun _ => ?_)
  ·intro y0 y1 y2
   unfold cabinetryref03_ValidateFields.l2
   repeat' first
   | (with_reducible exact ih0 _ _)
   | (with_reducible exact ih1 _ _)
   | (with_reducible exact ih2 _ _ _)
   | (with_reducible exact cabinetryref03_Wide.mono _ _)
   | (with_reducible exact cabinetryref03_isField.mono _ _ _ _ _)
   | (with_reducible exact LeO.refl _)
   | (with_reducible exact Y5 _)
   | (with_reducible refine Y7 ?_ ?_)
   | (with_reducible refine Y6 ?_ (fun _ => ?_))
   | exact ih0 _ _
   | exact ih1 _ _
   | exact ih2 _ _ _
   | exact cabinetryref03_Wide.mono _ _
   | exact cabinetryref03_isField.mono _ _ _ _ _
   | exact Y5 _
   | refine Y7 ?_ ?_
   | refine Y6 ?_ (fun _ => ?_)
theorem cabinetryref03_ValidateFields.mono : ∀ a0 k, LeO (cabinetryref03_ValidateFields.f k a0) (cabinetryref03_ValidateFields.f (k + 1) a0) := by
 intro a0 k
 obtain ⟨ih0, ih1, ih2⟩ := cabinetryref03_ValidateFields.mono_l k
 unfold cabinetryref03_ValidateFields.f
 repeat' first
   | (with_reducible exact ih0 _ _)
   | (with_reducible exact ih1 _ _)
   | (with_reducible exact ih2 _ _ _)
   | (with_reducible exact cabinetryref03_Wide.mono _ _)
   | (with_reducible exact cabinetryref03_isField.mono _ _ _ _ _)
   | (with_reducible exact LeO.refl _)
   | (with_reducible exact Y5 _)
   | (with_reducible refine Y7 ?_ ?_)
   | (with_reducible refine Y6 ?_ (fun _ => ?_))
   | exact ih0 _ _
   | exact ih1 _ _
   | exact ih2 _ _ _
   | exact cabinetryref03_Wide.mono _ _
   | exact cabinetryref03_isField.mono _ _ _ _ _
   | exact Y5 _
   | refine Y7 ?_ ?_
   | refine Y6 ?_ (fun _ => ?_)
set_option maxHeartbeats 8000000 in
set_option maxRecDepth 100000 in
theorem cabinetryref03_ValidateFields.calls (k : Nat) (A0 : Option Addr) (c0 : Nat) (l0 : List (S23)) (r : Int) (w : World) (hr0 : Kd.C k23 w A0 l0.length l0) (hc0 : l0.length ≤ c0) (h : cabinetryref03_ValidateFields.f k l0 = some r) :
  Calls Tryz.prog 37 #[.slice A0 l0.length c0] w fun e w' => e = .returned (.int .i64 r) ∧ Below w.heap.size w w' := by
 have hu23 := Tryz.underlying23
 have HR0 := Z0 hr0
 have HC0 := Z0 hc0
 clear hr0 hc0
 have HB := Z0 (Below.refl w.heap.size w)
 have H : (if (l0.length : Int) = 0 then (some 1) else (cabinetryref03_ValidateFields.l0 k l0 0)) = some r := h
 clear h
 by_cases c2 : (l0.length : Int) = 0
 ·rw [if_pos c2] at H
  have c2b0 : ((l0.length : Int) == 0) = true := beq_iff_eq.mpr c2
  have c2b1 : ((l0.length : Int) != 0) = false := bne_eq_false_iff_eq.mpr c2
  clear c2
  obtain rfl := Option.some.inj H
  go_enter Tryz.func37, Tryz.ntmps37
  go_wp2
  repeat (go_quiet (fail); try go_wp2)
  go_ret
  exact ⟨rfl, V0⟩
 ·rw [if_neg c2] at H
  have c2b0 : ((l0.length : Int) == 0) = false := beq_eq_false_iff_ne.mpr c2
  have c2b1 : ((l0.length : Int) != 0) = true := bne_iff_ne.mpr c2
  have c2b2 : ¬ (l0 = []) := fun h_ => c2 (by rw [h_]; rfl)
  have H' := Z0 H
  clear H
  go_enter Tryz.func37, Tryz.ntmps37
  go_wp2
  repeat (go_quiet (fail); try go_wp2)
  go_loopg [3] k (fun kq v3 w' => ∃ (x3_1 : Int), v3 = .int .i64 x3_1 ∧ Aside0 (cabinetryref03_ValidateFields.l0 kq l0 x3_1 = some r) ∧ Aside0 (kq ≤ k) ∧ Aside0 (Below w.heap.size w w'))
  case atStart => exact ⟨(0), V2, H', ⟨Nat.le_refl _⟩, ⟨V0⟩⟩
  case round =>
   clear H'
   (try clear c2);(try clear c2b0);(try clear c2b1);(try clear c2b2);(try clear p2)
   obtain ⟨x3_1, rfl, HA, HK1, HB⟩ := hrel
   cases gk with
   | zero => exact absurd HA.out (by simp [cabinetryref03_ValidateFields.l0])
   | succ k1 =>
    have H := HA.out
    clear HA
    simp only [cabinetryref03_ValidateFields.l0] at H
    by_cases c3 : x3_1 < (l0.length : Int)
    ·rw [if_pos c3] at H
     have c3b0 : decide (x3_1 < (l0.length : Int)) = true := decide_eq_true c3
     clear c3
     by_cases c4 : 0 ≤ x3_1
     ·rw [if_pos c4] at H
      have c4b0 : decide (0 ≤ x3_1) = true := decide_eq_true c4
      clear c4
      replace H := Option.bind_eq_some_iff.mp H
      obtain ⟨t215, A50, H⟩ := H
      replace H : (if t215 = true then (cabinetryref03_ValidateFields.l0 k1 l0 (wrap64 (x3_1 + 1))) else (some 1)) = some r := H
      have A5 := Z0 A50
      clear A50
      by_cases c6 : t215 = true
      ·subst c6
       have H1 : (cabinetryref03_ValidateFields.l0 k1 l0 (wrap64 (x3_1 + 1))) = some r := by rw [if_pos rfl] at H; exact H
       clear H
       have H := H1
       clear H1
       have H' := Z0 H
       clear H
       have p214 : 0 ≤ (x3_1 : Int) := of_decide_eq_true V3
       have q214 : x3_1 < (l0.length : Int) := of_decide_eq_true V3
       obtain ⟨ad214, e214, hx214_0, hx214_1, hx214_2, hx214_3⟩ := at_T23 HR0.out x3_1 p214 q214
       cases e214
       replace hx214_0 := (HB.out.cell (World.block_lt_of_cell? w _ hx214_0)).trans hx214_0
       replace hx214_1 := (HB.out.cell (World.block_lt_of_cell? w _ hx214_1)).trans hx214_1
       replace hx214_2 := (HB.out.cell (World.block_lt_of_cell? w _ hx214_2)).trans hx214_2
       replace hx214_3 := (HB.out.cell (World.block_lt_of_cell? w _ hx214_3)).trans hx214_3
       replace p214 := eq_true p214
       replace q214 := eq_true q214
       go_wp2_with (first | (go_at_call 55; (with_reducible refine (cabinetryref03_isField.calls k1 ((rd_T23 l0 x3_1).f0) ((rd_T23 l0 x3_1).f1) ((rd_T23 l0 x3_1).f2) ((rd_T23 l0 x3_1).f3) true _ A5.out).mono ?_); rintro e w7 ⟨rfl, hb⟩; have n0_ := Z0 (Z6 HB.out hb); clear HB; have HB := n0_; clear n0_; (try clear hb); (try clear hb2); (try clear hk); (try clear hi)))
       go_roundg k1
       case measure => have := HK1.out; omega
       case rel => exact ⟨(wrap64 (x3_1 + 1)), V2, H', ⟨by have := HK1.out; omega⟩, ⟨V0⟩⟩
      ·replace c6 := Bool.eq_false_iff.mpr c6
       subst c6
       have H1 : (some 1) = some r := by rw [if_neg (show ¬ (false = true) by decide)] at H; exact H
       clear H
       have H := H1
       clear H1
       obtain rfl := Option.some.inj H
       have p214 : 0 ≤ (x3_1 : Int) := of_decide_eq_true V3
       have q214 : x3_1 < (l0.length : Int) := of_decide_eq_true V3
       obtain ⟨ad214, e214, hx214_0, hx214_1, hx214_2, hx214_3⟩ := at_T23 HR0.out x3_1 p214 q214
       cases e214
       replace hx214_0 := (HB.out.cell (World.block_lt_of_cell? w _ hx214_0)).trans hx214_0
       replace hx214_1 := (HB.out.cell (World.block_lt_of_cell? w _ hx214_1)).trans hx214_1
       replace hx214_2 := (HB.out.cell (World.block_lt_of_cell? w _ hx214_2)).trans hx214_2
       replace hx214_3 := (HB.out.cell (World.block_lt_of_cell? w _ hx214_3)).trans hx214_3
       replace p214 := eq_true p214
       replace q214 := eq_true q214
       go_wp2_with (first | (go_at_call 55; (with_reducible refine (cabinetryref03_isField.calls k1 ((rd_T23 l0 x3_1).f0) ((rd_T23 l0 x3_1).f1) ((rd_T23 l0 x3_1).f2) ((rd_T23 l0 x3_1).f3) false _ A5.out).mono ?_); rintro e w8 ⟨rfl, hb⟩; have n0_ := Z0 (Z6 HB.out hb); clear HB; have HB := n0_; clear n0_; (try clear hb); (try clear hb2); (try clear hk); (try clear hi)))
       go_ret
       exact ⟨rfl, V0⟩
     ·rw [if_neg c4] at H
      exact absurd H (by simp)
    ·rw [if_neg c3] at H
     have c3b0 : decide (x3_1 < (l0.length : Int)) = false := decide_eq_false c3
     clear c3
     have H' := Z0 H
     clear H
     go_wp2
     repeat (go_quiet (fail); try go_wp2)
     go_loopg [4] k1 (fun kq v4 w' => ∃ (x4_2 : Int), v4 = .int .i64 x4_2 ∧ Aside0 (cabinetryref03_ValidateFields.l1 kq l0 x4_2 = some r) ∧ Aside0 (kq ≤ k1) ∧ Aside0 (Below w.heap.size w w'))
     case atStart => exact ⟨(0), V2, H', ⟨Nat.le_refl _⟩, ⟨V0⟩⟩
     case round =>
      clear H'
      (try clear c2);(try clear c2b0);(try clear c2b1);(try clear c2b2);(try clear p2);(try clear q2);(try clear hx2);(try clear c3);(try clear c3b0);(try clear c4);(try clear c4b0);(try clear c6);(try clear p6);(try clear hx214_0);(try clear hx214_1);(try clear hx214_2);(try clear hx214_3);(try clear p2);(try clear p214);(try clear q214)
      obtain ⟨x4_2, rfl, HA, HK2, HB⟩ := hrel
      cases gk with
      | zero => exact absurd HA.out (by simp [cabinetryref03_ValidateFields.l1])
      | succ k2 =>
       have H := HA.out
       clear HA
       simp only [cabinetryref03_ValidateFields.l1] at H
       by_cases c9 : x4_2 < (l0.length : Int)
       ·rw [if_pos c9] at H
        have c9b0 : decide (x4_2 < (l0.length : Int)) = true := decide_eq_true c9
        clear c9
        have H' := Z0 H
        clear H
        go_wp2
        repeat (go_quiet (fail); try go_wp2)
        go_loopg [5] k2 (fun kq v5 w' => ∃ (x5_3 : Int), v5 = .int .i64 x5_3 ∧ Aside0 (cabinetryref03_ValidateFields.l2 kq l0 x4_2 x5_3 = some r) ∧ Aside0 (kq ≤ k2) ∧ Aside0 (Below w.heap.size w w'))
        case atStart => exact ⟨(0), V2, H', ⟨Nat.le_refl _⟩, ⟨V0⟩⟩
        case round =>
         clear H'
         (try clear c2);(try clear c2b0);(try clear c2b1);(try clear c2b2);(try clear p2);(try clear q2);(try clear hx2);(try clear c3);(try clear c3b0);(try clear c4);(try clear c4b0);(try clear c6);(try clear p6);(try clear c9);(try clear c9b0);(try clear hx214_0);(try clear hx214_1);(try clear hx214_2);(try clear hx214_3);(try clear p2);(try clear p214);(try clear p6);(try clear q2);(try clear q214)
         obtain ⟨x5_3, rfl, HA, HK3, HB⟩ := hrel
         cases gk with
         | zero => exact absurd HA.out (by simp [cabinetryref03_ValidateFields.l2])
         | succ k3 =>
          have H := HA.out
          clear HA
          simp only [cabinetryref03_ValidateFields.l2] at H
          by_cases c10 : x5_3 < x4_2
          ·rw [if_pos c10] at H
           have c10b0 : decide (x5_3 < x4_2) = true := decide_eq_true c10
           clear c10
           by_cases c11 : 0 ≤ x4_2
           ·rw [if_pos c11] at H
            have c11b0 : decide (0 ≤ x4_2) = true := decide_eq_true c11
            clear c11
            by_cases c12 : x4_2 < (l0.length : Int)
            ·rw [if_pos c12] at H
             have c12b0 : decide (x4_2 < (l0.length : Int)) = true := decide_eq_true c12
             clear c12
             by_cases c13 : 0 ≤ x5_3
             ·rw [if_pos c13] at H
              have c13b0 : decide (0 ≤ x5_3) = true := decide_eq_true c13
              clear c13
              by_cases c14 : x5_3 < (l0.length : Int)
              ·rw [if_pos c14] at H
               have c14b0 : decide (x5_3 < (l0.length : Int)) = true := decide_eq_true c14
               clear c14
               by_cases c15 : ((rd_T23 l0 x4_2).f0).toList = ((rd_T23 l0 x5_3).f0).toList
               ·rw [if_pos c15] at H
                have c15b0 : (((rd_T23 l0 x4_2).f0).toList == ((rd_T23 l0 x5_3).f0).toList) = true := beq_iff_eq.mpr c15
                have c15b1 : (((rd_T23 l0 x4_2).f0).toList != ((rd_T23 l0 x5_3).f0).toList) = false := bne_eq_false_iff_eq.mpr c15
                clear c15
                obtain rfl := Option.some.inj H
                have p216 : 0 ≤ (x4_2 : Int) := of_decide_eq_true V3
                have q216 : x4_2 < (l0.length : Int) := of_decide_eq_true V3
                obtain ⟨ad216, e216, hx216_0, hx216_1, hx216_2, hx216_3⟩ := at_T23 HR0.out x4_2 p216 q216
                cases e216
                replace hx216_0 := (HB.out.cell (World.block_lt_of_cell? w _ hx216_0)).trans hx216_0
                replace hx216_1 := (HB.out.cell (World.block_lt_of_cell? w _ hx216_1)).trans hx216_1
                replace hx216_2 := (HB.out.cell (World.block_lt_of_cell? w _ hx216_2)).trans hx216_2
                replace hx216_3 := (HB.out.cell (World.block_lt_of_cell? w _ hx216_3)).trans hx216_3
                replace p216 := eq_true p216
                replace q216 := eq_true q216
                have p217 : 0 ≤ (x5_3 : Int) := of_decide_eq_true V3
                have q217 : x5_3 < (l0.length : Int) := of_decide_eq_true V3
                obtain ⟨ad217, e217, hx217_0, hx217_1, hx217_2, hx217_3⟩ := at_T23 HR0.out x5_3 p217 q217
                obtain rfl : ad216 = ad217 := (by injection e217)
                replace hx217_0 := (HB.out.cell (World.block_lt_of_cell? w _ hx217_0)).trans hx217_0
                replace hx217_1 := (HB.out.cell (World.block_lt_of_cell? w _ hx217_1)).trans hx217_1
                replace hx217_2 := (HB.out.cell (World.block_lt_of_cell? w _ hx217_2)).trans hx217_2
                replace hx217_3 := (HB.out.cell (World.block_lt_of_cell? w _ hx217_3)).trans hx217_3
                replace p217 := eq_true p217
                replace q217 := eq_true q217
                go_wp2
                repeat (go_quiet (fail); try go_wp2)
                go_ret
                exact ⟨rfl, V0⟩
               ·rw [if_neg c15] at H
                have c15b0 : (((rd_T23 l0 x4_2).f0).toList == ((rd_T23 l0 x5_3).f0).toList) = false := beq_eq_false_iff_ne.mpr c15
                have c15b1 : (((rd_T23 l0 x4_2).f0).toList != ((rd_T23 l0 x5_3).f0).toList) = true := bne_iff_ne.mpr c15
                have H' := Z0 H
                clear H
                have p216 : 0 ≤ (x4_2 : Int) := of_decide_eq_true V3
                have q216 : x4_2 < (l0.length : Int) := of_decide_eq_true V3
                obtain ⟨ad216, e216, hx216_0, hx216_1, hx216_2, hx216_3⟩ := at_T23 HR0.out x4_2 p216 q216
                cases e216
                replace hx216_0 := (HB.out.cell (World.block_lt_of_cell? w _ hx216_0)).trans hx216_0
                replace hx216_1 := (HB.out.cell (World.block_lt_of_cell? w _ hx216_1)).trans hx216_1
                replace hx216_2 := (HB.out.cell (World.block_lt_of_cell? w _ hx216_2)).trans hx216_2
                replace hx216_3 := (HB.out.cell (World.block_lt_of_cell? w _ hx216_3)).trans hx216_3
                replace p216 := eq_true p216
                replace q216 := eq_true q216
                have p217 : 0 ≤ (x5_3 : Int) := of_decide_eq_true V3
                have q217 : x5_3 < (l0.length : Int) := of_decide_eq_true V3
                obtain ⟨ad217, e217, hx217_0, hx217_1, hx217_2, hx217_3⟩ := at_T23 HR0.out x5_3 p217 q217
                obtain rfl : ad216 = ad217 := (by injection e217)
                replace hx217_0 := (HB.out.cell (World.block_lt_of_cell? w _ hx217_0)).trans hx217_0
                replace hx217_1 := (HB.out.cell (World.block_lt_of_cell? w _ hx217_1)).trans hx217_1
                replace hx217_2 := (HB.out.cell (World.block_lt_of_cell? w _ hx217_2)).trans hx217_2
                replace hx217_3 := (HB.out.cell (World.block_lt_of_cell? w _ hx217_3)).trans hx217_3
                replace p217 := eq_true p217
                replace q217 := eq_true q217
                go_wp2
                repeat (go_quiet (fail); try go_wp2)
                go_roundg k3
                case measure => have := HK1.out; have := HK2.out; have := HK3.out; omega
                case rel => exact ⟨(wrap64 (x5_3 + 1)), V2, H', ⟨by have := HK1.out; have := HK2.out; have := HK3.out; omega⟩, ⟨V0⟩⟩
              ·rw [if_neg c14] at H
               exact absurd H (by simp)
             ·rw [if_neg c13] at H
              exact absurd H (by simp)
            ·rw [if_neg c12] at H
             exact absurd H (by simp)
           ·rw [if_neg c11] at H
            exact absurd H (by simp)
          ·rw [if_neg c10] at H
           have c10b0 : decide (x5_3 < x4_2) = false := decide_eq_false c10
           clear c10
           have H' := Z0 H
           clear H
           go_wp2
           repeat (go_quiet (fail); try go_wp2)
           go_roundg k3
           case measure => have := HK1.out; have := HK2.out; have := HK3.out; omega
           case rel => exact ⟨(wrap64 (x4_2 + 1)), V2, H', ⟨by have := HK1.out; have := HK2.out; have := HK3.out; omega⟩, ⟨V0⟩⟩
       ·rw [if_neg c9] at H
        have c9b0 : decide (x4_2 < (l0.length : Int)) = false := decide_eq_false c9
        clear c9
        by_cases c16 : (l0.length : Int) > 16
        ·rw [if_pos c16] at H
         have c16b0 : decide (16 < (l0.length : Int)) = true := decide_eq_true c16
         have c16b1 : decide (16 < l0.length) = true := decide_eq_true (by omega)
         clear c16
         obtain rfl := Option.some.inj H
         go_wp2
         repeat (go_quiet (fail); try go_wp2)
         go_ret
         exact ⟨rfl, V0⟩
        ·rw [if_neg c16] at H
         have c16b0 : decide (16 < (l0.length : Int)) = false := decide_eq_false c16
         have c16b1 : decide (16 < l0.length) = false := decide_eq_false (by omega)
         clear c16
         replace H := Option.bind_eq_some_iff.mp H
         obtain ⟨t218, A170, H⟩ := H
         replace H : (if t218 > 2000 then (some 3) else (some 0)) = some r := H
         have A17 := Z0 A170
         clear A170
         by_cases c18 : t218 > 2000
         ·rw [if_pos c18] at H
          have c18b0 : decide (2000 < t218) = true := decide_eq_true c18
          clear c18
          obtain rfl := Option.some.inj H
          go_wp2_with (first | (go_at_call 70; (with_reducible refine (cabinetryref03_Wide.calls k2 _ _ l0 t218 _ ?side1 ?side2 A17.out).mono ?_); (case side1 => repeat (first | exact (Kd.C_below HR0.out HB.out) | (with_reducible refine Kd.C_alloc ?_ _) | (with_reducible refine Kd.C_drewN ?_ _) | (with_reducible refine Kd.C_drew ?_))); (case side2 => exact HC0.out); rintro e w' ⟨rfl, ⟨nd, rfl⟩⟩; (try first | exact ⟨rfl, _, World.drewN_drewN _ _ _⟩ | exact ⟨rfl, _, Eq.trans (World.drewN_drewN _ _ _) (congrArg (World.drewN _) (Nat.add_assoc _ _ _))⟩)))
          go_ret
          exact ⟨rfl, V0⟩
         ·rw [if_neg c18] at H
          have c18b0 : decide (2000 < t218) = false := decide_eq_false c18
          clear c18
          obtain rfl := Option.some.inj H
          go_wp2_with (first | (go_at_call 70; (with_reducible refine (cabinetryref03_Wide.calls k2 _ _ l0 t218 _ ?side1 ?side2 A17.out).mono ?_); (case side1 => repeat (first | exact (Kd.C_below HR0.out HB.out) | (with_reducible refine Kd.C_alloc ?_ _) | (with_reducible refine Kd.C_drewN ?_ _) | (with_reducible refine Kd.C_drew ?_))); (case side2 => exact HC0.out); rintro e w' ⟨rfl, ⟨nd, rfl⟩⟩; (try first | exact ⟨rfl, _, World.drewN_drewN _ _ _⟩ | exact ⟨rfl, _, Eq.trans (World.drewN_drewN _ _ _) (congrArg (World.drewN _) (Nat.add_assoc _ _ _))⟩)))
          go_ret
          exact ⟨rfl, V0⟩
def cabinetryref03_WeightOf.l0 : Nat → List (S25) → Int → Int → Option (Int)
 | 0, _, _, _ => none
 | k + 1, x0, x3, x4 => if x4 < (x0.length : Int) then (if 0 ≤ x4 then (cabinetryref03_WeightOf.l0 k x0 (wrap64 (x3 + (((rd_T25 x0 x4).f2).size : Int))) (wrap64 (x4 + 1))) else (none)) else (some x3)
def cabinetryref03_WeightOf.f (k : Nat) (l0 : List (S25)) : Option (Int) := cabinetryref03_WeightOf.l0 k l0 (wrap64 (8 * (l0.length : Int))) 0
theorem cabinetryref03_WeightOf.mono_l : ∀ k, (∀ y0 y1 y2, LeO (cabinetryref03_WeightOf.l0 k y0 y1 y2) (cabinetryref03_WeightOf.l0 (k + 1) y0 y1 y2))
 | 0 => fun _ _ _ r h => by simp [cabinetryref03_WeightOf.l0] at h
 | k + 1 => by
  have ih0 := cabinetryref03_WeightOf.mono_l k
  ·intro y0 y1 y2
   unfold cabinetryref03_WeightOf.l0
   repeat' first
   | (with_reducible exact ih0 _ _ _)
   | (with_reducible exact LeO.refl _)
   | (with_reducible exact Y5 _)
   | (with_reducible refine Y7 ?_ ?_)
   | (with_reducible refine Y6 ?_ (fun _ => ?_))
   | exact ih0 _ _ _
   | exact Y5 _
   | refine Y7 ?_ ?_
   | refine Y6 ?_ (fun _ => ?_)
theorem cabinetryref03_WeightOf.mono : ∀ a0 k, LeO (cabinetryref03_WeightOf.f k a0) (cabinetryref03_WeightOf.f (k + 1) a0) := by
 intro a0 k
 have ih0 := cabinetryref03_WeightOf.mono_l k
 unfold cabinetryref03_WeightOf.f
 repeat' first
   | (with_reducible exact ih0 _ _ _)
   | (with_reducible exact LeO.refl _)
   | (with_reducible exact Y5 _)
   | (with_reducible refine Y7 ?_ ?_)
   | (with_reducible refine Y6 ?_ (fun _ => ?_))
   | exact ih0 _ _ _
   | exact Y5 _
   | refine Y7 ?_ ?_
   | refine Y6 ?_ (fun _ => ?_)
set_option maxHeartbeats 8000000 in
set_option maxRecDepth 100000 in
theorem cabinetryref03_WeightOf.calls (k : Nat) (A0 : Option Addr) (c0 : Nat) (l0 : List (S25)) (r : Int) (w : World) (hr0 : Kd.C k25 w A0 l0.length l0) (hc0 : l0.length ≤ c0) (h : cabinetryref03_WeightOf.f k l0 = some r) :
  Calls Tryz.prog 64 #[.slice A0 l0.length c0] w fun e w' => e = .returned (.int .i64 r) ∧ Drawn0 w w' := by
 have HR0 := Z0 hr0
 have HC0 := Z0 hc0
 clear hr0 hc0
 have H : (cabinetryref03_WeightOf.l0 k l0 (wrap64 (8 * (l0.length : Int))) 0) = some r := h
 clear h
 have H' := Z0 H
 clear H
 go_enter Tryz.func64, Tryz.ntmps64
 go_wp2
 go_loopg [3, 4] k (fun kq v3 v4 w' => ∃ (x3_1 : Int) (x4_1 : Int), v3 = .int .i64 x3_1 ∧ v4 = .int .i64 x4_1 ∧ Aside0 (cabinetryref03_WeightOf.l0 kq l0 x3_1 x4_1 = some r) ∧ Aside0 (kq ≤ k) ∧ Drawn0 w w')
 case atStart => exact ⟨(wrap64 (8 * (l0.length : Int))), (0), V2, V2, H', ⟨Nat.le_refl _⟩, by repeat (first | exact Y9 _ | apply Y8)⟩
 case round =>
  clear H'
  obtain ⟨x3_1, x4_1, rfl, rfl, HA, HK1, ⟨m1, rfl⟩⟩ := hrel
  cases gk with
  | zero => exact absurd HA.out (by simp [cabinetryref03_WeightOf.l0])
  | succ k1 =>
   have H := HA.out
   clear HA
   simp only [cabinetryref03_WeightOf.l0] at H
   by_cases c2 : x4_1 < (l0.length : Int)
   ·rw [if_pos c2] at H
    have c2b0 : decide (x4_1 < (l0.length : Int)) = true := decide_eq_true c2
    clear c2
    by_cases c3 : 0 ≤ x4_1
    ·rw [if_pos c3] at H
     have c3b0 : decide (0 ≤ x4_1) = true := decide_eq_true c3
     clear c3
     have H' := Z0 H
     clear H
     have p162 : 0 ≤ (x4_1 : Int) := of_decide_eq_true V3
     have q162 : x4_1 < (l0.length : Int) := of_decide_eq_true V3
     obtain ⟨ad162, e162, hx162_0, hx162_1, hx162_2⟩ := at_T25 HR0.out x4_1 p162 q162
     cases e162
     replace p162 := eq_true p162
     replace q162 := eq_true q162
     go_wp2
     go_roundg k1
     case measure => have := HK1.out; omega
     case rel => exact ⟨(wrap64 (x3_1 + (((rd_T25 l0 x4_1).f2).size : Int))), (wrap64 (x4_1 + 1)), V2, V2, H', ⟨by have := HK1.out; omega⟩, by repeat (first | exact Y9 _ | apply Y8)⟩
    ·rw [if_neg c3] at H
     exact absurd H (by simp)
   ·rw [if_neg c2] at H
    have c2b0 : decide (x4_1 < (l0.length : Int)) = false := decide_eq_false c2
    clear c2
    obtain rfl := Option.some.inj H
    go_wp2
    go_ret
    exact ⟨V2, by repeat (first | exact Y9 _ | apply Y8)⟩
mutual
def cabinetryref03_Weight.l0 : Nat → Int → Int → Int → List (S23) → List (S46) → Option (Int)
 | 0, _, _, _, _, _ => none
 | k + 1, x3, x4, x164000, x164001, x164002 => if x4 < (x164001.length : Int) then (if 0 ≤ x4 then (cabinetryref03_Weight.l0 k (wrap64 (x3 + (((rd_T23 x164001 x4).f0).size : Int))) (wrap64 (x4 + 1)) x164000 x164001 x164002) else (none)) else (cabinetryref03_Weight.l1 k x3 0 x164000 x164001 x164002)
def cabinetryref03_Weight.l1 : Nat → Int → Int → Int → List (S23) → List (S46) → Option (Int)
 | 0, _, _, _, _, _ => none
 | k + 1, x3, x5, x164000, x164001, x164002 => if x5 < (x164002.length : Int) then (if 0 ≤ x5 then ((cabinetryref03_WeightOf.f k ((rd_T46 x164002 x5).f1)).bind fun t166 => (cabinetryref03_Weight.l1 k (wrap64 (x3 + (wrap64 (8 + t166)))) (wrap64 (x5 + 1)) x164000 x164001 x164002)) else (none)) else (some x3)
end
def cabinetryref03_Weight.f (k : Nat) (a0_0 : Int) (l0_1 : List (S23)) (l0_2 : List (S46)) : Option (Int) := cabinetryref03_Weight.l0 k (wrap64 (16 * (l0_1.length : Int))) 0 a0_0 l0_1 l0_2
theorem cabinetryref03_Weight.mono_l : ∀ k, (∀ y0 y1 y2 y3 y4, LeO (cabinetryref03_Weight.l0 k y0 y1 y2 y3 y4) (cabinetryref03_Weight.l0 (k + 1) y0 y1 y2 y3 y4)) ∧ (∀ y0 y1 y2 y3 y4, LeO (cabinetryref03_Weight.l1 k y0 y1 y2 y3 y4) (cabinetryref03_Weight.l1 (k + 1) y0 y1 y2 y3 y4))
 | 0 => ⟨fun _ _ _ _ _ r h => by simp [cabinetryref03_Weight.l0] at h, fun _ _ _ _ _ r h => by simp [cabinetryref03_Weight.l1] at h⟩
 | k + 1 => by
  obtain ⟨ih0, ih1⟩ := cabinetryref03_Weight.mono_l k
  refine ⟨?_, ?_⟩
  ·intro y0 y1 y2 y3 y4
   unfold cabinetryref03_Weight.l0
   repeat' first
   | (with_reducible exact ih0 _ _ _ _ _)
   | (with_reducible exact ih1 _ _ _ _ _)
   | (with_reducible exact cabinetryref03_WeightOf.mono _ _)
   | (with_reducible exact LeO.refl _)
   | (with_reducible exact Y5 _)
   | (with_reducible refine Y7 ?_ ?_)
   | (with_reducible refine Y6 ?_ (fun _ => ?_))
   | exact ih0 _ _ _ _ _
   | exact ih1 _ _ _ _ _
   | exact cabinetryref03_WeightOf.mono _ _
   | exact Y5 _
   | refine Y7 ?_ ?_
   | refine Y6 ?_ (fun _ => ?_)
  ·intro y0 y1 y2 y3 y4
   unfold cabinetryref03_Weight.l1
   repeat' first
   | (with_reducible exact ih0 _ _ _ _ _)
   | (with_reducible exact ih1 _ _ _ _ _)
   | (with_reducible exact cabinetryref03_WeightOf.mono _ _)
   | (with_reducible exact LeO.refl _)
   | (with_reducible exact Y5 _)
   | (with_reducible refine Y7 ?_ ?_)
   | (with_reducible refine Y6 ?_ (fun _ => ?_))
   | exact ih0 _ _ _ _ _
   | exact ih1 _ _ _ _ _
   | exact cabinetryref03_WeightOf.mono _ _
   | exact Y5 _
   | refine Y7 ?_ ?_
   | refine Y6 ?_ (fun _ => ?_)
theorem cabinetryref03_Weight.mono : ∀ a0 a1 a2 k, LeO (cabinetryref03_Weight.f k a0 a1 a2) (cabinetryref03_Weight.f (k + 1) a0 a1 a2) := by
 intro a0 a1 a2 k
 obtain ⟨ih0, ih1⟩ := cabinetryref03_Weight.mono_l k
 unfold cabinetryref03_Weight.f
 repeat' first
   | (with_reducible exact ih0 _ _ _ _ _)
   | (with_reducible exact ih1 _ _ _ _ _)
   | (with_reducible exact cabinetryref03_WeightOf.mono _ _)
   | (with_reducible exact LeO.refl _)
   | (with_reducible exact Y5 _)
   | (with_reducible refine Y7 ?_ ?_)
   | (with_reducible refine Y6 ?_ (fun _ => ?_))
   | exact ih0 _ _ _ _ _
   | exact ih1 _ _ _ _ _
   | exact cabinetryref03_WeightOf.mono _ _
   | exact Y5 _
   | refine Y7 ?_ ?_
   | refine Y6 ?_ (fun _ => ?_)
set_option maxHeartbeats 8000000 in
set_option maxRecDepth 100000 in
theorem cabinetryref03_Weight.calls (k : Nat) (a0_0 : Int) (A0_1 : Option Addr) (c0_1 : Nat) (l0_1 : List (S23)) (A0_2 : Option Addr) (c0_2 : Nat) (l0_2 : List (S46)) (r : Int) (w : World) (hr0_1 : Kd.C k23 w A0_1 l0_1.length l0_1) (hc0_1 : l0_1.length ≤ c0_1) (hr0_2 : Kd.C k46 w A0_2 l0_2.length l0_2) (hc0_2 : l0_2.length ≤ c0_2) (h : cabinetryref03_Weight.f k a0_0 l0_1 l0_2 = some r) :
  Calls Tryz.prog 24 #[.agg #[.int .i64 a0_0, .slice A0_1 l0_1.length c0_1, .slice A0_2 l0_2.length c0_2]] w fun e w' => e = .returned (.int .i64 r) ∧ Below w.heap.size w w' := by
 have hu35 := Tryz.underlying35
 have HR0_1 := Z0 hr0_1
 have HC0_1 := Z0 hc0_1
 clear hr0_1 hc0_1
 have HR0_2 := Z0 hr0_2
 have HC0_2 := Z0 hc0_2
 clear hr0_2 hc0_2
 have HB := Z0 (Below.refl w.heap.size w)
 have H : (cabinetryref03_Weight.l0 k (wrap64 (16 * (l0_1.length : Int))) 0 a0_0 l0_1 l0_2) = some r := h
 clear h
 have H' := Z0 H
 clear H
 go_enter Tryz.func24, Tryz.ntmps24
 go_wp2_with (first | ((with_reducible refine Y4 (N := 1) rfl ?_); refine Y2 ?hg (N := 1) ?hd (cs := #[.int .i64 a0_0, .slice A0_1 l0_1.length c0_1, .slice A0_2 l0_2.length c0_2]) (t := 35) ?hr ?_; (case hd => rfl); (case hg => rfl); (case hr => go_simp; try rfl); intro gb163 hg w2 hbox hb; have n0_ := Z0 (Z6 HB.out hb); have n1_ := Z0 (hbox); have n3_ := Z0 ((by rw [hg]; exact (Y0 HB.out) : w.heap.size ≤ gb163)); clear HB; have HB := n0_; have BK163 := n1_; have GE163 := n3_; clear n0_ n1_ n3_; clear hb hbox hg; have hcz3_0 : w2.cell? ⟨gb163, 0, none⟩ = some (.int .i64 a0_0) := (Z2 BK163.out 0).trans rfl; have hcz3_1 : w2.cell? ⟨gb163, 1, none⟩ = some (.slice A0_1 l0_1.length c0_1) := (Z2 BK163.out 1).trans rfl; have hcz3_2 : w2.cell? ⟨gb163, 2, none⟩ = some (.slice A0_2 l0_2.length c0_2) := (Z2 BK163.out 2).trans rfl; have hfz3_0 := Z1 BK163.out 0; have hfz3_1 := Z1 BK163.out 1; have hfz3_2 := Z1 BK163.out 2))
 go_loopg [3, 4] k (fun kq v3 v4 w' => ∃ (x3_1 : Int) (x4_1 : Int), v3 = .int .i64 x3_1 ∧ v4 = .int .i64 x4_1 ∧ Aside0 (cabinetryref03_Weight.l0 kq x3_1 x4_1 a0_0 l0_1 l0_2 = some r) ∧ Aside0 (kq ≤ k) ∧ Aside0 (w'.heap[gb163]? = some (.cells #[.int .i64 a0_0, (.slice A0_1 l0_1.length c0_1), (.slice A0_2 l0_2.length c0_2)] 35 (0, 0))) ∧ Aside0 (Below w.heap.size w w'))
 case atStart => exact ⟨(wrap64 (16 * (l0_1.length : Int))), (0), V2, V2, H', ⟨Nat.le_refl _⟩, ⟨by (with_reducible repeat (first | refine Z8 ?_ _ | refine Y1 ?_ | refine Z9 ?_ _)); exact BK163.out⟩, ⟨V0⟩⟩
 case round =>
  clear H'
  (try clear c2);(try clear p2);(try clear hcz3_0);(try clear hcz3_1);(try clear hcz3_2);(try clear hfz3_0);(try clear hfz3_1);(try clear hfz3_2)
  obtain ⟨x3_1, x4_1, rfl, rfl, HA, HK1, BK163, HB⟩ := hrel
  cases gk with
  | zero => exact absurd HA.out (by simp [cabinetryref03_Weight.l0])
  | succ k1 =>
   have H := HA.out
   clear HA
   simp only [cabinetryref03_Weight.l0] at H
   by_cases c4 : x4_1 < (l0_1.length : Int)
   ·rw [if_pos c4] at H
    have c4b0 : decide (x4_1 < (l0_1.length : Int)) = true := decide_eq_true c4
    clear c4
    by_cases c5 : 0 ≤ x4_1
    ·rw [if_pos c5] at H
     have c5b0 : decide (0 ≤ x4_1) = true := decide_eq_true c5
     clear c5
     have H' := Z0 H
     clear H
     have hcz6_0 : wr.cell? ⟨gb163, 0, none⟩ = some (.int .i64 a0_0) := (Z2 BK163.out 0).trans rfl
     have hcz6_1 : wr.cell? ⟨gb163, 1, none⟩ = some (.slice A0_1 l0_1.length c0_1) := (Z2 BK163.out 1).trans rfl
     have hcz6_2 : wr.cell? ⟨gb163, 2, none⟩ = some (.slice A0_2 l0_2.length c0_2) := (Z2 BK163.out 2).trans rfl
     have hfz6_0 := Z1 BK163.out 0
     have hfz6_1 := Z1 BK163.out 1
     have hfz6_2 := Z1 BK163.out 2
     have p164 : 0 ≤ (x4_1 : Int) := of_decide_eq_true V3
     have q164 : x4_1 < (l0_1.length : Int) := of_decide_eq_true V3
     obtain ⟨ad164, e164, hx164_0, hx164_1, hx164_2, hx164_3⟩ := at_T23 HR0_1.out x4_1 p164 q164
     cases e164
     replace hx164_0 := (HB.out.cell (World.block_lt_of_cell? w _ hx164_0)).trans hx164_0
     replace hx164_1 := (HB.out.cell (World.block_lt_of_cell? w _ hx164_1)).trans hx164_1
     replace hx164_2 := (HB.out.cell (World.block_lt_of_cell? w _ hx164_2)).trans hx164_2
     replace hx164_3 := (HB.out.cell (World.block_lt_of_cell? w _ hx164_3)).trans hx164_3
     replace p164 := eq_true p164
     replace q164 := eq_true q164
     go_wp2
     go_roundg k1
     case measure => have := HK1.out; omega
     case rel => exact ⟨(wrap64 (x3_1 + (((rd_T23 l0_1 x4_1).f0).size : Int))), (wrap64 (x4_1 + 1)), V2, V2, H', ⟨by have := HK1.out; omega⟩, ⟨by (with_reducible repeat (first | refine Z8 ?_ _ | refine Y1 ?_ | refine Z9 ?_ _)); exact BK163.out⟩, ⟨V0⟩⟩
    ·rw [if_neg c5] at H
     exact absurd H (by simp)
   ·rw [if_neg c4] at H
    have c4b0 : decide (x4_1 < (l0_1.length : Int)) = false := decide_eq_false c4
    clear c4
    have H' := Z0 H
    clear H
    have hcz7_0 : wr.cell? ⟨gb163, 0, none⟩ = some (.int .i64 a0_0) := (Z2 BK163.out 0).trans rfl
    have hcz7_1 : wr.cell? ⟨gb163, 1, none⟩ = some (.slice A0_1 l0_1.length c0_1) := (Z2 BK163.out 1).trans rfl
    have hcz7_2 : wr.cell? ⟨gb163, 2, none⟩ = some (.slice A0_2 l0_2.length c0_2) := (Z2 BK163.out 2).trans rfl
    have hfz7_0 := Z1 BK163.out 0
    have hfz7_1 := Z1 BK163.out 1
    have hfz7_2 := Z1 BK163.out 2
    go_wp2
    go_loopg [3, 5] k1 (fun kq v3 v5 w' => ∃ (x3_2 : Int) (x5_2 : Int), v3 = .int .i64 x3_2 ∧ v5 = .int .i64 x5_2 ∧ Aside0 (cabinetryref03_Weight.l1 kq x3_2 x5_2 a0_0 l0_1 l0_2 = some r) ∧ Aside0 (kq ≤ k1) ∧ Aside0 (w'.heap[gb163]? = some (.cells #[.int .i64 a0_0, (.slice A0_1 l0_1.length c0_1), (.slice A0_2 l0_2.length c0_2)] 35 (0, 0))) ∧ Aside0 (Below w.heap.size w w'))
    case atStart => exact ⟨(x3_1), (0), V2, V2, H', ⟨Nat.le_refl _⟩, ⟨by (with_reducible repeat (first | refine Z8 ?_ _ | refine Y1 ?_ | refine Z9 ?_ _)); exact BK163.out⟩, ⟨V0⟩⟩
    case round =>
     clear H'
     (try clear p1);(try clear q1);(try clear hx1);(try clear c2);(try clear p2);(try clear c4);(try clear c4b0);(try clear c5);(try clear c5b0);(try clear p6);(try clear hcz3_0);(try clear hcz3_1);(try clear hcz3_2);(try clear hcz6_0);(try clear hcz6_1);(try clear hcz6_2);(try clear hcz7_0);(try clear hcz7_1);(try clear hcz7_2);(try clear hfz3_0);(try clear hfz3_1);(try clear hfz3_2);(try clear hfz6_0);(try clear hfz6_1);(try clear hfz6_2);(try clear hfz7_0);(try clear hfz7_1);(try clear hfz7_2);(try clear hx164_0);(try clear hx164_1);(try clear hx164_2);(try clear hx164_3);(try clear p164);(try clear p2);(try clear q164)
     obtain ⟨x3_2, x5_2, rfl, rfl, HA, HK2, BK163, HB⟩ := hrel
     cases gk with
     | zero => exact absurd HA.out (by simp [cabinetryref03_Weight.l1])
     | succ k2 =>
      have H := HA.out
      clear HA
      simp only [cabinetryref03_Weight.l1] at H
      by_cases c8 : x5_2 < (l0_2.length : Int)
      ·rw [if_pos c8] at H
       have c8b0 : decide (x5_2 < (l0_2.length : Int)) = true := decide_eq_true c8
       clear c8
       by_cases c9 : 0 ≤ x5_2
       ·rw [if_pos c9] at H
        have c9b0 : decide (0 ≤ x5_2) = true := decide_eq_true c9
        clear c9
        replace H := Option.bind_eq_some_iff.mp H
        obtain ⟨t166, A100, H⟩ := H
        replace H : (cabinetryref03_Weight.l1 k2 (wrap64 (x3_2 + (wrap64 (8 + t166)))) (wrap64 (x5_2 + 1)) a0_0 l0_1 l0_2) = some r := H
        have A10 := Z0 A100
        clear A100
        have H' := Z0 H
        clear H
        have hcz11_0 : wr.cell? ⟨gb163, 0, none⟩ = some (.int .i64 a0_0) := (Z2 BK163.out 0).trans rfl
        have hcz11_1 : wr.cell? ⟨gb163, 1, none⟩ = some (.slice A0_1 l0_1.length c0_1) := (Z2 BK163.out 1).trans rfl
        have hcz11_2 : wr.cell? ⟨gb163, 2, none⟩ = some (.slice A0_2 l0_2.length c0_2) := (Z2 BK163.out 2).trans rfl
        have hfz11_0 := Z1 BK163.out 0
        have hfz11_1 := Z1 BK163.out 1
        have hfz11_2 := Z1 BK163.out 2
        have p165 : 0 ≤ (x5_2 : Int) := of_decide_eq_true V3
        have q165 : x5_2 < (l0_2.length : Int) := of_decide_eq_true V3
        obtain ⟨ad165, A165_1, c165_1, e165, hx165_0, hx165_1, hl165_1, hi165_1⟩ := at_T46 HR0_2.out x5_2 p165 q165
        cases e165
        replace hx165_0 := (HB.out.cell (World.block_lt_of_cell? w _ hx165_0)).trans hx165_0
        replace hx165_1 := (HB.out.cell (World.block_lt_of_cell? w _ hx165_1)).trans hx165_1
        have HR165_1 := Z0 hi165_1
        have HC165_1 := Z0 hl165_1
        clear hi165_1 hl165_1
        replace p165 := eq_true p165
        replace q165 := eq_true q165
        go_wp2_with (first | ((with_reducible refine Y3 (f := 64) rfl ?_); refine goesL_ (some 40) rfl rfl Tryz.func64 (by kernel_rfl) rfl #[.slice A165_1 ((rd_T46 l0_2 x5_2).f1).length c165_1] rfl V1 ?_; (with_reducible refine (cabinetryref03_WeightOf.calls k2 _ _ ((rd_T46 l0_2 x5_2).f1) t166 _ ?side1 ?side2 A10.out).mono ?_); (case side1 => repeat (first | exact (Kd.C_below HR165_1.out HB.out) | (with_reducible refine Kd.C_alloc ?_ _) | (with_reducible refine Kd.C_drewN ?_ _) | (with_reducible refine Kd.C_drew ?_))); (case side2 => exact HC165_1.out); rintro e w' ⟨rfl, ⟨nd, rfl⟩⟩; refine ⟨_, rfl, ?_⟩))
        go_roundg k2
        case measure => have := HK1.out; have := HK2.out; omega
        case rel => exact ⟨(wrap64 (x3_2 + (wrap64 (8 + t166)))), (wrap64 (x5_2 + 1)), V2, V2, H', ⟨by have := HK1.out; have := HK2.out; omega⟩, ⟨by (with_reducible repeat (first | refine Z8 ?_ _ | refine Y1 ?_ | refine Z9 ?_ _)); exact BK163.out⟩, ⟨V0⟩⟩
       ·rw [if_neg c9] at H
        exact absurd H (by simp)
      ·rw [if_neg c8] at H
       have c8b0 : decide (x5_2 < (l0_2.length : Int)) = false := decide_eq_false c8
       clear c8
       obtain rfl := Option.some.inj H
       have hcz12_0 : wr.cell? ⟨gb163, 0, none⟩ = some (.int .i64 a0_0) := (Z2 BK163.out 0).trans rfl
       have hcz12_1 : wr.cell? ⟨gb163, 1, none⟩ = some (.slice A0_1 l0_1.length c0_1) := (Z2 BK163.out 1).trans rfl
       have hcz12_2 : wr.cell? ⟨gb163, 2, none⟩ = some (.slice A0_2 l0_2.length c0_2) := (Z2 BK163.out 2).trans rfl
       have hfz12_0 := Z1 BK163.out 0
       have hfz12_1 := Z1 BK163.out 1
       have hfz12_2 := Z1 BK163.out 2
       go_wp2
       go_ret
       exact ⟨rfl, V0⟩
end Go.Proofs.YtldpdidlfbphcaaGreatDoor.P
end
section
namespace Go.Proofs.YtldpdidlfbphcaaGreatDoor.P
open Go.RowKit Go.Proofs.YtldpdidlfbphcaaGreatDoorW.PrintWords Go.Proofs.YtldpdidlfbphcaaGreatDoorW.PrintLast Go.Proofs.YtldpdidlfbphcaaGreatDoorW.PrintMore
theorem rd_drop {l : List S23} {i : Nat} {x : S23} {r : List S23} (h : l.drop i = x :: r) : i < l.length ∧ rd_T23 l (i : Int) = x ∧ l.drop (i + 1) = r ∧ l.take (i + 1) = l.take i ++ [x] := by
 have hl : i < l.length := by
  rcases Nat.lt_or_ge i l.length with h1 | h1
  ·exact h1
  ·rw [List.drop_eq_nil_of_le h1] at h; cases h
 have e := List.drop_eq_getElem_cons hl
 rw [h] at e
 injection e with e1 e2
 refine ⟨hl, ?_, e2.symm, ?_⟩
 ·unfold rd_T23
  rw [Int.toNat_natCast, List.getD_eq_getElem?_getD, List.getElem?_eq_getElem hl, Option.getD_some, e1]
 ·rw [e1]; exact List.take_succ_eq_append_getElem hl
theorem rd_end {α : Type} {l : List α} {i : Nat} (h : l.drop i = []) : ¬ (i : Int) < (l.length : Int) := by
 have := List.drop_eq_nil_iff.1 h
 omega
theorem wrapL {i n : Nat} (h : i < n) (hn : n ≤ 1048576) : wrap64 ((i : Int) + 1) = ((i + 1 : Nat) : Int) := by
 unfold wrap64
 omega
def smallF (l : List S23) : Prop := l.length ≤ 1048576 ∧ ∀ x ∈ l, x.f0.size ≤ 1048576
theorem ref_nulls_go (l : List S23) (hL : l.length ≤ 1048576) : ∀ (r : List S23) (i k acc : Nat), l.drop i = r → r.length < k → acc ≤ i → i ≤ l.length → cabinetryref03_nulls.l0 k l (acc : Int) (i : Int) = some (((acc + nullsN r + 7) / 8 : Nat) : Int)
 | [], i, k, acc, hd, hk, ha, hi => by
  obtain ⟨m, rfl⟩ : ∃ m, k = m + 1 := ⟨k - 1, by simp at hk; omega⟩
  simp only [cabinetryref03_nulls.l0]
  rw [if_neg (rd_end hd)]
  have e : wrap64 ((acc : Int) + 7) = ((acc + 7 : Nat) : Int) := by unfold wrap64; omega
  have e2 : Int.tdiv ((acc + 7 : Nat) : Int) 8 = (((acc + 7) / 8 : Nat) : Int) := rfl
  rw [e, e2]
  refine congrArg some ?_
  unfold nullsN wrap64
  omega
 | x :: r, i, k, acc, hd, hk, ha, hi => by
  obtain ⟨m, rfl⟩ : ∃ m, k = m + 1 := ⟨k - 1, by simp at hk; omega⟩
  obtain ⟨hlt, hx, hr, _⟩ := rd_drop hd
  simp only [cabinetryref03_nulls.l0]
  have e2 : wrap64 ((acc : Int) + 1) = ((acc + 1 : Nat) : Int) := by unfold wrap64; omega
  rw [if_pos (by omega), if_pos (by omega), hx, wrapL hlt hL, e2]
  show _ = some (((acc + ((if x.f3 = true then 1 else 0) + nullsN r) + 7) / 8 : Nat) : Int)
  split
  ·rw [ref_nulls_go l hL r (i + 1) m (acc + 1) hr (by simp at hk; omega) (by omega) (by omega), Nat.add_assoc acc 1]
  ·rw [ref_nulls_go l hL r (i + 1) m acc hr (by simp at hk; omega) (by omega) (by omega), Nat.zero_add]
theorem ref_nulls_is (l : List S23) (hL : l.length ≤ 1048576) (k : Nat) (hk : l.length < k) : cabinetryref03_nulls.f k l = some (((nullsN l + 7) / 8 : Nat) : Int) := by
 have := ref_nulls_go l hL l 0 k 0 List.drop_zero hk (Nat.le_refl _) (Nat.zero_le _)
 rw [Nat.zero_add] at this
 exact this
theorem ref_wide_go (l : List S23) (hL : l.length ≤ 1048576) (hf : l.all fS = true) : ∀ (r : List S23) (i k : Nat) (acc : Int), l.drop i = r → r.length < k → 0 ≤ acc → acc ≤ 1000000000 + 254 * i → cabinetryref03_Wide.l0 k l acc (i : Int) = some (acc + wideN r)
 | [], i, k, acc, hd, hk, ha, hb => by
  obtain ⟨m, rfl⟩ : ∃ m, k = m + 1 := ⟨k - 1, by simp at hk; omega⟩
  simp only [cabinetryref03_Wide.l0]
  rw [if_neg (rd_end hd)]
  refine congrArg some ?_
  unfold wideN
  omega
 | x :: r, i, k, acc, hd, hk, ha, hb => by
  obtain ⟨m, rfl⟩ : ∃ m, k = m + 1 := ⟨k - 1, by simp at hk; omega⟩
  obtain ⟨hlt, hx, hr, _⟩ := rd_drop hd
  have hm : x ∈ l := by rw [← List.take_append_drop i l, hd]; simp
  have hw := fS_width (List.all_eq_true.1 hf _ hm)
  simp only [cabinetryref03_Wide.l0]
  have e2 : wrap64 (acc + x.f2) = acc + x.f2 := by unfold wrap64; omega
  rw [if_pos (by omega), if_pos (by omega), hx, wrapL hlt hL, e2, ref_wide_go l hL hf r (i + 1) m (acc + x.f2) hr (by simp at hk; omega) (by omega) (by omega)]
  refine congrArg some ?_
  show _ = acc + (x.f2 + wideN r)
  omega
theorem ref_wide_is (l : List S23) (hL : l.length ≤ 1048576) (hf : l.all fS = true) (k : Nat) (hk : l.length < k) : cabinetryref03_Wide.f k l = some (lenS l) := by
 unfold cabinetryref03_Wide.f lenS
 have hn := nullsN_le l
 rw [ref_nulls_is l hL k hk, Option.bind_some]
 have e : wrap64 (1 + (((nullsN l + 7) / 8 : Nat) : Int)) = 1 + (((nullsN l + 7) / 8 : Nat) : Int) := by unfold wrap64; omega
 rw [e]
 exact ref_wide_go l hL hf l 0 k _ List.drop_zero hk (by omega) (by omega)
theorem name_eq (a b : ByteArray) : (a.toList = b.toList) ↔ (a == b) = true := by
 rw [ba_toList, ba_toList, show (a == b) = (a.data == b.data) from rfl, beq_iff_eq]
 exact ⟨fun h => Array.ext' h, fun h => by rw [h]⟩
theorem has_snoc (l : List S23) (x : S23) (s : ByteArray) : hasName (l ++ [x]) s = (hasName l s || (s == x.f0)) := by
 unfold hasName
 rw [List.any_append]
 simp
def vfEnd (l : List S23) : Int := if l.length > 16 then 3 else if lenS l > 2000 then 3 else 0
theorem vf_l12 (l : List S23) (hL : l.length ≤ 1048576) (hf : l.all fS = true) (K : Nat) (hK : l.length + 2 < K) : ∀ (r : List S23) (i k : Nat), l.drop i = r → K + (l.length + 2) * r.length < k → cabinetryref03_ValidateFields.l1 k l (i : Int) = some (if dupA (l.take i) r = true then 5 else vfEnd l)
 | [], i, k, hd, hk => by
  obtain ⟨m, rfl⟩ : ∃ m, k = m + 1 := ⟨k - 1, by omega⟩
  simp only [cabinetryref03_ValidateFields.l1]
  rw [if_neg (rd_end hd), show dupA (l.take i) [] = false from rfl, if_neg (show ¬ false = true by decide)]
  unfold vfEnd
  simp only [List.length_nil, Nat.mul_zero] at hk
  by_cases h : l.length > 16
  ·rw [if_pos (by omega), if_pos h]
  ·rw [if_neg (by omega), if_neg h, ref_wide_is l hL hf m (by omega)]
   simp only [Option.bind_some]
   split <;> rfl
 | x :: r, i, k, hd, hk => by
  obtain ⟨m, rfl⟩ : ∃ m, k = m + 1 := ⟨k - 1, by omega⟩
  obtain ⟨hlt, hx, hr, ht⟩ := rd_drop hd
  rw [List.length_cons, Nat.mul_succ] at hk
  simp only [cabinetryref03_ValidateFields.l1]
  rw [if_pos (by omega)]
  have inner : ∀ (n j q : Nat), j + n = i → n + 1 + K + (l.length + 2) * r.length < q + 1 → hasName (l.take j) x.f0 = false → cabinetryref03_ValidateFields.l2 (q + 1) l (i : Int) (j : Int) = some (if dupA (l.take i) (x :: r) = true then 5 else vfEnd l) := by
   intro n
   induction n with
   | zero =>
    intro j q hj hq hn
    obtain rfl : j = i := by omega
    simp only [cabinetryref03_ValidateFields.l2]
    rw [if_neg (by omega), wrapL hlt hL, vf_l12 l hL hf K hK r (j + 1) q hr (by omega), ht]
    show _ = some (if (hasName (l.take j) x.f0 || dupA (l.take j ++ [x]) r) = true then 5 else vfEnd l)
    rw [hn, Bool.false_or]
   | succ n ih =>
    intro j q hj hq hn
    have hjl : j < l.length := by omega
    have hdj := List.drop_eq_getElem_cons hjl
    obtain ⟨_, hy, _, hty⟩ := rd_drop hdj
    simp only [cabinetryref03_ValidateFields.l2]
    rw [if_pos (by omega), if_pos (by omega), if_pos (by omega), if_pos (by omega), if_pos (by omega), hx, hy]
    by_cases he : x.f0.toList = (l[j]).f0.toList
    ·rw [if_pos he]
     have hb := (name_eq _ _).1 he
     have hin : hasName (l.take i) x.f0 = true := by
      unfold hasName
      rw [List.any_eq_true]
      refine ⟨l[j], ?_, hb⟩
      rw [List.mem_take_iff_getElem]
      exact ⟨j, by omega, rfl⟩
     show _ = some (if (hasName (l.take i) x.f0 || dupA (l.take i ++ [x]) r) = true then 5 else vfEnd l)
     rw [hin]
     rfl
    ·rw [if_neg he, wrapL hjl hL]
     obtain ⟨q', rfl⟩ : ∃ q', q = q' + 1 := ⟨q - 1, by omega⟩
     refine ih (j + 1) q' (by omega) (by omega) ?_
     rw [hty, has_snoc, hn, Bool.false_or]
     cases hb : (x.f0 == (l[j]).f0)
     ·rfl
     ·exact absurd ((name_eq _ _).2 hb) he
  obtain ⟨q, rfl⟩ : ∃ q, m = q + 1 := ⟨m - 1, by omega⟩
  exact inner i 0 q (by omega) (by omega) (by rw [List.take_zero]; rfl)
theorem vf_l0 (l : List S23) (h : smallF l) (hK : Nat) : ∀ (r : List S23) (i k : Nat), l.drop i = r → r.length + 1048580 < k → (r.all fS = false → cabinetryref03_ValidateFields.l0 k l (i : Int) = some 1) ∧ (r.all fS = true → ∃ m, m + r.length + 1 = k ∧ cabinetryref03_ValidateFields.l0 k l (i : Int) = cabinetryref03_ValidateFields.l1 m l 0)
 | [], i, k, hd, hk => by
  obtain ⟨m, rfl⟩ : ∃ m, k = m + 1 := ⟨k - 1, by omega⟩
  refine ⟨fun h => by simp at h, fun _ => ⟨m, rfl, ?_⟩⟩
  simp only [cabinetryref03_ValidateFields.l0]
  rw [if_neg (rd_end hd)]
 | x :: r, i, k, hd, hk => by
  obtain ⟨m, rfl⟩ : ∃ m, k = m + 1 := ⟨k - 1, by omega⟩
  obtain ⟨hlt, hx, hr, _⟩ := rd_drop hd
  have hm : x ∈ l := by rw [← List.take_append_drop i l, hd]; simp
  have hs := h.2 x hm
  simp only [List.length_cons] at hk
  have ih := vf_l0 l h hK r (i + 1) m hr (by omega)
  have e : cabinetryref03_ValidateFields.l0 (m + 1) l (i : Int) = if fS x = true then cabinetryref03_ValidateFields.l0 m l ((i + 1 : Nat) : Int) else some 1 := by
   conv => lhs; rw [cabinetryref03_ValidateFields.l0]
   rw [if_pos (by omega), if_pos (by omega), hx, refField_is x.f0 x.f1 x.f2 x.f3 m (by omega), wrapL hlt h.1]
   rfl
  rw [e, List.all_cons]
  by_cases hfx : fS x = true
  ·rw [hfx, if_pos rfl, Bool.true_and]
   refine ⟨ih.1, fun ha => ?_⟩
   obtain ⟨q, hq, he⟩ := ih.2 ha
   exact ⟨q, by simp; omega, he⟩
  ·have hfx' : fS x = false := by simpa using hfx
   rw [hfx', if_neg (by decide)]
   exact ⟨fun _ => rfl, fun ha => by simp at ha⟩
theorem refVF_is (l : List S23) (h : smallF l) : ∃ K, ∀ k, K ≤ k → cabinetryref03_ValidateFields.f k l = some (vfS l) := by
 refine ⟨l.length + 1048590 + (l.length + 3 + (l.length + 2) * l.length), fun k hk => ?_⟩
 unfold cabinetryref03_ValidateFields.f vfS
 by_cases h0 : l.length = 0
 ·rw [if_pos (by omega), if_pos h0]
 ·rw [if_neg (by omega), if_neg h0]
  have a := vf_l0 l h 0 l 0 k List.drop_zero (by omega)
  cases ha : l.all fS
  ·rw [if_pos rfl]
   exact a.1 ha
  ·rw [if_neg (by decide)]
   obtain ⟨m, hm, e⟩ := a.2 ha
   have b := vf_l12 l h.1 ha (l.length + 3) (by omega) l 0 m List.drop_zero (by omega)
   refine e.trans (b.trans ?_)
   rw [List.take_zero]
   unfold vfEnd
   rfl
theorem weightOf_some (l : List S25) (hL : l.length ≤ 1048576) : ∀ (n i k : Nat) (acc : Int), i + n = l.length → n < k → ∃ r, cabinetryref03_WeightOf.l0 k l acc (i : Int) = some r
 | 0, i, k, acc, h, hk => by
  obtain ⟨m, rfl⟩ : ∃ m, k = m + 1 := ⟨k - 1, by omega⟩
  simp only [cabinetryref03_WeightOf.l0]
  rw [if_neg (by omega)]
  exact ⟨_, rfl⟩
 | n + 1, i, k, acc, h, hk => by
  obtain ⟨m, rfl⟩ : ∃ m, k = m + 1 := ⟨k - 1, by omega⟩
  simp only [cabinetryref03_WeightOf.l0]
  rw [if_pos (by omega), if_pos (by omega), wrapL (show i < l.length by omega) hL]
  exact weightOf_some l hL n (i + 1) m _ (by omega) (by omega)
def smallR (l : List S46) : Prop := l.length ≤ 1048576 ∧ ∀ x ∈ l, x.f1.length ≤ 1048576
theorem weight1_some (pg : Int) (fs : List S23) (l : List S46) (hl : smallR l) : ∀ (n i k : Nat) (acc : Int), i + n = l.length → n + 1048577 < k → ∃ r, cabinetryref03_Weight.l1 k acc (i : Int) pg fs l = some r
 | 0, i, k, acc, h, hk => by
  obtain ⟨m, rfl⟩ : ∃ m, k = m + 1 := ⟨k - 1, by omega⟩
  simp only [cabinetryref03_Weight.l1]
  rw [if_neg (by omega)]
  exact ⟨_, rfl⟩
 | n + 1, i, k, acc, h, hk => by
  obtain ⟨m, rfl⟩ : ∃ m, k = m + 1 := ⟨k - 1, by omega⟩
  have hi : i < l.length := by omega
  have hx : rd_T46 l (i : Int) = l[i] := by
   unfold rd_T46
   rw [Int.toNat_natCast, List.getD_eq_getElem?_getD, List.getElem?_eq_getElem hi, Option.getD_some]
  have hs := hl.2 l[i] (List.getElem_mem _)
  obtain ⟨q, hq⟩ := weightOf_some (l[i]).f1 hs (l[i]).f1.length 0 m (wrap64 (8 * ((l[i]).f1.length : Int))) (by omega) (by omega)
  simp only [cabinetryref03_Weight.l1]
  rw [if_pos (by omega), if_pos (by omega), wrapL hi hl.1, hx]
  unfold cabinetryref03_WeightOf.f
  rw [show ((0 : Nat) : Int) = 0 from rfl] at hq
  rw [hq]
  exact weight1_some pg fs l hl n (i + 1) m _ (by omega) (by omega)
theorem weight0_some (pg : Int) (fs : List S23) (l : List S46) (hf : fs.length ≤ 1048576) (hl : smallR l) : ∀ (n i k : Nat) (acc : Int), i + n = fs.length → n + 1 + l.length + 1048577 < k → ∃ r, cabinetryref03_Weight.l0 k acc (i : Int) pg fs l = some r
 | 0, i, k, acc, h, hk => by
  obtain ⟨m, rfl⟩ : ∃ m, k = m + 1 := ⟨k - 1, by omega⟩
  simp only [cabinetryref03_Weight.l0]
  rw [if_neg (by omega)]
  exact weight1_some pg fs l hl l.length 0 m acc (by omega) (by omega)
 | n + 1, i, k, acc, h, hk => by
  obtain ⟨m, rfl⟩ : ∃ m, k = m + 1 := ⟨k - 1, by omega⟩
  simp only [cabinetryref03_Weight.l0]
  rw [if_pos (by omega), if_pos (by omega), wrapL (show i < fs.length by omega) hf]
  exact weight0_some pg fs l hf hl n (i + 1) m _ (by omega) (by omega)
theorem weight_some (pg : Int) (fs : List S23) (l : List S46) (hf : fs.length ≤ 1048576) (hl : smallR l) (k : Nat) (hk : 3200000 < k) : ∃ r, cabinetryref03_Weight.f k pg fs l = some r :=
 weight0_some pg fs l hf hl fs.length 0 k _ (by omega) (by have := hl.1; omega)
end Go.Proofs.YtldpdidlfbphcaaGreatDoor.P
end
section
namespace Go.Proofs.YtldpdidlfbphcaaGreatDoor.R
theorem small_fields {xs : List P.S23} (h : (xs.map g23).sum ≤ 1048576) : P.smallF xs := by
 refine ⟨?_, fun x hx => ?_⟩
 ·have := sum_len g23 1 (fun x => by unfold g23; omega) xs
  omega
 ·have h1 := sum_mem g23 hx
  have h2 : g23 x = x.f0.size + 5 := rfl
  omega
theorem small_recs {ys : List P.S46} (h : (ys.map g46).sum ≤ 1048576) : P.smallR ys ∧ ∀ y ∈ ys, ∀ v ∈ y.f1, v.f2.size ≤ 1048576 := by
 refine ⟨⟨?_, fun y hy => ?_⟩, fun y hy v hv => ?_⟩
 ·have := sum_len g46 1 (fun x => by unfold g46; omega) ys
  omega
 ·have a := sum_mem g46 hy
  have b := sum_len g25 1 (fun x => by unfold g25; omega) y.f1
  have c : g46 y = (y.f1.map g25).sum + 3 := rfl
  omega
 ·have a := sum_mem g46 hy
  have b := sum_mem g25 hv
  have c : g46 y = (y.f1.map g25).sum + 3 := rfl
  have d : g25 v = v.f2.size + 4 := rfl
  omega
end Go.Proofs.YtldpdidlfbphcaaGreatDoor.R
end
section
namespace Go.Proofs.YtldpdidlfbphcaaGreatDoor.P
open Go.RowKit Go.Proofs.YtldpdidlfbphcaaGreatDoorW.PrintWords Go.Proofs.YtldpdidlfbphcaaGreatDoorW.PrintLast Go.Proofs.YtldpdidlfbphcaaGreatDoorW.PrintMore
theorem blanks_size (s : ByteArray) : (blanksOff s).size ≤ s.size := by
 unfold blanksOff
 rw [ba_size, ← data_length s]
 exact trimRightS_len _ _
theorem extract_all (s : ByteArray) (n : Nat) (h : s.size ≤ n) : s.extract 0 (min s.size n) = s := by
 rw [Nat.min_eq_left h]
 apply ByteArray.ext
 rw [ByteArray.data_extract]
 exact Array.extract_size
end Go.Proofs.YtldpdidlfbphcaaGreatDoor.P
end
section
namespace Go.Proofs.YtldpdidlfbphcaaGreatDoor.P
open Go.RowKit Go.Proofs.YtldpdidlfbphcaaGreatDoorW.PrintWords Go.Proofs.YtldpdidlfbphcaaGreatDoorW.PrintLast Go.Proofs.YtldpdidlfbphcaaGreatDoorW.PrintMore
attribute [local go_sem] max2_int min2_int max_two min_two max_three min_three max_four min_four
theorem eqA25 (d : Nat) (w : World) (x0 y0 : Int) (x1 y1 : Int) (x2 y2 : ByteArray) :
  (Op.equalIn (d + 2) 25 (.agg #[.int .i64 x0, .int .i64 x1, .string x2]) (.agg #[.int .i64 y0, .int .i64 y1, .string y2])).run Tryz.prog w = .ok (x0 == y0 && (x1 == y1 && (x2.toList == y2.toList))) w := by
 refine eqA_of Tryz.underlying25 (by kernel_rfl) ?_
 refine eqf_cons (by rfl) (by go_simp; rfl) (by go_simp; rfl) (by go_simp) ?_
 refine eqf_cons (by rfl) (by go_simp; rfl) (by go_simp; rfl) (by go_simp) ?_
 exact eqf_last (by rfl) (by go_simp; rfl) (by go_simp; rfl) (by go_simp)
end Go.Proofs.YtldpdidlfbphcaaGreatDoor.P
end
section
namespace Go.Proofs.YtldpdidlfbphcaaGreatDoor.P
open Go.RowKit Go.Proofs.YtldpdidlfbphcaaGreatDoorW.PrintWords Go.Proofs.YtldpdidlfbphcaaGreatDoorW.PrintLast Go.Proofs.YtldpdidlfbphcaaGreatDoorW.PrintMore
attribute [local go_sem] max2_int min2_int max_two min_two max_three min_three max_four min_four
attribute [local go_sem high] eqA25
def table_holds.f (k : Nat) (a0_0 : ByteArray) (a0_1 : Int) (a0_2 : Int) (a0_3 : Bool) (a1 : Int) (a2_0 : Int) (a2_1 : Int) (a2_2 : ByteArray) : Option (Bool) := if a2_0 = 0 then (if a0_3 = true then (some (a2_0 == 0 && (a2_1 == 0 && (a2_2.toList == ([] : List UInt8))))) else (some false)) else ((val_Validate.f k a2_0 a2_1 a2_2).bind fun t176 => (if t176 = 0 then ((table_Fit.f a0_0 a0_1 a0_2 a0_3 a1 a2_0 a2_1 a2_2).bind fun bt177 => (if bt177.2.2.2 = 0 then (some (bt177.1 == a2_0 && (bt177.2.1 == a2_1 && (bt177.2.2.1.toList == a2_2.toList)))) else (some false))) else (some false)))
theorem table_holds.mono : ∀ a0 a1 a2 a3 a4 a5 a6 a7 k, LeO (table_holds.f k a0 a1 a2 a3 a4 a5 a6 a7) (table_holds.f (k + 1) a0 a1 a2 a3 a4 a5 a6 a7) := by
 intro a0 a1 a2 a3 a4 a5 a6 a7 k
 unfold table_holds.f
 repeat' first
   | (with_reducible exact val_Validate.mono _ _ _ _)
   | (with_reducible exact LeO.refl _)
   | (with_reducible exact Y5 _)
   | (with_reducible refine Y7 ?_ ?_)
   | (with_reducible refine Y6 ?_ (fun _ => ?_))
   | exact val_Validate.mono _ _ _ _
   | exact Y5 _
   | refine Y7 ?_ ?_
   | refine Y6 ?_ (fun _ => ?_)
set_option maxHeartbeats 8000000 in
set_option maxRecDepth 100000 in
theorem table_holds.calls (k : Nat) (a0_0 : ByteArray) (a0_1 : Int) (a0_2 : Int) (a0_3 : Bool) (a1 : Int) (a2_0 : Int) (a2_1 : Int) (a2_2 : ByteArray) (r : Bool) (w : World) (h : table_holds.f k a0_0 a0_1 a0_2 a0_3 a1 a2_0 a2_1 a2_2 = some r) :
  Calls Tryz.prog 73 #[.agg #[.string a0_0, .int .i64 a0_1, .int .i64 a0_2, .bool a0_3], .int .i64 a1, .agg #[.int .i64 a2_0, .int .i64 a2_1, .string a2_2]] w fun e w' => e = .returned (.bool r) ∧ Below w.heap.size w w' := by
 have hu23 := Tryz.underlying23
 have hu25 := Tryz.underlying25
 have HB := Z0 (Below.refl w.heap.size w)
 have H : (if a2_0 = 0 then (if a0_3 = true then (some (a2_0 == 0 && (a2_1 == 0 && (a2_2.toList == ([] : List UInt8))))) else (some false)) else ((val_Validate.f k a2_0 a2_1 a2_2).bind fun t176 => (if t176 = 0 then ((table_Fit.f a0_0 a0_1 a0_2 a0_3 a1 a2_0 a2_1 a2_2).bind fun bt177 => (if bt177.2.2.2 = 0 then (some (bt177.1 == a2_0 && (bt177.2.1 == a2_1 && (bt177.2.2.1.toList == a2_2.toList)))) else (some false))) else (some false)))) = some r := h
 clear h
 by_cases c4 : a2_0 = 0
 ·rw [if_pos c4] at H
  have c4b0 : (a2_0 == 0) = true := beq_iff_eq.mpr c4
  have c4b1 : (a2_0 != 0) = false := bne_eq_false_iff_eq.mpr c4
  clear c4
  by_cases c5 : a0_3 = true
  ·subst c5
   have H1 : (some (a2_0 == 0 && (a2_1 == 0 && (a2_2.toList == ([] : List UInt8))))) = some r := by rw [if_pos rfl] at H; exact H
   clear H
   have H := H1
   clear H1
   obtain rfl := Option.some.inj H
   go_enter Tryz.func73, Tryz.ntmps73
   go_wp2_with (first | ((with_reducible refine Y4 (N := 3) rfl ?_); refine Y2 ?hg (N := 3) ?hd (cs := #[.string a0_0, .int .i64 a0_1, .int .i64 a0_2, .bool true]) (t := 23) ?hr ?_; (case hd => rfl); (case hg => rfl); (case hr => go_simp; try rfl); intro gb174 hg w6 hbox hb; have n0_ := Z0 (Z6 HB.out hb); have n1_ := Z0 (hbox); have n3_ := Z0 ((by rw [hg]; exact (Y0 HB.out) : w.heap.size ≤ gb174)); clear HB; have HB := n0_; have BK174 := n1_; have GE174 := n3_; clear n0_ n1_ n3_; clear hb hbox hg) | ((with_reducible refine Y4 (N := 5) rfl ?_); refine Y2 ?hg (N := 5) ?hd (cs := #[.int .i64 a2_0, .int .i64 a2_1, .string a2_2]) (t := 25) ?hr ?_; (case hd => rfl); (case hg => rfl); (case hr => go_simp; try rfl); intro gb175 hg w7 hbox hb; have n0_ := Z0 (Z7 (g := gb174) (o := .cells #[.string a0_0, .int .i64 a0_1, .int .i64 a0_2, .bool true] 23 (0, 0)) BK174.out hb); have n1_ := Z0 (Z6 HB.out hb); have n2_ := Z0 (hbox); have n4_ := Z0 ((by rw [hg]; exact (Y0 HB.out) : w.heap.size ≤ gb175)); have n5_ := Z0 ((by rw [hg]; exact Nat.ne_of_lt (blk_lt (g := gb174) (o := .cells #[.string a0_0, .int .i64 a0_1, .int .i64 a0_2, .bool true] 23 (0, 0)) BK174.out) : gb174 ≠ gb175)); have n6_ := Z0 ((by rw [hg]; exact Nat.ne_of_gt (blk_lt (g := gb174) (o := .cells #[.string a0_0, .int .i64 a0_1, .int .i64 a0_2, .bool true] 23 (0, 0)) BK174.out) : gb175 ≠ gb174)); clear BK174; clear HB; have BK174 := n0_; have HB := n1_; have BK175 := n2_; have GE175 := n4_; have NB174_175 := n5_; have NB175_174 := n6_; clear n0_ n1_ n2_ n4_ n5_ n6_; clear hb hbox hg; have hnb8 := NB175_174.out; have hnc8 := NB174_175.out; have hcz9_0 : w7.cell? ⟨gb175, 0, none⟩ = some (.int .i64 a2_0) := (Z2 BK175.out 0).trans rfl; have hcz9_1 : w7.cell? ⟨gb175, 1, none⟩ = some (.int .i64 a2_1) := (Z2 BK175.out 1).trans rfl; have hcz9_2 : w7.cell? ⟨gb175, 2, none⟩ = some (.string a2_2) := (Z2 BK175.out 2).trans rfl; have hfz9_0 := Z1 BK175.out 0; have hfz9_1 := Z1 BK175.out 1; have hfz9_2 := Z1 BK175.out 2; have hcz10_0 : w7.cell? ⟨gb174, 0, none⟩ = some (.string a0_0) := (Z2 BK174.out 0).trans rfl; have hcz10_1 : w7.cell? ⟨gb174, 1, none⟩ = some (.int .i64 a0_1) := (Z2 BK174.out 1).trans rfl; have hcz10_2 : w7.cell? ⟨gb174, 2, none⟩ = some (.int .i64 a0_2) := (Z2 BK174.out 2).trans rfl; have hcz10_3 : w7.cell? ⟨gb174, 3, none⟩ = some (.bool true) := (Z2 BK174.out 3).trans rfl; have hfz10_0 := Z1 BK174.out 0; have hfz10_1 := Z1 BK174.out 1; have hfz10_2 := Z1 BK174.out 2; have hfz10_3 := Z1 BK174.out 3))
   go_ret
   exact ⟨rfl, V0⟩
  ·replace c5 := Bool.eq_false_iff.mpr c5
   subst c5
   have H1 : (some false) = some r := by rw [if_neg (show ¬ (false = true) by decide)] at H; exact H
   clear H
   have H := H1
   clear H1
   obtain rfl := Option.some.inj H
   go_enter Tryz.func73, Tryz.ntmps73
   go_wp2_with (first | ((with_reducible refine Y4 (N := 3) rfl ?_); refine Y2 ?hg (N := 3) ?hd (cs := #[.string a0_0, .int .i64 a0_1, .int .i64 a0_2, .bool false]) (t := 23) ?hr ?_; (case hd => rfl); (case hg => rfl); (case hr => go_simp; try rfl); intro gb174 hg w11 hbox hb; have n0_ := Z0 (Z6 HB.out hb); have n1_ := Z0 (hbox); have n3_ := Z0 ((by rw [hg]; exact (Y0 HB.out) : w.heap.size ≤ gb174)); clear HB; have HB := n0_; have BK174 := n1_; have GE174 := n3_; clear n0_ n1_ n3_; clear hb hbox hg) | ((with_reducible refine Y4 (N := 5) rfl ?_); refine Y2 ?hg (N := 5) ?hd (cs := #[.int .i64 a2_0, .int .i64 a2_1, .string a2_2]) (t := 25) ?hr ?_; (case hd => rfl); (case hg => rfl); (case hr => go_simp; try rfl); intro gb175 hg w12 hbox hb; have n0_ := Z0 (Z7 (g := gb174) (o := .cells #[.string a0_0, .int .i64 a0_1, .int .i64 a0_2, .bool false] 23 (0, 0)) BK174.out hb); have n1_ := Z0 (Z6 HB.out hb); have n2_ := Z0 (hbox); have n4_ := Z0 ((by rw [hg]; exact (Y0 HB.out) : w.heap.size ≤ gb175)); have n5_ := Z0 ((by rw [hg]; exact Nat.ne_of_lt (blk_lt (g := gb174) (o := .cells #[.string a0_0, .int .i64 a0_1, .int .i64 a0_2, .bool false] 23 (0, 0)) BK174.out) : gb174 ≠ gb175)); have n6_ := Z0 ((by rw [hg]; exact Nat.ne_of_gt (blk_lt (g := gb174) (o := .cells #[.string a0_0, .int .i64 a0_1, .int .i64 a0_2, .bool false] 23 (0, 0)) BK174.out) : gb175 ≠ gb174)); clear BK174; clear HB; have BK174 := n0_; have HB := n1_; have BK175 := n2_; have GE175 := n4_; have NB174_175 := n5_; have NB175_174 := n6_; clear n0_ n1_ n2_ n4_ n5_ n6_; clear hb hbox hg; have hnb13 := NB175_174.out; have hnc13 := NB174_175.out; have hcz14_0 : w12.cell? ⟨gb175, 0, none⟩ = some (.int .i64 a2_0) := (Z2 BK175.out 0).trans rfl; have hcz14_1 : w12.cell? ⟨gb175, 1, none⟩ = some (.int .i64 a2_1) := (Z2 BK175.out 1).trans rfl; have hcz14_2 : w12.cell? ⟨gb175, 2, none⟩ = some (.string a2_2) := (Z2 BK175.out 2).trans rfl; have hfz14_0 := Z1 BK175.out 0; have hfz14_1 := Z1 BK175.out 1; have hfz14_2 := Z1 BK175.out 2; have hcz15_0 : w12.cell? ⟨gb174, 0, none⟩ = some (.string a0_0) := (Z2 BK174.out 0).trans rfl; have hcz15_1 : w12.cell? ⟨gb174, 1, none⟩ = some (.int .i64 a0_1) := (Z2 BK174.out 1).trans rfl; have hcz15_2 : w12.cell? ⟨gb174, 2, none⟩ = some (.int .i64 a0_2) := (Z2 BK174.out 2).trans rfl; have hcz15_3 : w12.cell? ⟨gb174, 3, none⟩ = some (.bool false) := (Z2 BK174.out 3).trans rfl; have hfz15_0 := Z1 BK174.out 0; have hfz15_1 := Z1 BK174.out 1; have hfz15_2 := Z1 BK174.out 2; have hfz15_3 := Z1 BK174.out 3))
   go_ret
   exact ⟨rfl, V0⟩
 ·rw [if_neg c4] at H
  have c4b0 : (a2_0 == 0) = false := beq_eq_false_iff_ne.mpr c4
  have c4b1 : (a2_0 != 0) = true := bne_iff_ne.mpr c4
  replace H := Option.bind_eq_some_iff.mp H
  obtain ⟨t176, A160, H⟩ := H
  replace H : (if t176 = 0 then ((table_Fit.f a0_0 a0_1 a0_2 a0_3 a1 a2_0 a2_1 a2_2).bind fun bt177 => (if bt177.2.2.2 = 0 then (some (bt177.1 == a2_0 && (bt177.2.1 == a2_1 && (bt177.2.2.1.toList == a2_2.toList)))) else (some false))) else (some false)) = some r := H
  have A16 := Z0 A160
  clear A160
  by_cases c17 : t176 = 0
  ·rw [if_pos c17] at H
   have c17b0 : (t176 == 0) = true := beq_iff_eq.mpr c17
   have c17b1 : (t176 != 0) = false := bne_eq_false_iff_eq.mpr c17
   clear c17
   replace H := Option.bind_eq_some_iff.mp H
   obtain ⟨⟨t177, t178, t179, t180⟩, A180, H⟩ := H
   replace H : (if t180 = 0 then (some (t177 == a2_0 && (t178 == a2_1 && (t179.toList == a2_2.toList)))) else (some false)) = some r := H
   have A18 := Z0 A180
   clear A180
   by_cases c19 : t180 = 0
   ·rw [if_pos c19] at H
    have c19b0 : (t180 == 0) = true := beq_iff_eq.mpr c19
    have c19b1 : (t180 != 0) = false := bne_eq_false_iff_eq.mpr c19
    clear c19
    obtain rfl := Option.some.inj H
    go_enter Tryz.func73, Tryz.ntmps73
    go_wp2_with (first | ((with_reducible refine Y4 (N := 3) rfl ?_); refine Y2 ?hg (N := 3) ?hd (cs := #[.string a0_0, .int .i64 a0_1, .int .i64 a0_2, .bool a0_3]) (t := 23) ?hr ?_; (case hd => rfl); (case hg => rfl); (case hr => go_simp; try rfl); intro gb174 hg w20 hbox hb; have n0_ := Z0 (Z6 HB.out hb); have n1_ := Z0 (hbox); have n3_ := Z0 ((by rw [hg]; exact (Y0 HB.out) : w.heap.size ≤ gb174)); clear HB; have HB := n0_; have BK174 := n1_; have GE174 := n3_; clear n0_ n1_ n3_; clear hb hbox hg) | ((with_reducible refine Y4 (N := 5) rfl ?_); refine Y2 ?hg (N := 5) ?hd (cs := #[.int .i64 a2_0, .int .i64 a2_1, .string a2_2]) (t := 25) ?hr ?_; (case hd => rfl); (case hg => rfl); (case hr => go_simp; try rfl); intro gb175 hg w21 hbox hb; have n0_ := Z0 (Z7 (g := gb174) (o := .cells #[.string a0_0, .int .i64 a0_1, .int .i64 a0_2, .bool a0_3] 23 (0, 0)) BK174.out hb); have n1_ := Z0 (Z6 HB.out hb); have n2_ := Z0 (hbox); have n4_ := Z0 ((by rw [hg]; exact (Y0 HB.out) : w.heap.size ≤ gb175)); have n5_ := Z0 ((by rw [hg]; exact Nat.ne_of_lt (blk_lt (g := gb174) (o := .cells #[.string a0_0, .int .i64 a0_1, .int .i64 a0_2, .bool a0_3] 23 (0, 0)) BK174.out) : gb174 ≠ gb175)); have n6_ := Z0 ((by rw [hg]; exact Nat.ne_of_gt (blk_lt (g := gb174) (o := .cells #[.string a0_0, .int .i64 a0_1, .int .i64 a0_2, .bool a0_3] 23 (0, 0)) BK174.out) : gb175 ≠ gb174)); clear BK174; clear HB; have BK174 := n0_; have HB := n1_; have BK175 := n2_; have GE175 := n4_; have NB174_175 := n5_; have NB175_174 := n6_; clear n0_ n1_ n2_ n4_ n5_ n6_; clear hb hbox hg; have hnb22 := NB175_174.out; have hnc22 := NB174_175.out; have hcz23_0 : w21.cell? ⟨gb175, 0, none⟩ = some (.int .i64 a2_0) := (Z2 BK175.out 0).trans rfl; have hcz23_1 : w21.cell? ⟨gb175, 1, none⟩ = some (.int .i64 a2_1) := (Z2 BK175.out 1).trans rfl; have hcz23_2 : w21.cell? ⟨gb175, 2, none⟩ = some (.string a2_2) := (Z2 BK175.out 2).trans rfl; have hfz23_0 := Z1 BK175.out 0; have hfz23_1 := Z1 BK175.out 1; have hfz23_2 := Z1 BK175.out 2) | ((with_reducible refine Y3 (f := 49) rfl ?_); refine goesL_ (some 20) rfl rfl Tryz.func49 (by kernel_rfl) rfl #[.agg #[.int .i64 a2_0, .int .i64 a2_1, .string a2_2]] rfl V1 ?_; (with_reducible refine (val_Validate.calls k a2_0 a2_1 a2_2 t176 _ A16.out).mono ?_); rintro e w24 ⟨rfl, hb⟩; refine ⟨_, rfl, ?_⟩; have n0_ := Z0 (Z7 (g := gb174) (o := .cells #[.string a0_0, .int .i64 a0_1, .int .i64 a0_2, .bool a0_3] 23 (0, 0)) BK174.out hb); have n1_ := Z0 (Z7 (g := gb175) (o := .cells #[.int .i64 a2_0, .int .i64 a2_1, .string a2_2] 25 (0, 0)) BK175.out hb); have n2_ := Z0 (Z6 HB.out hb); clear BK174; clear BK175; clear HB; have BK174 := n0_; have BK175 := n1_; have HB := n2_; clear n0_ n1_ n2_; (try clear hb); (try clear hb2); (try clear hk); (try clear hi); have hcz25_0 : w24.cell? ⟨gb174, 0, none⟩ = some (.string a0_0) := (Z2 BK174.out 0).trans rfl; have hcz25_1 : w24.cell? ⟨gb174, 1, none⟩ = some (.int .i64 a0_1) := (Z2 BK174.out 1).trans rfl; have hcz25_2 : w24.cell? ⟨gb174, 2, none⟩ = some (.int .i64 a0_2) := (Z2 BK174.out 2).trans rfl; have hcz25_3 : w24.cell? ⟨gb174, 3, none⟩ = some (.bool a0_3) := (Z2 BK174.out 3).trans rfl; have hfz25_0 := Z1 BK174.out 0; have hfz25_1 := Z1 BK174.out 1; have hfz25_2 := Z1 BK174.out 2; have hfz25_3 := Z1 BK174.out 3; have hcz26_0 : w24.cell? ⟨gb175, 0, none⟩ = some (.int .i64 a2_0) := (Z2 BK175.out 0).trans rfl; have hcz26_1 : w24.cell? ⟨gb175, 1, none⟩ = some (.int .i64 a2_1) := (Z2 BK175.out 1).trans rfl; have hcz26_2 : w24.cell? ⟨gb175, 2, none⟩ = some (.string a2_2) := (Z2 BK175.out 2).trans rfl; have hfz26_0 := Z1 BK175.out 0; have hfz26_1 := Z1 BK175.out 1; have hfz26_2 := Z1 BK175.out 2) | ((with_reducible refine Y3 (f := 13) rfl ?_); refine goesL_ (some 26) rfl rfl Tryz.func13 (by kernel_rfl) rfl #[.agg #[.string a0_0, .int .i64 a0_1, .int .i64 a0_2, .bool a0_3], .int .i64 a1, .agg #[.int .i64 a2_0, .int .i64 a2_1, .string a2_2]] rfl V1 ?_; (with_reducible refine (table_Fit.calls a0_0 a0_1 a0_2 a0_3 a1 a2_0 a2_1 a2_2 t177 t178 t179 t180 _ A18.out).mono ?_); rintro e w27 ⟨rfl, hb⟩; refine ⟨_, rfl, ?_⟩; have n0_ := Z0 (Z7 (g := gb174) (o := .cells #[.string a0_0, .int .i64 a0_1, .int .i64 a0_2, .bool a0_3] 23 (0, 0)) BK174.out hb); have n1_ := Z0 (Z7 (g := gb175) (o := .cells #[.int .i64 a2_0, .int .i64 a2_1, .string a2_2] 25 (0, 0)) BK175.out hb); have n2_ := Z0 (Z6 HB.out hb); clear BK174; clear BK175; clear HB; have BK174 := n0_; have BK175 := n1_; have HB := n2_; clear n0_ n1_ n2_; (try clear hb); (try clear hb2); (try clear hk); (try clear hi)) | ((with_reducible refine Y4 (N := 7) rfl ?_); refine Y2 ?hg (N := 7) ?hd (cs := #[.int .i64 0, .int .i64 0, .string (⟨#[]⟩ : ByteArray)]) (t := 25) ?hr ?_; (case hd => rfl); (case hg => rfl); (case hr => go_simp; try rfl); intro gb181 hg w28 hbox hb; have n0_ := Z0 (Z7 (g := gb174) (o := .cells #[.string a0_0, .int .i64 a0_1, .int .i64 a0_2, .bool a0_3] 23 (0, 0)) BK174.out hb); have n1_ := Z0 (Z7 (g := gb175) (o := .cells #[.int .i64 a2_0, .int .i64 a2_1, .string a2_2] 25 (0, 0)) BK175.out hb); have n2_ := Z0 (Z6 HB.out hb); have n3_ := Z0 (hbox); have n5_ := Z0 ((by rw [hg]; exact (Y0 HB.out) : w.heap.size ≤ gb181)); have n6_ := Z0 ((by rw [hg]; exact Nat.ne_of_lt (blk_lt (g := gb174) (o := .cells #[.string a0_0, .int .i64 a0_1, .int .i64 a0_2, .bool a0_3] 23 (0, 0)) BK174.out) : gb174 ≠ gb181)); have n7_ := Z0 ((by rw [hg]; exact Nat.ne_of_gt (blk_lt (g := gb174) (o := .cells #[.string a0_0, .int .i64 a0_1, .int .i64 a0_2, .bool a0_3] 23 (0, 0)) BK174.out) : gb181 ≠ gb174)); have n8_ := Z0 ((by rw [hg]; exact Nat.ne_of_lt (blk_lt (g := gb175) (o := .cells #[.int .i64 a2_0, .int .i64 a2_1, .string a2_2] 25 (0, 0)) BK175.out) : gb175 ≠ gb181)); have n9_ := Z0 ((by rw [hg]; exact Nat.ne_of_gt (blk_lt (g := gb175) (o := .cells #[.int .i64 a2_0, .int .i64 a2_1, .string a2_2] 25 (0, 0)) BK175.out) : gb181 ≠ gb175)); clear BK174; clear BK175; clear HB; have BK174 := n0_; have BK175 := n1_; have HB := n2_; have BK181 := n3_; have GE181 := n5_; have NB174_181 := n6_; have NB181_174 := n7_; have NB175_181 := n8_; have NB181_175 := n9_; clear n0_ n1_ n2_ n3_ n5_ n6_ n7_ n8_ n9_; clear hb hbox hg; have hnb29 := NB181_174.out; have hnc29 := NB174_181.out; have hnb30 := NB181_175.out; have hnc30 := NB175_181.out; have hcz31_0 : w28.cell? ⟨gb181, 0, none⟩ = some (.int .i64 0) := (Z2 BK181.out 0).trans rfl; have hcz31_1 : w28.cell? ⟨gb181, 1, none⟩ = some (.int .i64 0) := (Z2 BK181.out 1).trans rfl; have hcz31_2 : w28.cell? ⟨gb181, 2, none⟩ = some (.string (⟨#[]⟩ : ByteArray)) := (Z2 BK181.out 2).trans rfl; have hfz31_0 := Z1 BK181.out 0; have hfz31_1 := Z1 BK181.out 1; have hfz31_2 := Z1 BK181.out 2; have hcz32_0 : w28.cell? ⟨gb175, 0, none⟩ = some (.int .i64 a2_0) := (Z2 BK175.out 0).trans rfl; have hcz32_1 : w28.cell? ⟨gb175, 1, none⟩ = some (.int .i64 a2_1) := (Z2 BK175.out 1).trans rfl; have hcz32_2 : w28.cell? ⟨gb175, 2, none⟩ = some (.string a2_2) := (Z2 BK175.out 2).trans rfl; have hfz32_0 := Z1 BK175.out 0; have hfz32_1 := Z1 BK175.out 1; have hfz32_2 := Z1 BK175.out 2))
    go_ret
    exact ⟨rfl, V0⟩
   ·rw [if_neg c19] at H
    have c19b0 : (t180 == 0) = false := beq_eq_false_iff_ne.mpr c19
    have c19b1 : (t180 != 0) = true := bne_iff_ne.mpr c19
    obtain rfl := Option.some.inj H
    go_enter Tryz.func73, Tryz.ntmps73
    go_wp2_with (first | ((with_reducible refine Y4 (N := 3) rfl ?_); refine Y2 ?hg (N := 3) ?hd (cs := #[.string a0_0, .int .i64 a0_1, .int .i64 a0_2, .bool a0_3]) (t := 23) ?hr ?_; (case hd => rfl); (case hg => rfl); (case hr => go_simp; try rfl); intro gb174 hg w33 hbox hb; have n0_ := Z0 (Z6 HB.out hb); have n1_ := Z0 (hbox); have n3_ := Z0 ((by rw [hg]; exact (Y0 HB.out) : w.heap.size ≤ gb174)); clear HB; have HB := n0_; have BK174 := n1_; have GE174 := n3_; clear n0_ n1_ n3_; clear hb hbox hg) | ((with_reducible refine Y4 (N := 5) rfl ?_); refine Y2 ?hg (N := 5) ?hd (cs := #[.int .i64 a2_0, .int .i64 a2_1, .string a2_2]) (t := 25) ?hr ?_; (case hd => rfl); (case hg => rfl); (case hr => go_simp; try rfl); intro gb175 hg w34 hbox hb; have n0_ := Z0 (Z7 (g := gb174) (o := .cells #[.string a0_0, .int .i64 a0_1, .int .i64 a0_2, .bool a0_3] 23 (0, 0)) BK174.out hb); have n1_ := Z0 (Z6 HB.out hb); have n2_ := Z0 (hbox); have n4_ := Z0 ((by rw [hg]; exact (Y0 HB.out) : w.heap.size ≤ gb175)); have n5_ := Z0 ((by rw [hg]; exact Nat.ne_of_lt (blk_lt (g := gb174) (o := .cells #[.string a0_0, .int .i64 a0_1, .int .i64 a0_2, .bool a0_3] 23 (0, 0)) BK174.out) : gb174 ≠ gb175)); have n6_ := Z0 ((by rw [hg]; exact Nat.ne_of_gt (blk_lt (g := gb174) (o := .cells #[.string a0_0, .int .i64 a0_1, .int .i64 a0_2, .bool a0_3] 23 (0, 0)) BK174.out) : gb175 ≠ gb174)); clear BK174; clear HB; have BK174 := n0_; have HB := n1_; have BK175 := n2_; have GE175 := n4_; have NB174_175 := n5_; have NB175_174 := n6_; clear n0_ n1_ n2_ n4_ n5_ n6_; clear hb hbox hg; have hnb35 := NB175_174.out; have hnc35 := NB174_175.out; have hcz36_0 : w34.cell? ⟨gb175, 0, none⟩ = some (.int .i64 a2_0) := (Z2 BK175.out 0).trans rfl; have hcz36_1 : w34.cell? ⟨gb175, 1, none⟩ = some (.int .i64 a2_1) := (Z2 BK175.out 1).trans rfl; have hcz36_2 : w34.cell? ⟨gb175, 2, none⟩ = some (.string a2_2) := (Z2 BK175.out 2).trans rfl; have hfz36_0 := Z1 BK175.out 0; have hfz36_1 := Z1 BK175.out 1; have hfz36_2 := Z1 BK175.out 2) | ((with_reducible refine Y3 (f := 49) rfl ?_); refine goesL_ (some 20) rfl rfl Tryz.func49 (by kernel_rfl) rfl #[.agg #[.int .i64 a2_0, .int .i64 a2_1, .string a2_2]] rfl V1 ?_; (with_reducible refine (val_Validate.calls k a2_0 a2_1 a2_2 t176 _ A16.out).mono ?_); rintro e w37 ⟨rfl, hb⟩; refine ⟨_, rfl, ?_⟩; have n0_ := Z0 (Z7 (g := gb174) (o := .cells #[.string a0_0, .int .i64 a0_1, .int .i64 a0_2, .bool a0_3] 23 (0, 0)) BK174.out hb); have n1_ := Z0 (Z7 (g := gb175) (o := .cells #[.int .i64 a2_0, .int .i64 a2_1, .string a2_2] 25 (0, 0)) BK175.out hb); have n2_ := Z0 (Z6 HB.out hb); clear BK174; clear BK175; clear HB; have BK174 := n0_; have BK175 := n1_; have HB := n2_; clear n0_ n1_ n2_; (try clear hb); (try clear hb2); (try clear hk); (try clear hi); have hcz38_0 : w37.cell? ⟨gb174, 0, none⟩ = some (.string a0_0) := (Z2 BK174.out 0).trans rfl; have hcz38_1 : w37.cell? ⟨gb174, 1, none⟩ = some (.int .i64 a0_1) := (Z2 BK174.out 1).trans rfl; have hcz38_2 : w37.cell? ⟨gb174, 2, none⟩ = some (.int .i64 a0_2) := (Z2 BK174.out 2).trans rfl; have hcz38_3 : w37.cell? ⟨gb174, 3, none⟩ = some (.bool a0_3) := (Z2 BK174.out 3).trans rfl; have hfz38_0 := Z1 BK174.out 0; have hfz38_1 := Z1 BK174.out 1; have hfz38_2 := Z1 BK174.out 2; have hfz38_3 := Z1 BK174.out 3; have hcz39_0 : w37.cell? ⟨gb175, 0, none⟩ = some (.int .i64 a2_0) := (Z2 BK175.out 0).trans rfl; have hcz39_1 : w37.cell? ⟨gb175, 1, none⟩ = some (.int .i64 a2_1) := (Z2 BK175.out 1).trans rfl; have hcz39_2 : w37.cell? ⟨gb175, 2, none⟩ = some (.string a2_2) := (Z2 BK175.out 2).trans rfl; have hfz39_0 := Z1 BK175.out 0; have hfz39_1 := Z1 BK175.out 1; have hfz39_2 := Z1 BK175.out 2) | ((with_reducible refine Y3 (f := 13) rfl ?_); refine goesL_ (some 26) rfl rfl Tryz.func13 (by kernel_rfl) rfl #[.agg #[.string a0_0, .int .i64 a0_1, .int .i64 a0_2, .bool a0_3], .int .i64 a1, .agg #[.int .i64 a2_0, .int .i64 a2_1, .string a2_2]] rfl V1 ?_; (with_reducible refine (table_Fit.calls a0_0 a0_1 a0_2 a0_3 a1 a2_0 a2_1 a2_2 t177 t178 t179 t180 _ A18.out).mono ?_); rintro e w40 ⟨rfl, hb⟩; refine ⟨_, rfl, ?_⟩; have n0_ := Z0 (Z7 (g := gb174) (o := .cells #[.string a0_0, .int .i64 a0_1, .int .i64 a0_2, .bool a0_3] 23 (0, 0)) BK174.out hb); have n1_ := Z0 (Z7 (g := gb175) (o := .cells #[.int .i64 a2_0, .int .i64 a2_1, .string a2_2] 25 (0, 0)) BK175.out hb); have n2_ := Z0 (Z6 HB.out hb); clear BK174; clear BK175; clear HB; have BK174 := n0_; have BK175 := n1_; have HB := n2_; clear n0_ n1_ n2_; (try clear hb); (try clear hb2); (try clear hk); (try clear hi)) | ((with_reducible refine Y4 (N := 7) rfl ?_); refine Y2 ?hg (N := 7) ?hd (cs := #[.int .i64 0, .int .i64 0, .string (⟨#[]⟩ : ByteArray)]) (t := 25) ?hr ?_; (case hd => rfl); (case hg => rfl); (case hr => go_simp; try rfl); intro gb181 hg w41 hbox hb; have n0_ := Z0 (Z7 (g := gb174) (o := .cells #[.string a0_0, .int .i64 a0_1, .int .i64 a0_2, .bool a0_3] 23 (0, 0)) BK174.out hb); have n1_ := Z0 (Z7 (g := gb175) (o := .cells #[.int .i64 a2_0, .int .i64 a2_1, .string a2_2] 25 (0, 0)) BK175.out hb); have n2_ := Z0 (Z6 HB.out hb); have n3_ := Z0 (hbox); have n5_ := Z0 ((by rw [hg]; exact (Y0 HB.out) : w.heap.size ≤ gb181)); have n6_ := Z0 ((by rw [hg]; exact Nat.ne_of_lt (blk_lt (g := gb174) (o := .cells #[.string a0_0, .int .i64 a0_1, .int .i64 a0_2, .bool a0_3] 23 (0, 0)) BK174.out) : gb174 ≠ gb181)); have n7_ := Z0 ((by rw [hg]; exact Nat.ne_of_gt (blk_lt (g := gb174) (o := .cells #[.string a0_0, .int .i64 a0_1, .int .i64 a0_2, .bool a0_3] 23 (0, 0)) BK174.out) : gb181 ≠ gb174)); have n8_ := Z0 ((by rw [hg]; exact Nat.ne_of_lt (blk_lt (g := gb175) (o := .cells #[.int .i64 a2_0, .int .i64 a2_1, .string a2_2] 25 (0, 0)) BK175.out) : gb175 ≠ gb181)); have n9_ := Z0 ((by rw [hg]; exact Nat.ne_of_gt (blk_lt (g := gb175) (o := .cells #[.int .i64 a2_0, .int .i64 a2_1, .string a2_2] 25 (0, 0)) BK175.out) : gb181 ≠ gb175)); clear BK174; clear BK175; clear HB; have BK174 := n0_; have BK175 := n1_; have HB := n2_; have BK181 := n3_; have GE181 := n5_; have NB174_181 := n6_; have NB181_174 := n7_; have NB175_181 := n8_; have NB181_175 := n9_; clear n0_ n1_ n2_ n3_ n5_ n6_ n7_ n8_ n9_; clear hb hbox hg; have hnb42 := NB181_174.out; have hnc42 := NB174_181.out; have hnb43 := NB181_175.out; have hnc43 := NB175_181.out; have hcz44_0 : w41.cell? ⟨gb181, 0, none⟩ = some (.int .i64 0) := (Z2 BK181.out 0).trans rfl; have hcz44_1 : w41.cell? ⟨gb181, 1, none⟩ = some (.int .i64 0) := (Z2 BK181.out 1).trans rfl; have hcz44_2 : w41.cell? ⟨gb181, 2, none⟩ = some (.string (⟨#[]⟩ : ByteArray)) := (Z2 BK181.out 2).trans rfl; have hfz44_0 := Z1 BK181.out 0; have hfz44_1 := Z1 BK181.out 1; have hfz44_2 := Z1 BK181.out 2))
    go_ret
    exact ⟨rfl, V0⟩
  ·rw [if_neg c17] at H
   have c17b0 : (t176 == 0) = false := beq_eq_false_iff_ne.mpr c17
   have c17b1 : (t176 != 0) = true := bne_iff_ne.mpr c17
   obtain rfl := Option.some.inj H
   go_enter Tryz.func73, Tryz.ntmps73
   go_wp2_with (first | ((with_reducible refine Y4 (N := 3) rfl ?_); refine Y2 ?hg (N := 3) ?hd (cs := #[.string a0_0, .int .i64 a0_1, .int .i64 a0_2, .bool a0_3]) (t := 23) ?hr ?_; (case hd => rfl); (case hg => rfl); (case hr => go_simp; try rfl); intro gb174 hg w45 hbox hb; have n0_ := Z0 (Z6 HB.out hb); have n1_ := Z0 (hbox); have n3_ := Z0 ((by rw [hg]; exact (Y0 HB.out) : w.heap.size ≤ gb174)); clear HB; have HB := n0_; have BK174 := n1_; have GE174 := n3_; clear n0_ n1_ n3_; clear hb hbox hg) | ((with_reducible refine Y4 (N := 5) rfl ?_); refine Y2 ?hg (N := 5) ?hd (cs := #[.int .i64 a2_0, .int .i64 a2_1, .string a2_2]) (t := 25) ?hr ?_; (case hd => rfl); (case hg => rfl); (case hr => go_simp; try rfl); intro gb175 hg w46 hbox hb; have n0_ := Z0 (Z7 (g := gb174) (o := .cells #[.string a0_0, .int .i64 a0_1, .int .i64 a0_2, .bool a0_3] 23 (0, 0)) BK174.out hb); have n1_ := Z0 (Z6 HB.out hb); have n2_ := Z0 (hbox); have n4_ := Z0 ((by rw [hg]; exact (Y0 HB.out) : w.heap.size ≤ gb175)); have n5_ := Z0 ((by rw [hg]; exact Nat.ne_of_lt (blk_lt (g := gb174) (o := .cells #[.string a0_0, .int .i64 a0_1, .int .i64 a0_2, .bool a0_3] 23 (0, 0)) BK174.out) : gb174 ≠ gb175)); have n6_ := Z0 ((by rw [hg]; exact Nat.ne_of_gt (blk_lt (g := gb174) (o := .cells #[.string a0_0, .int .i64 a0_1, .int .i64 a0_2, .bool a0_3] 23 (0, 0)) BK174.out) : gb175 ≠ gb174)); clear BK174; clear HB; have BK174 := n0_; have HB := n1_; have BK175 := n2_; have GE175 := n4_; have NB174_175 := n5_; have NB175_174 := n6_; clear n0_ n1_ n2_ n4_ n5_ n6_; clear hb hbox hg; have hnb47 := NB175_174.out; have hnc47 := NB174_175.out; have hcz48_0 : w46.cell? ⟨gb175, 0, none⟩ = some (.int .i64 a2_0) := (Z2 BK175.out 0).trans rfl; have hcz48_1 : w46.cell? ⟨gb175, 1, none⟩ = some (.int .i64 a2_1) := (Z2 BK175.out 1).trans rfl; have hcz48_2 : w46.cell? ⟨gb175, 2, none⟩ = some (.string a2_2) := (Z2 BK175.out 2).trans rfl; have hfz48_0 := Z1 BK175.out 0; have hfz48_1 := Z1 BK175.out 1; have hfz48_2 := Z1 BK175.out 2) | ((with_reducible refine Y3 (f := 49) rfl ?_); refine goesL_ (some 20) rfl rfl Tryz.func49 (by kernel_rfl) rfl #[.agg #[.int .i64 a2_0, .int .i64 a2_1, .string a2_2]] rfl V1 ?_; (with_reducible refine (val_Validate.calls k a2_0 a2_1 a2_2 t176 _ A16.out).mono ?_); rintro e w49 ⟨rfl, hb⟩; refine ⟨_, rfl, ?_⟩; have n0_ := Z0 (Z7 (g := gb174) (o := .cells #[.string a0_0, .int .i64 a0_1, .int .i64 a0_2, .bool a0_3] 23 (0, 0)) BK174.out hb); have n1_ := Z0 (Z7 (g := gb175) (o := .cells #[.int .i64 a2_0, .int .i64 a2_1, .string a2_2] 25 (0, 0)) BK175.out hb); have n2_ := Z0 (Z6 HB.out hb); clear BK174; clear BK175; clear HB; have BK174 := n0_; have BK175 := n1_; have HB := n2_; clear n0_ n1_ n2_; (try clear hb); (try clear hb2); (try clear hk); (try clear hi)))
   go_ret
   exact ⟨rfl, V0⟩
end Go.Proofs.YtldpdidlfbphcaaGreatDoor.P
end
section
namespace Go.Proofs.YtldpdidlfbphcaaGreatDoor.P
open Go.RowKit Go.Proofs.YtldpdidlfbphcaaGreatDoorW.PrintWords Go.Proofs.YtldpdidlfbphcaaGreatDoorW.PrintLast Go.Proofs.YtldpdidlfbphcaaGreatDoorW.PrintMore
attribute [local go_sem] max2_int min2_int max_two min_two max_three min_three max_four min_four
mutual
def table_Validate.l0 : Nat → List (S46) → Int → Int → Int → List (S23) → List (S46) → Option (Int)
 | 0, _, _, _, _, _, _ => none
 | k + 1, x23, x24, x25, x183000, x183001, x183002 => if x25 < x24 then (if 0 ≤ x25 then (if x25 < (x23.length : Int) then (if (((rd_T46 x23 x25).f1).length : Int) = (x183001.length : Int) then (table_Validate.l1 k x23 x24 x25 x183001 (x183001.length : Int) 0 x183000 x183001 x183002 ((rd_T46 x23 x25).f0) ((rd_T46 x23 x25).f1)) else (some 10)) else (none)) else (none)) else (some 0)
def table_Validate.l1 : Nat → List (S46) → Int → Int → List (S23) → Int → Int → Int → List (S23) → List (S46) → Bool → List (S25) → Option (Int)
 | 0, _, _, _, _, _, _, _, _, _, _, _ => none
 | k + 1, x23, x24, x25, x37, x38, x39, x183000, x183001, x183002, x187000, x187001 => if x39 < x38 then (if 0 ≤ x39 then (if x39 < (x37.length : Int) then (if x39 < (x187001.length : Int) then ((table_holds.f k ((rd_T23 x37 x39).f0) ((rd_T23 x37 x39).f1) ((rd_T23 x37 x39).f2) ((rd_T23 x37 x39).f3) x183000 ((rd_T25 x187001 x39).f0) ((rd_T25 x187001 x39).f1) ((rd_T25 x187001 x39).f2)).bind fun t190 => (if t190 = true then (table_Validate.l1 k x23 x24 x25 x37 x38 (wrap64 (x39 + 1)) x183000 x183001 x183002 x187000 x187001) else (some 1))) else (none)) else (none)) else (none)) else (table_Validate.l0 k x23 x24 (wrap64 (x25 + 1)) x183000 x183001 x183002)
end
def table_Validate.f (k : Nat) (a0_0 : Int) (l0_1 : List (S23)) (l0_2 : List (S46)) : Option (Int) := (table_isPage.f a0_0).bind fun t183 => (if t183 = true then ((table_ValidateFields.f l0_1).bind fun t184 => (if t184 = 0 then (if (l0_2.length : Int) > 300 then (some 3) else (table_Validate.l0 k l0_2 (l0_2.length : Int) 0 a0_0 l0_1 l0_2)) else (some t184))) else (some 1))
theorem table_Validate.mono_l : ∀ k, (∀ y0 y1 y2 y3 y4 y5, LeO (table_Validate.l0 k y0 y1 y2 y3 y4 y5) (table_Validate.l0 (k + 1) y0 y1 y2 y3 y4 y5)) ∧ (∀ y0 y1 y2 y3 y4 y5 y6 y7 y8 y9 y10, LeO (table_Validate.l1 k y0 y1 y2 y3 y4 y5 y6 y7 y8 y9 y10) (table_Validate.l1 (k + 1) y0 y1 y2 y3 y4 y5 y6 y7 y8 y9 y10))
 | 0 => ⟨fun _ _ _ _ _ _ r h => by simp [table_Validate.l0] at h, fun _ _ _ _ _ _ _ _ _ _ _ r h => by simp [table_Validate.l1] at h⟩
 | k + 1 => by
  obtain ⟨ih0, ih1⟩ := table_Validate.mono_l k
  refine ⟨?_, ?_⟩
  ·intro y0 y1 y2 y3 y4 y5
   unfold table_Validate.l0
   repeat' first
   | (with_reducible exact ih0 _ _ _ _ _ _)
   | (with_reducible exact ih1 _ _ _ _ _ _ _ _ _ _ _)
   | (with_reducible exact table_holds.mono _ _ _ _ _ _ _ _ _)
   | (with_reducible exact LeO.refl _)
   | (with_reducible exact Y5 _)
   | (with_reducible refine Y7 ?_ ?_)
   | (with_reducible refine Y6 ?_ (fun _ => ?_))
   | exact ih0 _ _ _ _ _ _
   | exact ih1 _ _ _ _ _ _ _ _ _ _ _
   | exact table_holds.mono _ _ _ _ _ _ _ _ _
   | exact Y5 _
   | refine Y7 ?_ ?_
   | refine Y6 ?_ (fun _ => ?_)
  ·intro y0 y1 y2 y3 y4 y5 y6 y7 y8 y9 y10
   unfold table_Validate.l1
   repeat' first
   | (with_reducible exact ih0 _ _ _ _ _ _)
   | (with_reducible exact ih1 _ _ _ _ _ _ _ _ _ _ _)
   | (with_reducible exact table_holds.mono _ _ _ _ _ _ _ _ _)
   | (with_reducible exact LeO.refl _)
   | (with_reducible exact Y5 _)
   | (with_reducible refine Y7 ?_ ?_)
   | (with_reducible refine Y6 ?_ (fun _ => ?_))
   | exact ih0 _ _ _ _ _ _
   | exact ih1 _ _ _ _ _ _ _ _ _ _ _
   | exact table_holds.mono _ _ _ _ _ _ _ _ _
   | exact Y5 _
   | refine Y7 ?_ ?_
   | refine Y6 ?_ (fun _ => ?_)
theorem table_Validate.mono : ∀ a0 a1 a2 k, LeO (table_Validate.f k a0 a1 a2) (table_Validate.f (k + 1) a0 a1 a2) := by
 intro a0 a1 a2 k
 obtain ⟨ih0, ih1⟩ := table_Validate.mono_l k
 unfold table_Validate.f
 repeat' first
   | (with_reducible exact ih0 _ _ _ _ _ _)
   | (with_reducible exact ih1 _ _ _ _ _ _ _ _ _ _ _)
   | (with_reducible exact table_holds.mono _ _ _ _ _ _ _ _ _)
   | (with_reducible exact LeO.refl _)
   | (with_reducible exact Y5 _)
   | (with_reducible refine Y7 ?_ ?_)
   | (with_reducible refine Y6 ?_ (fun _ => ?_))
   | exact ih0 _ _ _ _ _ _
   | exact ih1 _ _ _ _ _ _ _ _ _ _ _
   | exact table_holds.mono _ _ _ _ _ _ _ _ _
   | exact Y5 _
   | refine Y7 ?_ ?_
   | refine Y6 ?_ (fun _ => ?_)
def table_Validate.T16 : Bool × List (List Nat × List Nat) := (true, [([], []), ([], []), ([1], [1]), ([], []), ([3], [3]), ([], []), ([4, 5], [4, 5]), ([6], [6]), ([0, 2, 7], [0, 2, 7]), ([8], [8])])
def table_Validate.B16 : List Nat := [0, 0, 2, 0, 8, 0, 56, 120, 255, 511]
theorem table_Validate.tab16 : rtab .any (opsOf Tryz.f34 16) = table_Validate.T16 := by kernel_rfl
theorem table_Validate.bits16 : waitsOk table_Validate.T16.2 table_Validate.B16 = true := by kernel_rfl
set_option maxHeartbeats 8000000 in
set_option maxRecDepth 100000 in
theorem table_Validate.calls (k : Nat) (a0_0 : Int) (A0_1 : Option Addr) (c0_1 : Nat) (l0_1 : List (S23)) (A0_2 : Option Addr) (c0_2 : Nat) (l0_2 : List (S46)) (r : Int) (w : World) (hr0_1 : Kd.C k23 w A0_1 l0_1.length l0_1) (hc0_1 : l0_1.length ≤ c0_1) (hr0_2 : Kd.C k46 w A0_2 l0_2.length l0_2) (hc0_2 : l0_2.length ≤ c0_2) (h : table_Validate.f k a0_0 l0_1 l0_2 = some r) :
  Calls Tryz.prog 34 #[.agg #[.int .i64 a0_0, .slice A0_1 l0_1.length c0_1, .slice A0_2 l0_2.length c0_2]] w fun e w' => e = .returned (.int .i64 r) ∧ Below w.heap.size w w' := by
 have hu35 := Tryz.underlying35
 have hu46 := Tryz.underlying46
 have hu23 := Tryz.underlying23
 have hu25 := Tryz.underlying25
 have HR0_1 := Z0 hr0_1
 have HC0_1 := Z0 hc0_1
 clear hr0_1 hc0_1
 have HR0_2 := Z0 hr0_2
 have HC0_2 := Z0 hc0_2
 clear hr0_2 hc0_2
 have HB := Z0 (Below.refl w.heap.size w)
 have H : ((table_isPage.f a0_0).bind fun t183 => (if t183 = true then ((table_ValidateFields.f l0_1).bind fun t184 => (if t184 = 0 then (if (l0_2.length : Int) > 300 then (some 3) else (table_Validate.l0 k l0_2 (l0_2.length : Int) 0 a0_0 l0_1 l0_2)) else (some t184))) else (some 1))) = some r := h
 clear h
 replace H := Option.bind_eq_some_iff.mp H
 obtain ⟨t183, A20, H⟩ := H
 replace H : (if t183 = true then ((table_ValidateFields.f l0_1).bind fun t184 => (if t184 = 0 then (if (l0_2.length : Int) > 300 then (some 3) else (table_Validate.l0 k l0_2 (l0_2.length : Int) 0 a0_0 l0_1 l0_2)) else (some t184))) else (some 1)) = some r := H
 have A2 := Z0 A20
 clear A20
 by_cases c3 : t183 = true
 ·subst c3
  have H1 : ((table_ValidateFields.f l0_1).bind fun t184 => (if t184 = 0 then (if (l0_2.length : Int) > 300 then (some 3) else (table_Validate.l0 k l0_2 (l0_2.length : Int) 0 a0_0 l0_1 l0_2)) else (some t184))) = some r := by rw [if_pos rfl] at H; exact H
  clear H
  have H := H1
  clear H1
  replace H := Option.bind_eq_some_iff.mp H
  obtain ⟨t184, A40, H⟩ := H
  replace H : (if t184 = 0 then (if (l0_2.length : Int) > 300 then (some 3) else (table_Validate.l0 k l0_2 (l0_2.length : Int) 0 a0_0 l0_1 l0_2)) else (some t184)) = some r := H
  have A4 := Z0 A40
  clear A40
  by_cases c5 : t184 = 0
  ·rw [if_pos c5] at H
   have c5b0 : (t184 == 0) = true := beq_iff_eq.mpr c5
   have c5b1 : (t184 != 0) = false := bne_eq_false_iff_eq.mpr c5
   clear c5
   by_cases c6 : (l0_2.length : Int) > 300
   ·rw [if_pos c6] at H
    have c6b0 : decide (300 < (l0_2.length : Int)) = true := decide_eq_true c6
    have c6b1 : decide (300 < l0_2.length) = true := decide_eq_true (by omega)
    clear c6
    obtain rfl := Option.some.inj H
    go_enter Tryz.func34, Tryz.ntmps34
    go_wp2_with (first | ((with_reducible refine Y4 (N := 1) rfl ?_); refine Y2 ?hg (N := 1) ?hd (cs := #[.int .i64 a0_0, .slice A0_1 l0_1.length c0_1, .slice A0_2 l0_2.length c0_2]) (t := 35) ?hr ?_; (case hd => rfl); (case hg => rfl); (case hr => go_simp; try rfl); intro gb182 hg w7 hbox hb; have n0_ := Z0 (Z6 V0 hb); have n1_ := Z0 (hbox); have n3_ := Z0 ((by rw [hg]; exact (Y0 V0) : w.heap.size ≤ gb182)); clear HB; have HB := n0_; have BK182 := n1_; have GE182 := n3_; clear n0_ n1_ n3_; clear hb hbox hg; have hcz8_0 : w7.cell? ⟨gb182, 0, none⟩ = some (.int .i64 a0_0) := (Z2 BK182.out 0).trans rfl; have hcz8_1 : w7.cell? ⟨gb182, 1, none⟩ = some (.slice A0_1 l0_1.length c0_1) := (Z2 BK182.out 1).trans rfl; have hcz8_2 : w7.cell? ⟨gb182, 2, none⟩ = some (.slice A0_2 l0_2.length c0_2) := (Z2 BK182.out 2).trans rfl; have hfz8_0 := Z1 BK182.out 0; have hfz8_1 := Z1 BK182.out 1; have hfz8_2 := Z1 BK182.out 2) | ((with_reducible refine Y3 (f := 48) rfl ?_); refine goesL_ (some 10) rfl rfl Tryz.func48 (by kernel_rfl) rfl #[.int .i64 a0_0] rfl V1 ?_; (with_reducible refine (table_isPage.calls a0_0 true _ A2.out).mono ?_); rintro e w' ⟨rfl, ⟨nd, rfl⟩⟩; refine ⟨_, rfl, ?_⟩) | ((with_reducible refine Y3 (f := 36) rfl ?_); refine goesL_ (some 14) rfl rfl Tryz.func36 (by kernel_rfl) rfl #[.slice A0_1 l0_1.length c0_1] rfl V1 ?_; (with_reducible refine (table_ValidateFields.calls _ _ l0_1 t184 _ ?side1 ?side2 A4.out).mono ?_); (case side1 => repeat (first | exact (Kd.C_below HR0_1.out V0) | (with_reducible refine Kd.C_alloc ?_ _) | (with_reducible refine Kd.C_drewN ?_ _) | (with_reducible refine Kd.C_drew ?_))); (case side2 => exact HC0_1.out); rintro e w9 ⟨rfl, hb⟩; refine ⟨_, rfl, ?_⟩; have n0_ := Z0 (Z7 (g := gb182) (o := .cells #[.int .i64 a0_0, .slice A0_1 l0_1.length c0_1, .slice A0_2 l0_2.length c0_2] 35 (0, 0)) (by (with_reducible repeat (first | refine Z8 ?_ _ | refine Y1 ?_ | refine Z9 ?_ _)); exact BK182.out) hb); have n1_ := Z0 (Z6 V0 hb); clear BK182; clear HB; have BK182 := n0_; have HB := n1_; clear n0_ n1_; (try clear hb); (try clear hb2); (try clear hk); (try clear hi); have hcz10_0 : w9.cell? ⟨gb182, 0, none⟩ = some (.int .i64 a0_0) := (Z2 BK182.out 0).trans rfl; have hcz10_1 : w9.cell? ⟨gb182, 1, none⟩ = some (.slice A0_1 l0_1.length c0_1) := (Z2 BK182.out 1).trans rfl; have hcz10_2 : w9.cell? ⟨gb182, 2, none⟩ = some (.slice A0_2 l0_2.length c0_2) := (Z2 BK182.out 2).trans rfl; have hfz10_0 := Z1 BK182.out 0; have hfz10_1 := Z1 BK182.out 1; have hfz10_2 := Z1 BK182.out 2))
    go_ret
    exact ⟨rfl, V0⟩
   ·rw [if_neg c6] at H
    have c6b0 : decide (300 < (l0_2.length : Int)) = false := decide_eq_false c6
    have c6b1 : decide (300 < l0_2.length) = false := decide_eq_false (by omega)
    clear c6
    have H' := Z0 H
    clear H
    go_enter Tryz.func34, Tryz.ntmps34
    go_wp2_with (first | ((with_reducible refine Y4 (N := 1) rfl ?_); refine Y2 ?hg (N := 1) ?hd (cs := #[.int .i64 a0_0, .slice A0_1 l0_1.length c0_1, .slice A0_2 l0_2.length c0_2]) (t := 35) ?hr ?_; (case hd => rfl); (case hg => rfl); (case hr => go_simp; try rfl); intro gb182 hg w11 hbox hb; have n0_ := Z0 (Z6 V0 hb); have n1_ := Z0 (hbox); have n3_ := Z0 ((by rw [hg]; exact (Y0 V0) : w.heap.size ≤ gb182)); clear HB; have HB := n0_; have BK182 := n1_; have GE182 := n3_; clear n0_ n1_ n3_; clear hb hbox hg; have hcz12_0 : w11.cell? ⟨gb182, 0, none⟩ = some (.int .i64 a0_0) := (Z2 BK182.out 0).trans rfl; have hcz12_1 : w11.cell? ⟨gb182, 1, none⟩ = some (.slice A0_1 l0_1.length c0_1) := (Z2 BK182.out 1).trans rfl; have hcz12_2 : w11.cell? ⟨gb182, 2, none⟩ = some (.slice A0_2 l0_2.length c0_2) := (Z2 BK182.out 2).trans rfl; have hfz12_0 := Z1 BK182.out 0; have hfz12_1 := Z1 BK182.out 1; have hfz12_2 := Z1 BK182.out 2) | ((with_reducible refine Y3 (f := 48) rfl ?_); refine goesL_ (some 10) rfl rfl Tryz.func48 (by kernel_rfl) rfl #[.int .i64 a0_0] rfl V1 ?_; (with_reducible refine (table_isPage.calls a0_0 true _ A2.out).mono ?_); rintro e w' ⟨rfl, ⟨nd, rfl⟩⟩; refine ⟨_, rfl, ?_⟩) | ((with_reducible refine Y3 (f := 36) rfl ?_); refine goesL_ (some 14) rfl rfl Tryz.func36 (by kernel_rfl) rfl #[.slice A0_1 l0_1.length c0_1] rfl V1 ?_; (with_reducible refine (table_ValidateFields.calls _ _ l0_1 t184 _ ?side1 ?side2 A4.out).mono ?_); (case side1 => repeat (first | exact (Kd.C_below HR0_1.out V0) | (with_reducible refine Kd.C_alloc ?_ _) | (with_reducible refine Kd.C_drewN ?_ _) | (with_reducible refine Kd.C_drew ?_))); (case side2 => exact HC0_1.out); rintro e w13 ⟨rfl, hb⟩; refine ⟨_, rfl, ?_⟩; have n0_ := Z0 (Z7 (g := gb182) (o := .cells #[.int .i64 a0_0, .slice A0_1 l0_1.length c0_1, .slice A0_2 l0_2.length c0_2] 35 (0, 0)) (by (with_reducible repeat (first | refine Z8 ?_ _ | refine Y1 ?_ | refine Z9 ?_ _)); exact BK182.out) hb); have n1_ := Z0 (Z6 V0 hb); clear BK182; clear HB; have BK182 := n0_; have HB := n1_; clear n0_ n1_; (try clear hb); (try clear hb2); (try clear hk); (try clear hi); have hcz14_0 : w13.cell? ⟨gb182, 0, none⟩ = some (.int .i64 a0_0) := (Z2 BK182.out 0).trans rfl; have hcz14_1 : w13.cell? ⟨gb182, 1, none⟩ = some (.slice A0_1 l0_1.length c0_1) := (Z2 BK182.out 1).trans rfl; have hcz14_2 : w13.cell? ⟨gb182, 2, none⟩ = some (.slice A0_2 l0_2.length c0_2) := (Z2 BK182.out 2).trans rfl; have hfz14_0 := Z1 BK182.out 0; have hfz14_1 := Z1 BK182.out 1; have hfz14_2 := Z1 BK182.out 2))
    go_loopg [25] k (fun kq v25 w' => ∃ (x25_1 : Int), v25 = .int .i64 x25_1 ∧ Aside0 (table_Validate.l0 kq l0_2 (l0_2.length : Int) x25_1 a0_0 l0_1 l0_2 = some r) ∧ Aside0 (kq ≤ k) ∧ Aside0 (w'.heap[gb182]? = some (.cells #[.int .i64 a0_0, (.slice A0_1 l0_1.length c0_1), (.slice A0_2 l0_2.length c0_2)] 35 (0, 0))) ∧ Aside0 (Below w.heap.size w w'))
    case atStart => exact ⟨(0), V2, H', ⟨Nat.le_refl _⟩, ⟨by (with_reducible repeat (first | refine Z8 ?_ _ | refine Y1 ?_ | refine Z9 ?_ _)); exact BK182.out⟩, ⟨V0⟩⟩
    case round =>
     clear H'
     (try clear p2);(try clear c3);(try clear c4);(try clear c5);(try clear c5b0);(try clear c5b1);(try clear c6);(try clear c6b0);(try clear c6b1);(try clear hcz10_0);(try clear hcz10_1);(try clear hcz10_2);(try clear hcz12_0);(try clear hcz12_1);(try clear hcz12_2);(try clear hcz14_0);(try clear hcz14_1);(try clear hcz14_2);(try clear hcz8_0);(try clear hcz8_1);(try clear hcz8_2);(try clear hfz10_0);(try clear hfz10_1);(try clear hfz10_2);(try clear hfz12_0);(try clear hfz12_1);(try clear hfz12_2);(try clear hfz14_0);(try clear hfz14_1);(try clear hfz14_2);(try clear hfz8_0);(try clear hfz8_1);(try clear hfz8_2)
     obtain ⟨x25_1, rfl, HA, HK1, BK182, HB⟩ := hrel
     cases gk with
     | zero => exact absurd HA.out (by simp [table_Validate.l0])
     | succ k1 =>
      have H := HA.out
      clear HA
      simp only [table_Validate.l0] at H
      by_cases c15 : x25_1 < (l0_2.length : Int)
      ·rw [if_pos c15] at H
       have c15b0 : decide (x25_1 < (l0_2.length : Int)) = true := decide_eq_true c15
       clear c15
       by_cases c16 : 0 ≤ x25_1
       ·rw [if_pos c16] at H
        have c16b0 : decide (0 ≤ x25_1) = true := decide_eq_true c16
        clear c16
        by_cases c17 : x25_1 < (l0_2.length : Int)
        ·rw [if_pos c17] at H
         have c17b0 : decide (x25_1 < (l0_2.length : Int)) = true := decide_eq_true c17
         clear c17
         by_cases c18 : (((rd_T46 l0_2 x25_1).f1).length : Int) = (l0_1.length : Int)
         ·rw [if_pos c18] at H
          have c18b0 : ((((rd_T46 l0_2 x25_1).f1).length : Int) == (l0_1.length : Int)) = true := beq_iff_eq.mpr c18
          have c18b1 : ((((rd_T46 l0_2 x25_1).f1).length : Int) != (l0_1.length : Int)) = false := bne_eq_false_iff_eq.mpr c18
          have c18b2 : (((rd_T46 l0_2 x25_1).f1).length == l0_1.length) = true := by first | simpa using c18 | (simp at c18 ⊢; omega)
          clear c18
          have H' := Z0 H
          clear H
          have p185 : 0 ≤ (x25_1 : Int) := of_decide_eq_true V3
          have q185 : x25_1 < (l0_2.length : Int) := of_decide_eq_true V3
          obtain ⟨ad185, A185_1, c185_1, e185, hx185_0, hx185_1, hl185_1, hi185_1⟩ := at_T46 HR0_2.out x25_1 p185 q185
          cases e185
          replace hx185_0 := (HB.out.cell (World.block_lt_of_cell? w _ hx185_0)).trans hx185_0
          replace hx185_1 := (HB.out.cell (World.block_lt_of_cell? w _ hx185_1)).trans hx185_1
          have HR185_1 := Z0 hi185_1
          have HC185_1 := Z0 hl185_1
          clear hi185_1 hl185_1
          replace p185 := eq_true p185
          replace q185 := eq_true q185
          go_wp2_with (first | ((with_reducible refine Y4 (N := 5) rfl ?_); refine Y2 ?hg (N := 5) ?hd (cs := #[.bool false, .slice none 0 0]) (t := 46) ?hr ?_; (case hd => rfl); (case hg => rfl); (case hr => go_simp; try rfl); intro gb186 hg w19 hbox hb; have n0_ := Z0 (Z7 (g := gb182) (o := .cells #[.int .i64 a0_0, .slice A0_1 l0_1.length c0_1, .slice (some ad185) l0_2.length c0_2] 35 (0, 0)) (by (with_reducible repeat (first | refine Z8 ?_ _ | refine Y1 ?_ | refine Z9 ?_ _)); exact BK182.out) hb); have n1_ := Z0 (Z6 V0 hb); have n2_ := Z0 (hbox); have n4_ := Z0 ((by rw [hg]; exact (Y0 V0) : w.heap.size ≤ gb186)); have n5_ := Z0 ((by rw [hg]; exact Nat.ne_of_lt (blk_lt (g := gb182) (o := .cells #[.int .i64 a0_0, .slice A0_1 l0_1.length c0_1, .slice (some ad185) l0_2.length c0_2] 35 (0, 0)) (by (with_reducible repeat (first | refine Z8 ?_ _ | refine Y1 ?_ | refine Z9 ?_ _)); exact BK182.out)) : gb182 ≠ gb186)); have n6_ := Z0 ((by rw [hg]; exact Nat.ne_of_gt (blk_lt (g := gb182) (o := .cells #[.int .i64 a0_0, .slice A0_1 l0_1.length c0_1, .slice (some ad185) l0_2.length c0_2] 35 (0, 0)) (by (with_reducible repeat (first | refine Z8 ?_ _ | refine Y1 ?_ | refine Z9 ?_ _)); exact BK182.out)) : gb186 ≠ gb182)); clear BK182; clear HB; have BK182 := n0_; have HB := n1_; have BK186 := n2_; have GE186 := n4_; have NB182_186 := n5_; have NB186_182 := n6_; clear n0_ n1_ n2_ n4_ n5_ n6_; clear hb hbox hg; have hnb20 := NB186_182.out; have hnc20 := NB182_186.out; have hcz21_0 : w19.cell? ⟨gb186, 0, none⟩ = some (.bool false) := (Z2 BK186.out 0).trans rfl; have hcz21_1 : w19.cell? ⟨gb186, 1, none⟩ = some (.slice none 0 0) := (Z2 BK186.out 1).trans rfl; have hfz21_0 := Z1 BK186.out 0; have hfz21_1 := Z1 BK186.out 1; have hcz22_0 : w19.cell? ⟨gb182, 0, none⟩ = some (.int .i64 a0_0) := (Z2 BK182.out 0).trans rfl; have hcz22_1 : w19.cell? ⟨gb182, 1, none⟩ = some (.slice A0_1 l0_1.length c0_1) := (Z2 BK182.out 1).trans rfl; have hcz22_2 : w19.cell? ⟨gb182, 2, none⟩ = some (.slice (some ad185) l0_2.length c0_2) := (Z2 BK182.out 2).trans rfl; have hfz22_0 := Z1 BK182.out 0; have hfz22_1 := Z1 BK182.out 1; have hfz22_2 := Z1 BK182.out 2))
          go_loopg [39] k1 (fun kq v39 w' => ∃ (x39_2 : Int), v39 = .int .i64 x39_2 ∧ Aside0 (table_Validate.l1 kq l0_2 (l0_2.length : Int) x25_1 l0_1 (l0_1.length : Int) x39_2 a0_0 l0_1 l0_2 ((rd_T46 l0_2 x25_1).f0) ((rd_T46 l0_2 x25_1).f1) = some r) ∧ Aside0 (kq ≤ k1) ∧ Aside0 (w'.heap[gb182]? = some (.cells #[.int .i64 a0_0, (.slice A0_1 l0_1.length c0_1), (.slice (some ad185) l0_2.length c0_2)] 35 (0, 0))) ∧ Aside0 (w'.heap[gb186]? = some (.cells #[.bool ((rd_T46 l0_2 x25_1).f0), (.slice A185_1 ((rd_T46 l0_2 x25_1).f1).length c185_1)] 46 (0, 0))) ∧ Aside0 (Below w.heap.size w w'))
          case atStart => exact ⟨(0), V2, H', ⟨Nat.le_refl _⟩, ⟨by (with_reducible repeat (first | refine Z8 ?_ _ | refine Y1 ?_ | refine Z9 ?_ _)); refine blk_far ?_ NB182_186.out _; (with_reducible repeat (first | refine Z8 ?_ _ | refine Y1 ?_ | refine Z9 ?_ _)); refine blk_far ?_ NB182_186.out _; (with_reducible repeat (first | refine Z8 ?_ _ | refine Y1 ?_ | refine Z9 ?_ _)); exact BK182.out⟩, ⟨by (with_reducible repeat (first | refine Z8 ?_ _ | refine Y1 ?_ | refine Z9 ?_ _)); refine blk_put (cs := #[.bool ((rd_T46 l0_2 x25_1).f0), .slice none 0 0]) ?_ 1 _ rfl; (with_reducible repeat (first | refine Z8 ?_ _ | refine Y1 ?_ | refine Z9 ?_ _)); refine blk_put (cs := #[.bool false, .slice none 0 0]) ?_ 0 _ rfl; (with_reducible repeat (first | refine Z8 ?_ _ | refine Y1 ?_ | refine Z9 ?_ _)); exact BK186.out⟩, ⟨V0⟩⟩
          case round =>
           clear H'
           (try clear c1);(try clear p1);(try clear q1);(try clear hx1);(try clear c2);(try clear p2);(try clear c3);(try clear c4);(try clear c5);(try clear c5b0);(try clear c5b1);(try clear c6);(try clear c6b0);(try clear c6b1);(try clear c15);(try clear c15b0);(try clear c16);(try clear c16b0);(try clear c17);(try clear c17b0);(try clear c18);(try clear c18b0);(try clear c18b1);(try clear c18b2);(try clear p18);(try clear q18);(try clear hx18);(try clear c20);(try clear hcz10_0);(try clear hcz10_1);(try clear hcz10_2);(try clear hcz12_0);(try clear hcz12_1);(try clear hcz12_2);(try clear hcz14_0);(try clear hcz14_1);(try clear hcz14_2);(try clear hcz21_0);(try clear hcz21_1);(try clear hcz22_0);(try clear hcz22_1);(try clear hcz22_2);(try clear hcz8_0);(try clear hcz8_1);(try clear hcz8_2);(try clear hfz10_0);(try clear hfz10_1);(try clear hfz10_2);(try clear hfz12_0);(try clear hfz12_1);(try clear hfz12_2);(try clear hfz14_0);(try clear hfz14_1);(try clear hfz14_2);(try clear hfz21_0);(try clear hfz21_1);(try clear hfz22_0);(try clear hfz22_1);(try clear hfz22_2);(try clear hfz8_0);(try clear hfz8_1);(try clear hfz8_2);(try clear hx185_0);(try clear hx185_1);(try clear p185);(try clear p2);(try clear q185)
           obtain ⟨x39_2, rfl, HA, HK2, BK182, BK186, HB⟩ := hrel
           cases gk with
           | zero => exact absurd HA.out (by simp [table_Validate.l1])
           | succ k2 =>
            have H := HA.out
            clear HA
            simp only [table_Validate.l1] at H
            by_cases c23 : x39_2 < (l0_1.length : Int)
            ·rw [if_pos c23] at H
             have c23b0 : decide (x39_2 < (l0_1.length : Int)) = true := decide_eq_true c23
             clear c23
             by_cases c24 : 0 ≤ x39_2
             ·rw [if_pos c24] at H
              have c24b0 : decide (0 ≤ x39_2) = true := decide_eq_true c24
              clear c24
              by_cases c25 : x39_2 < (l0_1.length : Int)
              ·rw [if_pos c25] at H
               have c25b0 : decide (x39_2 < (l0_1.length : Int)) = true := decide_eq_true c25
               clear c25
               by_cases c26 : x39_2 < (((rd_T46 l0_2 x25_1).f1).length : Int)
               ·rw [if_pos c26] at H
                have c26b0 : decide (x39_2 < (((rd_T46 l0_2 x25_1).f1).length : Int)) = true := decide_eq_true c26
                clear c26
                replace H := Option.bind_eq_some_iff.mp H
                obtain ⟨t190, A270, H⟩ := H
                replace H : (if t190 = true then (table_Validate.l1 k2 l0_2 (l0_2.length : Int) x25_1 l0_1 (l0_1.length : Int) (wrap64 (x39_2 + 1)) a0_0 l0_1 l0_2 ((rd_T46 l0_2 x25_1).f0) ((rd_T46 l0_2 x25_1).f1)) else (some 1)) = some r := H
                have A27 := Z0 A270
                clear A270
                by_cases c28 : t190 = true
                ·subst c28
                 have H1 : (table_Validate.l1 k2 l0_2 (l0_2.length : Int) x25_1 l0_1 (l0_1.length : Int) (wrap64 (x39_2 + 1)) a0_0 l0_1 l0_2 ((rd_T46 l0_2 x25_1).f0) ((rd_T46 l0_2 x25_1).f1)) = some r := by rw [if_pos rfl] at H; exact H
                 clear H
                 have H := H1
                 clear H1
                 have H' := Z0 H
                 clear H
                 have p187 : 0 ≤ (x39_2 : Int) := of_decide_eq_true V3
                 have q187 : x39_2 < (l0_1.length : Int) := of_decide_eq_true V3
                 obtain ⟨ad187, e187, hx187_0, hx187_1, hx187_2, hx187_3⟩ := at_T23 HR0_1.out x39_2 p187 q187
                 cases e187
                 replace hx187_0 := (HB.out.cell (World.block_lt_of_cell? w _ hx187_0)).trans hx187_0
                 replace hx187_1 := (HB.out.cell (World.block_lt_of_cell? w _ hx187_1)).trans hx187_1
                 replace hx187_2 := (HB.out.cell (World.block_lt_of_cell? w _ hx187_2)).trans hx187_2
                 replace hx187_3 := (HB.out.cell (World.block_lt_of_cell? w _ hx187_3)).trans hx187_3
                 replace p187 := eq_true p187
                 replace q187 := eq_true q187
                 try go_wp2_with (first | ((with_reducible refine Y4 (N := 7) rfl ?_); refine Y2 ?hg (N := 7) ?hd (cs := #[.string (⟨#[]⟩ : ByteArray), .int .i64 0, .int .i64 0, .bool false]) (t := 23) ?hr ?_; (case hd => rfl); (case hg => rfl); (case hr => go_simp; try rfl); intro gb188 hg w29 hbox hb; have n0_ := Z0 (Z7 (g := gb182) (o := .cells #[.int .i64 a0_0, .slice (some ad187) l0_1.length c0_1, .slice (some ad185) l0_2.length c0_2] 35 (0, 0)) (by (with_reducible repeat (first | refine Z8 ?_ _ | refine Y1 ?_ | refine Z9 ?_ _)); exact BK182.out) hb); have n1_ := Z0 (Z7 (g := gb186) (o := .cells #[.bool ((rd_T46 l0_2 x25_1).f0), .slice A185_1 ((rd_T46 l0_2 x25_1).f1).length c185_1] 46 (0, 0)) (by (with_reducible repeat (first | refine Z8 ?_ _ | refine Y1 ?_ | refine Z9 ?_ _)); exact BK186.out) hb); have n2_ := Z0 (Z6 V0 hb); have n3_ := Z0 (hbox); have n5_ := Z0 ((by rw [hg]; exact (Y0 V0) : w.heap.size ≤ gb188)); have n6_ := Z0 ((by rw [hg]; exact Nat.ne_of_lt (blk_lt (g := gb182) (o := .cells #[.int .i64 a0_0, .slice (some ad187) l0_1.length c0_1, .slice (some ad185) l0_2.length c0_2] 35 (0, 0)) (by (with_reducible repeat (first | refine Z8 ?_ _ | refine Y1 ?_ | refine Z9 ?_ _)); exact BK182.out)) : gb182 ≠ gb188)); have n7_ := Z0 ((by rw [hg]; exact Nat.ne_of_gt (blk_lt (g := gb182) (o := .cells #[.int .i64 a0_0, .slice (some ad187) l0_1.length c0_1, .slice (some ad185) l0_2.length c0_2] 35 (0, 0)) (by (with_reducible repeat (first | refine Z8 ?_ _ | refine Y1 ?_ | refine Z9 ?_ _)); exact BK182.out)) : gb188 ≠ gb182)); have n8_ := Z0 ((by rw [hg]; exact Nat.ne_of_lt (blk_lt (g := gb186) (o := .cells #[.bool ((rd_T46 l0_2 x25_1).f0), .slice A185_1 ((rd_T46 l0_2 x25_1).f1).length c185_1] 46 (0, 0)) (by (with_reducible repeat (first | refine Z8 ?_ _ | refine Y1 ?_ | refine Z9 ?_ _)); exact BK186.out)) : gb186 ≠ gb188)); have n9_ := Z0 ((by rw [hg]; exact Nat.ne_of_gt (blk_lt (g := gb186) (o := .cells #[.bool ((rd_T46 l0_2 x25_1).f0), .slice A185_1 ((rd_T46 l0_2 x25_1).f1).length c185_1] 46 (0, 0)) (by (with_reducible repeat (first | refine Z8 ?_ _ | refine Y1 ?_ | refine Z9 ?_ _)); exact BK186.out)) : gb188 ≠ gb186)); clear BK182; clear BK186; clear HB; have BK182 := n0_; have BK186 := n1_; have HB := n2_; have BK188 := n3_; have GE188 := n5_; have NB182_188 := n6_; have NB188_182 := n7_; have NB186_188 := n8_; have NB188_186 := n9_; clear n0_ n1_ n2_ n3_ n5_ n6_ n7_ n8_ n9_; clear hb hbox hg; have hnb30 := NB188_182.out; have hnc30 := NB182_188.out; have hnb31 := NB188_186.out; have hnc31 := NB186_188.out; have hcz32_0 : w29.cell? ⟨gb188, 0, none⟩ = some (.string (⟨#[]⟩ : ByteArray)) := (Z2 BK188.out 0).trans rfl; have hcz32_1 : w29.cell? ⟨gb188, 1, none⟩ = some (.int .i64 0) := (Z2 BK188.out 1).trans rfl; have hcz32_2 : w29.cell? ⟨gb188, 2, none⟩ = some (.int .i64 0) := (Z2 BK188.out 2).trans rfl; have hcz32_3 : w29.cell? ⟨gb188, 3, none⟩ = some (.bool false) := (Z2 BK188.out 3).trans rfl; have hfz32_0 := Z1 BK188.out 0; have hfz32_1 := Z1 BK188.out 1; have hfz32_2 := Z1 BK188.out 2; have hfz32_3 := Z1 BK188.out 3))
                 have n0_ : Aside0 (((((w29.setCell ⟨gb188, 0, none⟩ (.string ((rd_T23 l0_1 x39_2).f0))).setCell ⟨gb188, 1, none⟩ (.int .i64 ((rd_T23 l0_1 x39_2).f1))).setCell ⟨gb188, 2, none⟩ (.int .i64 ((rd_T23 l0_1 x39_2).f2))).setCell ⟨gb188, 3, none⟩ (.bool ((rd_T23 l0_1 x39_2).f3))).heap[gb182]? = some (.cells #[.int .i64 a0_0, .slice (some ad187) l0_1.length c0_1, .slice (some ad185) l0_2.length c0_2] 35 (0, 0))) := ⟨by (with_reducible repeat (first | refine Z8 ?_ _ | refine Y1 ?_ | refine Z9 ?_ _)); refine blk_far ?_ NB182_188.out _; (with_reducible repeat (first | refine Z8 ?_ _ | refine Y1 ?_ | refine Z9 ?_ _)); refine blk_far ?_ NB182_188.out _; (with_reducible repeat (first | refine Z8 ?_ _ | refine Y1 ?_ | refine Z9 ?_ _)); refine blk_far ?_ NB182_188.out _; (with_reducible repeat (first | refine Z8 ?_ _ | refine Y1 ?_ | refine Z9 ?_ _)); refine blk_far ?_ NB182_188.out _; (with_reducible repeat (first | refine Z8 ?_ _ | refine Y1 ?_ | refine Z9 ?_ _)); exact BK182.out⟩
                 have n1_ : Aside0 (((((w29.setCell ⟨gb188, 0, none⟩ (.string ((rd_T23 l0_1 x39_2).f0))).setCell ⟨gb188, 1, none⟩ (.int .i64 ((rd_T23 l0_1 x39_2).f1))).setCell ⟨gb188, 2, none⟩ (.int .i64 ((rd_T23 l0_1 x39_2).f2))).setCell ⟨gb188, 3, none⟩ (.bool ((rd_T23 l0_1 x39_2).f3))).heap[gb186]? = some (.cells #[.bool ((rd_T46 l0_2 x25_1).f0), .slice A185_1 ((rd_T46 l0_2 x25_1).f1).length c185_1] 46 (0, 0))) := ⟨by (with_reducible repeat (first | refine Z8 ?_ _ | refine Y1 ?_ | refine Z9 ?_ _)); refine blk_far ?_ NB186_188.out _; (with_reducible repeat (first | refine Z8 ?_ _ | refine Y1 ?_ | refine Z9 ?_ _)); refine blk_far ?_ NB186_188.out _; (with_reducible repeat (first | refine Z8 ?_ _ | refine Y1 ?_ | refine Z9 ?_ _)); refine blk_far ?_ NB186_188.out _; (with_reducible repeat (first | refine Z8 ?_ _ | refine Y1 ?_ | refine Z9 ?_ _)); refine blk_far ?_ NB186_188.out _; (with_reducible repeat (first | refine Z8 ?_ _ | refine Y1 ?_ | refine Z9 ?_ _)); exact BK186.out⟩
                 have n2_ : Aside0 (((((w29.setCell ⟨gb188, 0, none⟩ (.string ((rd_T23 l0_1 x39_2).f0))).setCell ⟨gb188, 1, none⟩ (.int .i64 ((rd_T23 l0_1 x39_2).f1))).setCell ⟨gb188, 2, none⟩ (.int .i64 ((rd_T23 l0_1 x39_2).f2))).setCell ⟨gb188, 3, none⟩ (.bool ((rd_T23 l0_1 x39_2).f3))).heap[gb188]? = some (.cells #[.string ((rd_T23 l0_1 x39_2).f0), .int .i64 ((rd_T23 l0_1 x39_2).f1), .int .i64 ((rd_T23 l0_1 x39_2).f2), .bool ((rd_T23 l0_1 x39_2).f3)] 23 (0, 0))) := ⟨by (with_reducible repeat (first | refine Z8 ?_ _ | refine Y1 ?_ | refine Z9 ?_ _)); refine blk_put (cs := #[.string ((rd_T23 l0_1 x39_2).f0), .int .i64 ((rd_T23 l0_1 x39_2).f1), .int .i64 ((rd_T23 l0_1 x39_2).f2), .bool false]) ?_ 3 _ rfl; (with_reducible repeat (first | refine Z8 ?_ _ | refine Y1 ?_ | refine Z9 ?_ _)); refine blk_put (cs := #[.string ((rd_T23 l0_1 x39_2).f0), .int .i64 ((rd_T23 l0_1 x39_2).f1), .int .i64 0, .bool false]) ?_ 2 _ rfl; (with_reducible repeat (first | refine Z8 ?_ _ | refine Y1 ?_ | refine Z9 ?_ _)); refine blk_put (cs := #[.string ((rd_T23 l0_1 x39_2).f0), .int .i64 0, .int .i64 0, .bool false]) ?_ 1 _ rfl; (with_reducible repeat (first | refine Z8 ?_ _ | refine Y1 ?_ | refine Z9 ?_ _)); refine blk_put (cs := #[.string (⟨#[]⟩ : ByteArray), .int .i64 0, .int .i64 0, .bool false]) ?_ 0 _ rfl; (with_reducible repeat (first | refine Z8 ?_ _ | refine Y1 ?_ | refine Z9 ?_ _)); exact BK188.out⟩
                 have n3_ : Aside0 (Below w.heap.size w ((((w29.setCell ⟨gb188, 0, none⟩ (.string ((rd_T23 l0_1 x39_2).f0))).setCell ⟨gb188, 1, none⟩ (.int .i64 ((rd_T23 l0_1 x39_2).f1))).setCell ⟨gb188, 2, none⟩ (.int .i64 ((rd_T23 l0_1 x39_2).f2))).setCell ⟨gb188, 3, none⟩ (.bool ((rd_T23 l0_1 x39_2).f3)))) := ⟨V0⟩
                 (try clear BK182)
                 (try clear BK186)
                 (try clear BK188)
                 (try clear HB)
                 generalize ((((w29.setCell ⟨gb188, 0, none⟩ (.string ((rd_T23 l0_1 x39_2).f0))).setCell ⟨gb188, 1, none⟩ (.int .i64 ((rd_T23 l0_1 x39_2).f1))).setCell ⟨gb188, 2, none⟩ (.int .i64 ((rd_T23 l0_1 x39_2).f2))).setCell ⟨gb188, 3, none⟩ (.bool ((rd_T23 l0_1 x39_2).f3))) = w33 at n0_ n1_ n2_ n3_ ⊢
                 have BK182 := n0_
                 have BK186 := n1_
                 have BK188 := n2_
                 have HB := n3_
                 clear n0_ n1_ n2_ n3_
                 have n0_ := Z0 (Y1 BK182.out)
                 have n1_ := Z0 (Y1 BK186.out)
                 have n2_ := Z0 (Y1 BK188.out)
                 have n3_ := Z0 (below_drew1 HB.out)
                 clear BK182
                 clear BK186
                 clear BK188
                 clear HB
                 have BK182 := n0_
                 have BK186 := n1_
                 have BK188 := n2_
                 have HB := n3_
                 clear n0_ n1_ n2_ n3_
                 have p189 : 0 ≤ (x39_2 : Int) := of_decide_eq_true V3
                 have q189 : x39_2 < (((rd_T46 l0_2 x25_1).f1).length : Int) := of_decide_eq_true V3
                 obtain ⟨ad189, e189, hx189_0, hx189_1, hx189_2⟩ := at_T25 HR185_1.out x39_2 p189 q189
                 have hw189_2 := hx189_2
                 have hw189_1 := hx189_1
                 have hw189_0 := hx189_0
                 cases e189
                 replace hx189_0 := (HB.out.cell (World.block_lt_of_cell? w _ hx189_0)).trans hx189_0
                 replace hx189_1 := (HB.out.cell (World.block_lt_of_cell? w _ hx189_1)).trans hx189_1
                 replace hx189_2 := (HB.out.cell (World.block_lt_of_cell? w _ hx189_2)).trans hx189_2
                 replace p189 := eq_true p189
                 replace q189 := eq_true q189
                 refine start_ (n := 10) (S := fun w' => w'.cell? ⟨gb188, 0, none⟩ = some (.string ((rd_T23 l0_1 x39_2).f0)) ∧ w'.cell? ⟨gb188, 1, none⟩ = some (.int .i64 ((rd_T23 l0_1 x39_2).f1)) ∧ w'.cell? ⟨gb188, 2, none⟩ = some (.int .i64 ((rd_T23 l0_1 x39_2).f2)) ∧ w'.cell? ⟨gb188, 3, none⟩ = some (.bool ((rd_T23 l0_1 x39_2).f3)) ∧ w'.cell? ⟨gb182, 0, none⟩ = some (.int .i64 a0_0) ∧ w'.cell? ⟨gb182, 1, none⟩ = some (.slice (some ad187) l0_1.length c0_1) ∧ w'.cell? ⟨gb182, 2, none⟩ = some (.slice (some ad185) l0_2.length c0_2) ∧ w'.cell? ⟨gb186, 0, none⟩ = some (.bool ((rd_T46 l0_2 x25_1).f0)) ∧ w'.cell? ⟨gb186, 1, none⟩ = some (.slice (some ad189) ((rd_T46 l0_2 x25_1).f1).length c185_1) ∧ w'.cell? (ad189.add ((x39_2).toNat * 3)) = some (.int .i64 ((rd_T25 ((rd_T46 l0_2 x25_1).f1) x39_2).f0)) ∧ w'.cell? ⟨(ad189.add ((x39_2).toNat * 3)).block, (ad189.add ((x39_2).toNat * 3)).off + 1, none⟩ = some (.int .i64 ((rd_T25 ((rd_T46 l0_2 x25_1).f1) x39_2).f1)) ∧ w'.cell? ⟨(ad189.add ((x39_2).toNat * 3)).block, (ad189.add ((x39_2).toNat * 3)).off + 2, none⟩ = some (.string ((rd_T25 ((rd_T46 l0_2 x25_1).f1) x39_2).f2))) (ds := []) #[false, false, false, false, false, false, false, false, false, false] (by kernel_rfl) rfl rfl ⟨(Z2 BK188.out 0).trans rfl, (Z2 BK188.out 1).trans rfl, (Z2 BK188.out 2).trans rfl, (Z2 BK188.out 3).trans rfl, (Z2 BK182.out 0).trans rfl, (Z2 BK182.out 1).trans rfl, (Z2 BK182.out 2).trans rfl, (Z2 BK186.out 0).trans rfl, (Z2 BK186.out 1).trans rfl, ((HB.out.cell (World.block_lt_of_cell? w _ hw189_0)).trans hw189_0), ((HB.out.cell (World.block_lt_of_cell? w _ hw189_1)).trans hw189_1), ((HB.out.cell (World.block_lt_of_cell? w _ hw189_2)).trans hw189_2)⟩ (fun hHeld => ?_); refine with_tabW table_Validate.tab16 table_Validate.bits16 (fun HT_ HW_ => ?_)
                 generalize w33.drew = w34 at BK182 BK186 BK188 HB hx189_0 hx189_1 hx189_2 hHeld ⊢
                 refine pure_ (i := 1) (N := some 45) (v := ?_) (a' := ?_) #[false, true, false, false, false, false, false, false, false, false] rfl rfl (any_of HT_.out (by kernel_rfl)) (fun _ _ _ h => h) (Or.inl ⟨by rfl, ?_⟩) ?_ ?_
                 rotate_left
                 ·intro w'
                  go_simp
                  with_reducible rfl
                 rotate_left
                 ·simp only [Act.put, Z3, Z4, Z5, i64_w, i32_w]
                  rfl
                 refine pure_ (i := 3) (N := some 47) (v := ?_) (a' := ?_) #[false, true, false, true, false, false, false, false, false, false] rfl rfl (any_of HT_.out (by kernel_rfl)) (fun _ _ _ h => h) (Or.inl ⟨by rfl, ?_⟩) ?_ ?_
                 rotate_left
                 ·intro w'
                  go_simp
                  with_reducible rfl
                 rotate_left
                 ·simp only [Act.put, Z3, Z4, Z5, i64_w, i32_w]
                  rfl
                 refine pure_ (i := 5) (N := some 49) (v := ?_) (a' := ?_) #[false, true, false, true, false, true, false, false, false, false] rfl rfl (any_of HT_.out (by kernel_rfl)) (fun _ _ _ h => h) (Or.inl ⟨by rfl, ?_⟩) ?_ ?_
                 rotate_left
                 ·intro w'
                  go_simp
                  with_reducible rfl
                 rotate_left
                 ·simp only [Act.put, Z3, Z4, Z5, i64_w, i32_w]
                  rfl
                 refine take_ (i := 0) (N := some 44) (v := ?_) (a' := ?_) #[true, true, false, true, false, true, false, false, false, false] rfl rfl (take_ofW HT_.out HW_.out (by kernel_rfl)) (fun _ _ _ h => h) (Or.inl ⟨by rfl, ?_⟩) hHeld ?_ ?_
                 rotate_left
                 ·rintro w' ⟨s0, s1, s2, s3, s4, s5, s6, s7, s8, s9, s10, s11⟩
                  go_simp
                  with_reducible rfl
                 rotate_left
                 ·simp only [Act.put, Z3, Z4, Z5, i64_w, i32_w]
                  rfl
                 refine take_ (i := 2) (N := some 46) (v := ?_) (a' := ?_) #[true, true, true, true, false, true, false, false, false, false] rfl rfl (take_ofW HT_.out HW_.out (by kernel_rfl)) (fun _ _ _ h => h) (Or.inl ⟨by rfl, ?_⟩) hHeld ?_ ?_
                 rotate_left
                 ·rintro w' ⟨s0, s1, s2, s3, s4, s5, s6, s7, s8, s9, s10, s11⟩
                  go_simp
                  with_reducible rfl
                 rotate_left
                 ·simp only [Act.put, Z3, Z4, Z5, i64_w, i32_w]
                  rfl
                 refine take_ (i := 4) (N := some 48) (v := ?_) (a' := ?_) #[true, true, true, true, true, true, false, false, false, false] rfl rfl (take_ofW HT_.out HW_.out (by kernel_rfl)) (fun _ _ _ h => h) (Or.inl ⟨by rfl, ?_⟩) hHeld ?_ ?_
                 rotate_left
                 ·rintro w' ⟨s0, s1, s2, s3, s4, s5, s6, s7, s8, s9, s10, s11⟩
                  go_simp
                  with_reducible rfl
                 rotate_left
                 ·simp only [Act.put, Z3, Z4, Z5, i64_w, i32_w]
                  rfl
                 refine pure_ (i := 6) (N := some 50) (v := ?_) (a' := ?_) #[true, true, true, true, true, true, true, false, false, false] rfl rfl (any_of HT_.out (by kernel_rfl)) (fun _ _ _ h => h) (Or.inl ⟨by rfl, ?_⟩) ?_ ?_
                 rotate_left
                 ·intro w'
                  go_simp
                  with_reducible rfl
                 rotate_left
                 ·simp only [Act.put, Z3, Z4, Z5, i64_w, i32_w]
                  rfl
                 refine take_ (i := 7) (N := some 51) (v := ?_) (a' := ?_) #[true, true, true, true, true, true, true, true, false, false] rfl rfl (take_ofW HT_.out HW_.out (by kernel_rfl)) (fun _ _ _ h => h) (Or.inl ⟨by rfl, ?_⟩) hHeld ?_ ?_
                 rotate_left
                 ·rintro w' ⟨s0, s1, s2, s3, s4, s5, s6, s7, s8, s9, s10, s11⟩
                  go_simp
                  with_reducible rfl
                 rotate_left
                 ·simp only [Act.put, Z3, Z4, Z5, i64_w, i32_w]
                  rfl
                 refine one_ (i := 8) (N := some 52) #[true, true, true, true, true, true, true, true, true, false] rfl rfl (one_of HT_.out (by kernel_rfl)) (by decide) (fun K hK => ?_)
                 refine goes_ Tryz.func73 (by kernel_rfl) rfl #[.agg #[.string ((rd_T23 l0_1 x39_2).f0), .int .i64 ((rd_T23 l0_1 x39_2).f1), .int .i64 ((rd_T23 l0_1 x39_2).f2), .bool ((rd_T23 l0_1 x39_2).f3)], .int .i64 a0_0, .agg #[.int .i64 ((rd_T25 ((rd_T46 l0_2 x25_1).f1) x39_2).f0), .int .i64 ((rd_T25 ((rd_T46 l0_2 x25_1).f1) x39_2).f1), .string ((rd_T25 ((rd_T46 l0_2 x25_1).f1) x39_2).f2)]] (by rfl) rfl rfl V1 ?_
                 with_reducible refine (table_holds.calls k2 ((rd_T23 l0_1 x39_2).f0) ((rd_T23 l0_1 x39_2).f1) ((rd_T23 l0_1 x39_2).f2) ((rd_T23 l0_1 x39_2).f3) a0_0 ((rd_T25 ((rd_T46 l0_2 x25_1).f1) x39_2).f0) ((rd_T25 ((rd_T46 l0_2 x25_1).f1) x39_2).f1) ((rd_T25 ((rd_T46 l0_2 x25_1).f1) x39_2).f2) true _ A27.out).mono ?_
                 rintro e w35 ⟨rfl, hb⟩
                 refine ⟨_, rfl, ?_⟩
                 have n0_ := Z0 (Z7 (g := gb182) (o := .cells #[.int .i64 a0_0, .slice (some ad187) l0_1.length c0_1, .slice (some ad185) l0_2.length c0_2] 35 (0, 0)) (by (with_reducible repeat (first | refine Z8 ?_ _ | refine Y1 ?_ | refine Z9 ?_ _)); exact BK182.out) hb)
                 have n1_ := Z0 (Z7 (g := gb186) (o := .cells #[.bool ((rd_T46 l0_2 x25_1).f0), .slice (some ad189) ((rd_T46 l0_2 x25_1).f1).length c185_1] 46 (0, 0)) (by (with_reducible repeat (first | refine Z8 ?_ _ | refine Y1 ?_ | refine Z9 ?_ _)); exact BK186.out) hb)
                 have n2_ := Z0 (Z7 (g := gb188) (o := .cells #[.string ((rd_T23 l0_1 x39_2).f0), .int .i64 ((rd_T23 l0_1 x39_2).f1), .int .i64 ((rd_T23 l0_1 x39_2).f2), .bool ((rd_T23 l0_1 x39_2).f3)] 23 (0, 0)) (by (with_reducible repeat (first | refine Z8 ?_ _ | refine Y1 ?_ | refine Z9 ?_ _)); exact BK188.out) hb)
                 have n3_ := Z0 (Z6 V0 hb)
                 clear BK182
                 clear BK186
                 clear BK188
                 clear HB
                 have BK182 := n0_
                 have BK186 := n1_
                 have BK188 := n2_
                 have HB := n3_
                 clear n0_ n1_ n2_ n3_
                 (try clear hb)
                 (try clear hb2)
                 (try clear hk)
                 (try clear hi)
                 refine hK.out _ _ ⟨(Z2 BK188.out 0).trans rfl, (Z2 BK188.out 1).trans rfl, (Z2 BK188.out 2).trans rfl, (Z2 BK188.out 3).trans rfl, (Z2 BK182.out 0).trans rfl, (Z2 BK182.out 1).trans rfl, (Z2 BK182.out 2).trans rfl, (Z2 BK186.out 0).trans rfl, (Z2 BK186.out 1).trans rfl, ((HB.out.cell (World.block_lt_of_cell? w _ hw189_0)).trans hw189_0), ((HB.out.cell (World.block_lt_of_cell? w _ hw189_1)).trans hw189_1), ((HB.out.cell (World.block_lt_of_cell? w _ hw189_2)).trans hw189_2)⟩ (fun hHeld => ?_)
                 clear hK K
                 refine norm_ (a' := ?_) ?_ ?_
                 rotate_left
                 ·show Act.put _ (some 52) _ = _
                  simp only [Act.put, Z3, Z4, Z5, i64_w, i32_w]
                  rfl
                 refine pure_ (i := 9) (N := some 53) (v := ?_) (a' := ?_) #[true, true, true, true, true, true, true, true, true, true] rfl rfl (any_of HT_.out (by kernel_rfl)) (fun _ _ _ h => h) (Or.inl ⟨by rfl, ?_⟩) ?_ ?_
                 rotate_left
                 ·intro w'
                  go_simp
                  with_reducible rfl
                 rotate_left
                 ·simp only [Act.put, Z3, Z4, Z5, i64_w, i32_w]
                  rfl
                 refine done_ (done_of HT_.out (by kernel_rfl)) ?_
                 try go_wp2
                 go_roundg k2
                 case measure => have := HK1.out; have := HK2.out; omega
                 case rel => exact ⟨(wrap64 (x39_2 + 1)), V2, H', ⟨by have := HK1.out; have := HK2.out; omega⟩, ⟨by (with_reducible repeat (first | refine Z8 ?_ _ | refine Y1 ?_ | refine Z9 ?_ _)); exact BK182.out⟩, ⟨by (with_reducible repeat (first | refine Z8 ?_ _ | refine Y1 ?_ | refine Z9 ?_ _)); exact BK186.out⟩, ⟨V0⟩⟩
                ·replace c28 := Bool.eq_false_iff.mpr c28
                 subst c28
                 have H1 : (some 1) = some r := by rw [if_neg (show ¬ (false = true) by decide)] at H; exact H
                 clear H
                 have H := H1
                 clear H1
                 obtain rfl := Option.some.inj H
                 have p187 : 0 ≤ (x39_2 : Int) := of_decide_eq_true V3
                 have q187 : x39_2 < (l0_1.length : Int) := of_decide_eq_true V3
                 obtain ⟨ad187, e187, hx187_0, hx187_1, hx187_2, hx187_3⟩ := at_T23 HR0_1.out x39_2 p187 q187
                 cases e187
                 replace hx187_0 := (HB.out.cell (World.block_lt_of_cell? w _ hx187_0)).trans hx187_0
                 replace hx187_1 := (HB.out.cell (World.block_lt_of_cell? w _ hx187_1)).trans hx187_1
                 replace hx187_2 := (HB.out.cell (World.block_lt_of_cell? w _ hx187_2)).trans hx187_2
                 replace hx187_3 := (HB.out.cell (World.block_lt_of_cell? w _ hx187_3)).trans hx187_3
                 replace p187 := eq_true p187
                 replace q187 := eq_true q187
                 try go_wp2_with (first | ((with_reducible refine Y4 (N := 7) rfl ?_); refine Y2 ?hg (N := 7) ?hd (cs := #[.string (⟨#[]⟩ : ByteArray), .int .i64 0, .int .i64 0, .bool false]) (t := 23) ?hr ?_; (case hd => rfl); (case hg => rfl); (case hr => go_simp; try rfl); intro gb188 hg w36 hbox hb; have n0_ := Z0 (Z7 (g := gb182) (o := .cells #[.int .i64 a0_0, .slice (some ad187) l0_1.length c0_1, .slice (some ad185) l0_2.length c0_2] 35 (0, 0)) (by (with_reducible repeat (first | refine Z8 ?_ _ | refine Y1 ?_ | refine Z9 ?_ _)); exact BK182.out) hb); have n1_ := Z0 (Z7 (g := gb186) (o := .cells #[.bool ((rd_T46 l0_2 x25_1).f0), .slice A185_1 ((rd_T46 l0_2 x25_1).f1).length c185_1] 46 (0, 0)) (by (with_reducible repeat (first | refine Z8 ?_ _ | refine Y1 ?_ | refine Z9 ?_ _)); exact BK186.out) hb); have n2_ := Z0 (Z6 V0 hb); have n3_ := Z0 (hbox); have n5_ := Z0 ((by rw [hg]; exact (Y0 V0) : w.heap.size ≤ gb188)); have n6_ := Z0 ((by rw [hg]; exact Nat.ne_of_lt (blk_lt (g := gb182) (o := .cells #[.int .i64 a0_0, .slice (some ad187) l0_1.length c0_1, .slice (some ad185) l0_2.length c0_2] 35 (0, 0)) (by (with_reducible repeat (first | refine Z8 ?_ _ | refine Y1 ?_ | refine Z9 ?_ _)); exact BK182.out)) : gb182 ≠ gb188)); have n7_ := Z0 ((by rw [hg]; exact Nat.ne_of_gt (blk_lt (g := gb182) (o := .cells #[.int .i64 a0_0, .slice (some ad187) l0_1.length c0_1, .slice (some ad185) l0_2.length c0_2] 35 (0, 0)) (by (with_reducible repeat (first | refine Z8 ?_ _ | refine Y1 ?_ | refine Z9 ?_ _)); exact BK182.out)) : gb188 ≠ gb182)); have n8_ := Z0 ((by rw [hg]; exact Nat.ne_of_lt (blk_lt (g := gb186) (o := .cells #[.bool ((rd_T46 l0_2 x25_1).f0), .slice A185_1 ((rd_T46 l0_2 x25_1).f1).length c185_1] 46 (0, 0)) (by (with_reducible repeat (first | refine Z8 ?_ _ | refine Y1 ?_ | refine Z9 ?_ _)); exact BK186.out)) : gb186 ≠ gb188)); have n9_ := Z0 ((by rw [hg]; exact Nat.ne_of_gt (blk_lt (g := gb186) (o := .cells #[.bool ((rd_T46 l0_2 x25_1).f0), .slice A185_1 ((rd_T46 l0_2 x25_1).f1).length c185_1] 46 (0, 0)) (by (with_reducible repeat (first | refine Z8 ?_ _ | refine Y1 ?_ | refine Z9 ?_ _)); exact BK186.out)) : gb188 ≠ gb186)); clear BK182; clear BK186; clear HB; have BK182 := n0_; have BK186 := n1_; have HB := n2_; have BK188 := n3_; have GE188 := n5_; have NB182_188 := n6_; have NB188_182 := n7_; have NB186_188 := n8_; have NB188_186 := n9_; clear n0_ n1_ n2_ n3_ n5_ n6_ n7_ n8_ n9_; clear hb hbox hg; have hnb37 := NB188_182.out; have hnc37 := NB182_188.out; have hnb38 := NB188_186.out; have hnc38 := NB186_188.out; have hcz39_0 : w36.cell? ⟨gb188, 0, none⟩ = some (.string (⟨#[]⟩ : ByteArray)) := (Z2 BK188.out 0).trans rfl; have hcz39_1 : w36.cell? ⟨gb188, 1, none⟩ = some (.int .i64 0) := (Z2 BK188.out 1).trans rfl; have hcz39_2 : w36.cell? ⟨gb188, 2, none⟩ = some (.int .i64 0) := (Z2 BK188.out 2).trans rfl; have hcz39_3 : w36.cell? ⟨gb188, 3, none⟩ = some (.bool false) := (Z2 BK188.out 3).trans rfl; have hfz39_0 := Z1 BK188.out 0; have hfz39_1 := Z1 BK188.out 1; have hfz39_2 := Z1 BK188.out 2; have hfz39_3 := Z1 BK188.out 3))
                 have n0_ : Aside0 (((((w36.setCell ⟨gb188, 0, none⟩ (.string ((rd_T23 l0_1 x39_2).f0))).setCell ⟨gb188, 1, none⟩ (.int .i64 ((rd_T23 l0_1 x39_2).f1))).setCell ⟨gb188, 2, none⟩ (.int .i64 ((rd_T23 l0_1 x39_2).f2))).setCell ⟨gb188, 3, none⟩ (.bool ((rd_T23 l0_1 x39_2).f3))).heap[gb182]? = some (.cells #[.int .i64 a0_0, .slice (some ad187) l0_1.length c0_1, .slice (some ad185) l0_2.length c0_2] 35 (0, 0))) := ⟨by (with_reducible repeat (first | refine Z8 ?_ _ | refine Y1 ?_ | refine Z9 ?_ _)); refine blk_far ?_ NB182_188.out _; (with_reducible repeat (first | refine Z8 ?_ _ | refine Y1 ?_ | refine Z9 ?_ _)); refine blk_far ?_ NB182_188.out _; (with_reducible repeat (first | refine Z8 ?_ _ | refine Y1 ?_ | refine Z9 ?_ _)); refine blk_far ?_ NB182_188.out _; (with_reducible repeat (first | refine Z8 ?_ _ | refine Y1 ?_ | refine Z9 ?_ _)); refine blk_far ?_ NB182_188.out _; (with_reducible repeat (first | refine Z8 ?_ _ | refine Y1 ?_ | refine Z9 ?_ _)); exact BK182.out⟩
                 have n1_ : Aside0 (((((w36.setCell ⟨gb188, 0, none⟩ (.string ((rd_T23 l0_1 x39_2).f0))).setCell ⟨gb188, 1, none⟩ (.int .i64 ((rd_T23 l0_1 x39_2).f1))).setCell ⟨gb188, 2, none⟩ (.int .i64 ((rd_T23 l0_1 x39_2).f2))).setCell ⟨gb188, 3, none⟩ (.bool ((rd_T23 l0_1 x39_2).f3))).heap[gb186]? = some (.cells #[.bool ((rd_T46 l0_2 x25_1).f0), .slice A185_1 ((rd_T46 l0_2 x25_1).f1).length c185_1] 46 (0, 0))) := ⟨by (with_reducible repeat (first | refine Z8 ?_ _ | refine Y1 ?_ | refine Z9 ?_ _)); refine blk_far ?_ NB186_188.out _; (with_reducible repeat (first | refine Z8 ?_ _ | refine Y1 ?_ | refine Z9 ?_ _)); refine blk_far ?_ NB186_188.out _; (with_reducible repeat (first | refine Z8 ?_ _ | refine Y1 ?_ | refine Z9 ?_ _)); refine blk_far ?_ NB186_188.out _; (with_reducible repeat (first | refine Z8 ?_ _ | refine Y1 ?_ | refine Z9 ?_ _)); refine blk_far ?_ NB186_188.out _; (with_reducible repeat (first | refine Z8 ?_ _ | refine Y1 ?_ | refine Z9 ?_ _)); exact BK186.out⟩
                 have n2_ : Aside0 (((((w36.setCell ⟨gb188, 0, none⟩ (.string ((rd_T23 l0_1 x39_2).f0))).setCell ⟨gb188, 1, none⟩ (.int .i64 ((rd_T23 l0_1 x39_2).f1))).setCell ⟨gb188, 2, none⟩ (.int .i64 ((rd_T23 l0_1 x39_2).f2))).setCell ⟨gb188, 3, none⟩ (.bool ((rd_T23 l0_1 x39_2).f3))).heap[gb188]? = some (.cells #[.string ((rd_T23 l0_1 x39_2).f0), .int .i64 ((rd_T23 l0_1 x39_2).f1), .int .i64 ((rd_T23 l0_1 x39_2).f2), .bool ((rd_T23 l0_1 x39_2).f3)] 23 (0, 0))) := ⟨by (with_reducible repeat (first | refine Z8 ?_ _ | refine Y1 ?_ | refine Z9 ?_ _)); refine blk_put (cs := #[.string ((rd_T23 l0_1 x39_2).f0), .int .i64 ((rd_T23 l0_1 x39_2).f1), .int .i64 ((rd_T23 l0_1 x39_2).f2), .bool false]) ?_ 3 _ rfl; (with_reducible repeat (first | refine Z8 ?_ _ | refine Y1 ?_ | refine Z9 ?_ _)); refine blk_put (cs := #[.string ((rd_T23 l0_1 x39_2).f0), .int .i64 ((rd_T23 l0_1 x39_2).f1), .int .i64 0, .bool false]) ?_ 2 _ rfl; (with_reducible repeat (first | refine Z8 ?_ _ | refine Y1 ?_ | refine Z9 ?_ _)); refine blk_put (cs := #[.string ((rd_T23 l0_1 x39_2).f0), .int .i64 0, .int .i64 0, .bool false]) ?_ 1 _ rfl; (with_reducible repeat (first | refine Z8 ?_ _ | refine Y1 ?_ | refine Z9 ?_ _)); refine blk_put (cs := #[.string (⟨#[]⟩ : ByteArray), .int .i64 0, .int .i64 0, .bool false]) ?_ 0 _ rfl; (with_reducible repeat (first | refine Z8 ?_ _ | refine Y1 ?_ | refine Z9 ?_ _)); exact BK188.out⟩
                 have n3_ : Aside0 (Below w.heap.size w ((((w36.setCell ⟨gb188, 0, none⟩ (.string ((rd_T23 l0_1 x39_2).f0))).setCell ⟨gb188, 1, none⟩ (.int .i64 ((rd_T23 l0_1 x39_2).f1))).setCell ⟨gb188, 2, none⟩ (.int .i64 ((rd_T23 l0_1 x39_2).f2))).setCell ⟨gb188, 3, none⟩ (.bool ((rd_T23 l0_1 x39_2).f3)))) := ⟨V0⟩
                 (try clear BK182)
                 (try clear BK186)
                 (try clear BK188)
                 (try clear HB)
                 generalize ((((w36.setCell ⟨gb188, 0, none⟩ (.string ((rd_T23 l0_1 x39_2).f0))).setCell ⟨gb188, 1, none⟩ (.int .i64 ((rd_T23 l0_1 x39_2).f1))).setCell ⟨gb188, 2, none⟩ (.int .i64 ((rd_T23 l0_1 x39_2).f2))).setCell ⟨gb188, 3, none⟩ (.bool ((rd_T23 l0_1 x39_2).f3))) = w40 at n0_ n1_ n2_ n3_ ⊢
                 have BK182 := n0_
                 have BK186 := n1_
                 have BK188 := n2_
                 have HB := n3_
                 clear n0_ n1_ n2_ n3_
                 have n0_ := Z0 (Y1 BK182.out)
                 have n1_ := Z0 (Y1 BK186.out)
                 have n2_ := Z0 (Y1 BK188.out)
                 have n3_ := Z0 (below_drew1 HB.out)
                 clear BK182
                 clear BK186
                 clear BK188
                 clear HB
                 have BK182 := n0_
                 have BK186 := n1_
                 have BK188 := n2_
                 have HB := n3_
                 clear n0_ n1_ n2_ n3_
                 have p189 : 0 ≤ (x39_2 : Int) := of_decide_eq_true V3
                 have q189 : x39_2 < (((rd_T46 l0_2 x25_1).f1).length : Int) := of_decide_eq_true V3
                 obtain ⟨ad189, e189, hx189_0, hx189_1, hx189_2⟩ := at_T25 HR185_1.out x39_2 p189 q189
                 have hw189_2 := hx189_2
                 have hw189_1 := hx189_1
                 have hw189_0 := hx189_0
                 cases e189
                 replace hx189_0 := (HB.out.cell (World.block_lt_of_cell? w _ hx189_0)).trans hx189_0
                 replace hx189_1 := (HB.out.cell (World.block_lt_of_cell? w _ hx189_1)).trans hx189_1
                 replace hx189_2 := (HB.out.cell (World.block_lt_of_cell? w _ hx189_2)).trans hx189_2
                 replace p189 := eq_true p189
                 replace q189 := eq_true q189
                 refine start_ (n := 10) (S := fun w' => w'.cell? ⟨gb188, 0, none⟩ = some (.string ((rd_T23 l0_1 x39_2).f0)) ∧ w'.cell? ⟨gb188, 1, none⟩ = some (.int .i64 ((rd_T23 l0_1 x39_2).f1)) ∧ w'.cell? ⟨gb188, 2, none⟩ = some (.int .i64 ((rd_T23 l0_1 x39_2).f2)) ∧ w'.cell? ⟨gb188, 3, none⟩ = some (.bool ((rd_T23 l0_1 x39_2).f3)) ∧ w'.cell? ⟨gb182, 0, none⟩ = some (.int .i64 a0_0) ∧ w'.cell? ⟨gb182, 1, none⟩ = some (.slice (some ad187) l0_1.length c0_1) ∧ w'.cell? ⟨gb182, 2, none⟩ = some (.slice (some ad185) l0_2.length c0_2) ∧ w'.cell? ⟨gb186, 0, none⟩ = some (.bool ((rd_T46 l0_2 x25_1).f0)) ∧ w'.cell? ⟨gb186, 1, none⟩ = some (.slice (some ad189) ((rd_T46 l0_2 x25_1).f1).length c185_1) ∧ w'.cell? (ad189.add ((x39_2).toNat * 3)) = some (.int .i64 ((rd_T25 ((rd_T46 l0_2 x25_1).f1) x39_2).f0)) ∧ w'.cell? ⟨(ad189.add ((x39_2).toNat * 3)).block, (ad189.add ((x39_2).toNat * 3)).off + 1, none⟩ = some (.int .i64 ((rd_T25 ((rd_T46 l0_2 x25_1).f1) x39_2).f1)) ∧ w'.cell? ⟨(ad189.add ((x39_2).toNat * 3)).block, (ad189.add ((x39_2).toNat * 3)).off + 2, none⟩ = some (.string ((rd_T25 ((rd_T46 l0_2 x25_1).f1) x39_2).f2))) (ds := []) #[false, false, false, false, false, false, false, false, false, false] (by kernel_rfl) rfl rfl ⟨(Z2 BK188.out 0).trans rfl, (Z2 BK188.out 1).trans rfl, (Z2 BK188.out 2).trans rfl, (Z2 BK188.out 3).trans rfl, (Z2 BK182.out 0).trans rfl, (Z2 BK182.out 1).trans rfl, (Z2 BK182.out 2).trans rfl, (Z2 BK186.out 0).trans rfl, (Z2 BK186.out 1).trans rfl, ((HB.out.cell (World.block_lt_of_cell? w _ hw189_0)).trans hw189_0), ((HB.out.cell (World.block_lt_of_cell? w _ hw189_1)).trans hw189_1), ((HB.out.cell (World.block_lt_of_cell? w _ hw189_2)).trans hw189_2)⟩ (fun hHeld => ?_); refine with_tabW table_Validate.tab16 table_Validate.bits16 (fun HT_ HW_ => ?_)
                 generalize w40.drew = w41 at BK182 BK186 BK188 HB hx189_0 hx189_1 hx189_2 hHeld ⊢
                 refine pure_ (i := 1) (N := some 45) (v := ?_) (a' := ?_) #[false, true, false, false, false, false, false, false, false, false] rfl rfl (any_of HT_.out (by kernel_rfl)) (fun _ _ _ h => h) (Or.inl ⟨by rfl, ?_⟩) ?_ ?_
                 rotate_left
                 ·intro w'
                  go_simp
                  with_reducible rfl
                 rotate_left
                 ·simp only [Act.put, Z3, Z4, Z5, i64_w, i32_w]
                  rfl
                 refine pure_ (i := 3) (N := some 47) (v := ?_) (a' := ?_) #[false, true, false, true, false, false, false, false, false, false] rfl rfl (any_of HT_.out (by kernel_rfl)) (fun _ _ _ h => h) (Or.inl ⟨by rfl, ?_⟩) ?_ ?_
                 rotate_left
                 ·intro w'
                  go_simp
                  with_reducible rfl
                 rotate_left
                 ·simp only [Act.put, Z3, Z4, Z5, i64_w, i32_w]
                  rfl
                 refine pure_ (i := 5) (N := some 49) (v := ?_) (a' := ?_) #[false, true, false, true, false, true, false, false, false, false] rfl rfl (any_of HT_.out (by kernel_rfl)) (fun _ _ _ h => h) (Or.inl ⟨by rfl, ?_⟩) ?_ ?_
                 rotate_left
                 ·intro w'
                  go_simp
                  with_reducible rfl
                 rotate_left
                 ·simp only [Act.put, Z3, Z4, Z5, i64_w, i32_w]
                  rfl
                 refine take_ (i := 0) (N := some 44) (v := ?_) (a' := ?_) #[true, true, false, true, false, true, false, false, false, false] rfl rfl (take_ofW HT_.out HW_.out (by kernel_rfl)) (fun _ _ _ h => h) (Or.inl ⟨by rfl, ?_⟩) hHeld ?_ ?_
                 rotate_left
                 ·rintro w' ⟨s0, s1, s2, s3, s4, s5, s6, s7, s8, s9, s10, s11⟩
                  go_simp
                  with_reducible rfl
                 rotate_left
                 ·simp only [Act.put, Z3, Z4, Z5, i64_w, i32_w]
                  rfl
                 refine take_ (i := 2) (N := some 46) (v := ?_) (a' := ?_) #[true, true, true, true, false, true, false, false, false, false] rfl rfl (take_ofW HT_.out HW_.out (by kernel_rfl)) (fun _ _ _ h => h) (Or.inl ⟨by rfl, ?_⟩) hHeld ?_ ?_
                 rotate_left
                 ·rintro w' ⟨s0, s1, s2, s3, s4, s5, s6, s7, s8, s9, s10, s11⟩
                  go_simp
                  with_reducible rfl
                 rotate_left
                 ·simp only [Act.put, Z3, Z4, Z5, i64_w, i32_w]
                  rfl
                 refine take_ (i := 4) (N := some 48) (v := ?_) (a' := ?_) #[true, true, true, true, true, true, false, false, false, false] rfl rfl (take_ofW HT_.out HW_.out (by kernel_rfl)) (fun _ _ _ h => h) (Or.inl ⟨by rfl, ?_⟩) hHeld ?_ ?_
                 rotate_left
                 ·rintro w' ⟨s0, s1, s2, s3, s4, s5, s6, s7, s8, s9, s10, s11⟩
                  go_simp
                  with_reducible rfl
                 rotate_left
                 ·simp only [Act.put, Z3, Z4, Z5, i64_w, i32_w]
                  rfl
                 refine pure_ (i := 6) (N := some 50) (v := ?_) (a' := ?_) #[true, true, true, true, true, true, true, false, false, false] rfl rfl (any_of HT_.out (by kernel_rfl)) (fun _ _ _ h => h) (Or.inl ⟨by rfl, ?_⟩) ?_ ?_
                 rotate_left
                 ·intro w'
                  go_simp
                  with_reducible rfl
                 rotate_left
                 ·simp only [Act.put, Z3, Z4, Z5, i64_w, i32_w]
                  rfl
                 refine take_ (i := 7) (N := some 51) (v := ?_) (a' := ?_) #[true, true, true, true, true, true, true, true, false, false] rfl rfl (take_ofW HT_.out HW_.out (by kernel_rfl)) (fun _ _ _ h => h) (Or.inl ⟨by rfl, ?_⟩) hHeld ?_ ?_
                 rotate_left
                 ·rintro w' ⟨s0, s1, s2, s3, s4, s5, s6, s7, s8, s9, s10, s11⟩
                  go_simp
                  with_reducible rfl
                 rotate_left
                 ·simp only [Act.put, Z3, Z4, Z5, i64_w, i32_w]
                  rfl
                 refine one_ (i := 8) (N := some 52) #[true, true, true, true, true, true, true, true, true, false] rfl rfl (one_of HT_.out (by kernel_rfl)) (by decide) (fun K hK => ?_)
                 refine goes_ Tryz.func73 (by kernel_rfl) rfl #[.agg #[.string ((rd_T23 l0_1 x39_2).f0), .int .i64 ((rd_T23 l0_1 x39_2).f1), .int .i64 ((rd_T23 l0_1 x39_2).f2), .bool ((rd_T23 l0_1 x39_2).f3)], .int .i64 a0_0, .agg #[.int .i64 ((rd_T25 ((rd_T46 l0_2 x25_1).f1) x39_2).f0), .int .i64 ((rd_T25 ((rd_T46 l0_2 x25_1).f1) x39_2).f1), .string ((rd_T25 ((rd_T46 l0_2 x25_1).f1) x39_2).f2)]] (by rfl) rfl rfl V1 ?_
                 with_reducible refine (table_holds.calls k2 ((rd_T23 l0_1 x39_2).f0) ((rd_T23 l0_1 x39_2).f1) ((rd_T23 l0_1 x39_2).f2) ((rd_T23 l0_1 x39_2).f3) a0_0 ((rd_T25 ((rd_T46 l0_2 x25_1).f1) x39_2).f0) ((rd_T25 ((rd_T46 l0_2 x25_1).f1) x39_2).f1) ((rd_T25 ((rd_T46 l0_2 x25_1).f1) x39_2).f2) false _ A27.out).mono ?_
                 rintro e w42 ⟨rfl, hb⟩
                 refine ⟨_, rfl, ?_⟩
                 have n0_ := Z0 (Z7 (g := gb182) (o := .cells #[.int .i64 a0_0, .slice (some ad187) l0_1.length c0_1, .slice (some ad185) l0_2.length c0_2] 35 (0, 0)) (by (with_reducible repeat (first | refine Z8 ?_ _ | refine Y1 ?_ | refine Z9 ?_ _)); exact BK182.out) hb)
                 have n1_ := Z0 (Z7 (g := gb186) (o := .cells #[.bool ((rd_T46 l0_2 x25_1).f0), .slice (some ad189) ((rd_T46 l0_2 x25_1).f1).length c185_1] 46 (0, 0)) (by (with_reducible repeat (first | refine Z8 ?_ _ | refine Y1 ?_ | refine Z9 ?_ _)); exact BK186.out) hb)
                 have n2_ := Z0 (Z7 (g := gb188) (o := .cells #[.string ((rd_T23 l0_1 x39_2).f0), .int .i64 ((rd_T23 l0_1 x39_2).f1), .int .i64 ((rd_T23 l0_1 x39_2).f2), .bool ((rd_T23 l0_1 x39_2).f3)] 23 (0, 0)) (by (with_reducible repeat (first | refine Z8 ?_ _ | refine Y1 ?_ | refine Z9 ?_ _)); exact BK188.out) hb)
                 have n3_ := Z0 (Z6 V0 hb)
                 clear BK182
                 clear BK186
                 clear BK188
                 clear HB
                 have BK182 := n0_
                 have BK186 := n1_
                 have BK188 := n2_
                 have HB := n3_
                 clear n0_ n1_ n2_ n3_
                 (try clear hb)
                 (try clear hb2)
                 (try clear hk)
                 (try clear hi)
                 refine hK.out _ _ ⟨(Z2 BK188.out 0).trans rfl, (Z2 BK188.out 1).trans rfl, (Z2 BK188.out 2).trans rfl, (Z2 BK188.out 3).trans rfl, (Z2 BK182.out 0).trans rfl, (Z2 BK182.out 1).trans rfl, (Z2 BK182.out 2).trans rfl, (Z2 BK186.out 0).trans rfl, (Z2 BK186.out 1).trans rfl, ((HB.out.cell (World.block_lt_of_cell? w _ hw189_0)).trans hw189_0), ((HB.out.cell (World.block_lt_of_cell? w _ hw189_1)).trans hw189_1), ((HB.out.cell (World.block_lt_of_cell? w _ hw189_2)).trans hw189_2)⟩ (fun hHeld => ?_)
                 clear hK K
                 refine norm_ (a' := ?_) ?_ ?_
                 rotate_left
                 ·show Act.put _ (some 52) _ = _
                  simp only [Act.put, Z3, Z4, Z5, i64_w, i32_w]
                  rfl
                 refine pure_ (i := 9) (N := some 53) (v := ?_) (a' := ?_) #[true, true, true, true, true, true, true, true, true, true] rfl rfl (any_of HT_.out (by kernel_rfl)) (fun _ _ _ h => h) (Or.inl ⟨by rfl, ?_⟩) ?_ ?_
                 rotate_left
                 ·intro w'
                  go_simp
                  with_reducible rfl
                 rotate_left
                 ·simp only [Act.put, Z3, Z4, Z5, i64_w, i32_w]
                  rfl
                 refine done_ (done_of HT_.out (by kernel_rfl)) ?_
                 try go_wp2
                 go_ret
                 exact ⟨rfl, V0⟩
               ·rw [if_neg c26] at H
                exact absurd H (by simp)
              ·rw [if_neg c25] at H
               exact absurd H (by simp)
             ·rw [if_neg c24] at H
              exact absurd H (by simp)
            ·rw [if_neg c23] at H
             have c23b0 : decide (x39_2 < (l0_1.length : Int)) = false := decide_eq_false c23
             clear c23
             have H' := Z0 H
             clear H
             go_wp2
             go_roundg k2
             case measure => have := HK1.out; have := HK2.out; omega
             case rel => exact ⟨(wrap64 (x25_1 + 1)), V2, H', ⟨by have := HK1.out; have := HK2.out; omega⟩, ⟨by (with_reducible repeat (first | refine Z8 ?_ _ | refine Y1 ?_ | refine Z9 ?_ _)); exact BK182.out⟩, ⟨V0⟩⟩
         ·rw [if_neg c18] at H
          have c18b0 : ((((rd_T46 l0_2 x25_1).f1).length : Int) == (l0_1.length : Int)) = false := beq_eq_false_iff_ne.mpr c18
          have c18b1 : ((((rd_T46 l0_2 x25_1).f1).length : Int) != (l0_1.length : Int)) = true := bne_iff_ne.mpr c18
          have c18b2 : (((rd_T46 l0_2 x25_1).f1).length == l0_1.length) = false := by first | simpa using c18 | (simp at c18 ⊢; omega)
          obtain rfl := Option.some.inj H
          have p185 : 0 ≤ (x25_1 : Int) := of_decide_eq_true V3
          have q185 : x25_1 < (l0_2.length : Int) := of_decide_eq_true V3
          obtain ⟨ad185, A185_1, c185_1, e185, hx185_0, hx185_1, hl185_1, hi185_1⟩ := at_T46 HR0_2.out x25_1 p185 q185
          cases e185
          replace hx185_0 := (HB.out.cell (World.block_lt_of_cell? w _ hx185_0)).trans hx185_0
          replace hx185_1 := (HB.out.cell (World.block_lt_of_cell? w _ hx185_1)).trans hx185_1
          have HR185_1 := Z0 hi185_1
          have HC185_1 := Z0 hl185_1
          clear hi185_1 hl185_1
          replace p185 := eq_true p185
          replace q185 := eq_true q185
          go_wp2_with (first | ((with_reducible refine Y4 (N := 5) rfl ?_); refine Y2 ?hg (N := 5) ?hd (cs := #[.bool false, .slice none 0 0]) (t := 46) ?hr ?_; (case hd => rfl); (case hg => rfl); (case hr => go_simp; try rfl); intro gb186 hg w43 hbox hb; have n0_ := Z0 (Z7 (g := gb182) (o := .cells #[.int .i64 a0_0, .slice A0_1 l0_1.length c0_1, .slice (some ad185) l0_2.length c0_2] 35 (0, 0)) (by (with_reducible repeat (first | refine Z8 ?_ _ | refine Y1 ?_ | refine Z9 ?_ _)); exact BK182.out) hb); have n1_ := Z0 (Z6 V0 hb); have n2_ := Z0 (hbox); have n4_ := Z0 ((by rw [hg]; exact (Y0 V0) : w.heap.size ≤ gb186)); have n5_ := Z0 ((by rw [hg]; exact Nat.ne_of_lt (blk_lt (g := gb182) (o := .cells #[.int .i64 a0_0, .slice A0_1 l0_1.length c0_1, .slice (some ad185) l0_2.length c0_2] 35 (0, 0)) (by (with_reducible repeat (first | refine Z8 ?_ _ | refine Y1 ?_ | refine Z9 ?_ _)); exact BK182.out)) : gb182 ≠ gb186)); have n6_ := Z0 ((by rw [hg]; exact Nat.ne_of_gt (blk_lt (g := gb182) (o := .cells #[.int .i64 a0_0, .slice A0_1 l0_1.length c0_1, .slice (some ad185) l0_2.length c0_2] 35 (0, 0)) (by (with_reducible repeat (first | refine Z8 ?_ _ | refine Y1 ?_ | refine Z9 ?_ _)); exact BK182.out)) : gb186 ≠ gb182)); clear BK182; clear HB; have BK182 := n0_; have HB := n1_; have BK186 := n2_; have GE186 := n4_; have NB182_186 := n5_; have NB186_182 := n6_; clear n0_ n1_ n2_ n4_ n5_ n6_; clear hb hbox hg; have hnb44 := NB186_182.out; have hnc44 := NB182_186.out; have hcz45_0 : w43.cell? ⟨gb186, 0, none⟩ = some (.bool false) := (Z2 BK186.out 0).trans rfl; have hcz45_1 : w43.cell? ⟨gb186, 1, none⟩ = some (.slice none 0 0) := (Z2 BK186.out 1).trans rfl; have hfz45_0 := Z1 BK186.out 0; have hfz45_1 := Z1 BK186.out 1; have hcz46_0 : w43.cell? ⟨gb182, 0, none⟩ = some (.int .i64 a0_0) := (Z2 BK182.out 0).trans rfl; have hcz46_1 : w43.cell? ⟨gb182, 1, none⟩ = some (.slice A0_1 l0_1.length c0_1) := (Z2 BK182.out 1).trans rfl; have hcz46_2 : w43.cell? ⟨gb182, 2, none⟩ = some (.slice (some ad185) l0_2.length c0_2) := (Z2 BK182.out 2).trans rfl; have hfz46_0 := Z1 BK182.out 0; have hfz46_1 := Z1 BK182.out 1; have hfz46_2 := Z1 BK182.out 2))
          go_ret
          exact ⟨rfl, V0⟩
        ·rw [if_neg c17] at H
         exact absurd H (by simp)
       ·rw [if_neg c16] at H
        exact absurd H (by simp)
      ·rw [if_neg c15] at H
       have c15b0 : decide (x25_1 < (l0_2.length : Int)) = false := decide_eq_false c15
       clear c15
       obtain rfl := Option.some.inj H
       go_wp2
       go_ret
       exact ⟨rfl, V0⟩
  ·rw [if_neg c5] at H
   have c5b0 : (t184 == 0) = false := beq_eq_false_iff_ne.mpr c5
   have c5b1 : (t184 != 0) = true := bne_iff_ne.mpr c5
   obtain rfl := Option.some.inj H
   go_enter Tryz.func34, Tryz.ntmps34
   go_wp2_with (first | ((with_reducible refine Y4 (N := 1) rfl ?_); refine Y2 ?hg (N := 1) ?hd (cs := #[.int .i64 a0_0, .slice A0_1 l0_1.length c0_1, .slice A0_2 l0_2.length c0_2]) (t := 35) ?hr ?_; (case hd => rfl); (case hg => rfl); (case hr => go_simp; try rfl); intro gb182 hg w47 hbox hb; have n0_ := Z0 (Z6 V0 hb); have n1_ := Z0 (hbox); have n3_ := Z0 ((by rw [hg]; exact (Y0 V0) : w.heap.size ≤ gb182)); clear HB; have HB := n0_; have BK182 := n1_; have GE182 := n3_; clear n0_ n1_ n3_; clear hb hbox hg; have hcz48_0 : w47.cell? ⟨gb182, 0, none⟩ = some (.int .i64 a0_0) := (Z2 BK182.out 0).trans rfl; have hcz48_1 : w47.cell? ⟨gb182, 1, none⟩ = some (.slice A0_1 l0_1.length c0_1) := (Z2 BK182.out 1).trans rfl; have hcz48_2 : w47.cell? ⟨gb182, 2, none⟩ = some (.slice A0_2 l0_2.length c0_2) := (Z2 BK182.out 2).trans rfl; have hfz48_0 := Z1 BK182.out 0; have hfz48_1 := Z1 BK182.out 1; have hfz48_2 := Z1 BK182.out 2) | ((with_reducible refine Y3 (f := 48) rfl ?_); refine goesL_ (some 10) rfl rfl Tryz.func48 (by kernel_rfl) rfl #[.int .i64 a0_0] rfl V1 ?_; (with_reducible refine (table_isPage.calls a0_0 true _ A2.out).mono ?_); rintro e w' ⟨rfl, ⟨nd, rfl⟩⟩; refine ⟨_, rfl, ?_⟩) | ((with_reducible refine Y3 (f := 36) rfl ?_); refine goesL_ (some 14) rfl rfl Tryz.func36 (by kernel_rfl) rfl #[.slice A0_1 l0_1.length c0_1] rfl V1 ?_; (with_reducible refine (table_ValidateFields.calls _ _ l0_1 t184 _ ?side1 ?side2 A4.out).mono ?_); (case side1 => repeat (first | exact (Kd.C_below HR0_1.out V0) | (with_reducible refine Kd.C_alloc ?_ _) | (with_reducible refine Kd.C_drewN ?_ _) | (with_reducible refine Kd.C_drew ?_))); (case side2 => exact HC0_1.out); rintro e w49 ⟨rfl, hb⟩; refine ⟨_, rfl, ?_⟩; have n0_ := Z0 (Z7 (g := gb182) (o := .cells #[.int .i64 a0_0, .slice A0_1 l0_1.length c0_1, .slice A0_2 l0_2.length c0_2] 35 (0, 0)) (by (with_reducible repeat (first | refine Z8 ?_ _ | refine Y1 ?_ | refine Z9 ?_ _)); exact BK182.out) hb); have n1_ := Z0 (Z6 V0 hb); clear BK182; clear HB; have BK182 := n0_; have HB := n1_; clear n0_ n1_; (try clear hb); (try clear hb2); (try clear hk); (try clear hi)))
   go_ret
   exact ⟨rfl, V0⟩
 ·replace c3 := Bool.eq_false_iff.mpr c3
  subst c3
  have H1 : (some 1) = some r := by rw [if_neg (show ¬ (false = true) by decide)] at H; exact H
  clear H
  have H := H1
  clear H1
  obtain rfl := Option.some.inj H
  go_enter Tryz.func34, Tryz.ntmps34
  go_wp2_with (first | ((with_reducible refine Y4 (N := 1) rfl ?_); refine Y2 ?hg (N := 1) ?hd (cs := #[.int .i64 a0_0, .slice A0_1 l0_1.length c0_1, .slice A0_2 l0_2.length c0_2]) (t := 35) ?hr ?_; (case hd => rfl); (case hg => rfl); (case hr => go_simp; try rfl); intro gb182 hg w50 hbox hb; have n0_ := Z0 (Z6 V0 hb); have n1_ := Z0 (hbox); have n3_ := Z0 ((by rw [hg]; exact (Y0 V0) : w.heap.size ≤ gb182)); clear HB; have HB := n0_; have BK182 := n1_; have GE182 := n3_; clear n0_ n1_ n3_; clear hb hbox hg; have hcz51_0 : w50.cell? ⟨gb182, 0, none⟩ = some (.int .i64 a0_0) := (Z2 BK182.out 0).trans rfl; have hcz51_1 : w50.cell? ⟨gb182, 1, none⟩ = some (.slice A0_1 l0_1.length c0_1) := (Z2 BK182.out 1).trans rfl; have hcz51_2 : w50.cell? ⟨gb182, 2, none⟩ = some (.slice A0_2 l0_2.length c0_2) := (Z2 BK182.out 2).trans rfl; have hfz51_0 := Z1 BK182.out 0; have hfz51_1 := Z1 BK182.out 1; have hfz51_2 := Z1 BK182.out 2) | ((with_reducible refine Y3 (f := 48) rfl ?_); refine goesL_ (some 10) rfl rfl Tryz.func48 (by kernel_rfl) rfl #[.int .i64 a0_0] rfl V1 ?_; (with_reducible refine (table_isPage.calls a0_0 false _ A2.out).mono ?_); rintro e w' ⟨rfl, ⟨nd, rfl⟩⟩; refine ⟨_, rfl, ?_⟩))
  go_ret
  exact ⟨rfl, V0⟩
def cabinetryref03_ValidateRecord.l0 : Nat → List (S23) → Int → Int → Bool → List (S25) → Option (Int)
 | 0, _, _, _, _, _ => none
 | k + 1, x0, x1, x7, x220000, x220001 => if x7 < (x0.length : Int) then (if 0 ≤ x7 then (if x7 < (x220001.length : Int) then ((cabinetryref03_fits.f k ((rd_T23 x0 x7).f0) ((rd_T23 x0 x7).f1) ((rd_T23 x0 x7).f2) ((rd_T23 x0 x7).f3) x1 ((rd_T25 x220001 x7).f0) ((rd_T25 x220001 x7).f1) ((rd_T25 x220001 x7).f2)).bind fun t222 => (if t222 = true then (cabinetryref03_ValidateRecord.l0 k x0 x1 (wrap64 (x7 + 1)) x220000 x220001) else (some 1))) else (none)) else (none)) else (some 0)
def cabinetryref03_ValidateRecord.f (k : Nat) (l0 : List (S23)) (a1 : Int) (a2_0 : Bool) (l2_1 : List (S25)) : Option (Int) := if (l2_1.length : Int) = (l0.length : Int) then (cabinetryref03_ValidateRecord.l0 k l0 a1 0 a2_0 l2_1) else (some 10)
theorem cabinetryref03_ValidateRecord.mono_l : ∀ k, (∀ y0 y1 y2 y3 y4, LeO (cabinetryref03_ValidateRecord.l0 k y0 y1 y2 y3 y4) (cabinetryref03_ValidateRecord.l0 (k + 1) y0 y1 y2 y3 y4))
 | 0 => fun _ _ _ _ _ r h => by simp [cabinetryref03_ValidateRecord.l0] at h
 | k + 1 => by
  have ih0 := cabinetryref03_ValidateRecord.mono_l k
  ·intro y0 y1 y2 y3 y4
   unfold cabinetryref03_ValidateRecord.l0
   repeat' first
   | (with_reducible exact ih0 _ _ _ _ _)
   | (with_reducible exact cabinetryref03_fits.mono _ _ _ _ _ _ _ _ _)
   | (with_reducible exact LeO.refl _)
   | (with_reducible exact Y5 _)
   | (with_reducible refine Y7 ?_ ?_)
   | (with_reducible refine Y6 ?_ (fun _ => ?_))
   | exact ih0 _ _ _ _ _
   | exact cabinetryref03_fits.mono _ _ _ _ _ _ _ _ _
   | exact Y5 _
   | refine Y7 ?_ ?_
   | refine Y6 ?_ (fun _ => ?_)
theorem cabinetryref03_ValidateRecord.mono : ∀ a0 a1 a2 a3 k, LeO (cabinetryref03_ValidateRecord.f k a0 a1 a2 a3) (cabinetryref03_ValidateRecord.f (k + 1) a0 a1 a2 a3) := by
 intro a0 a1 a2 a3 k
 have ih0 := cabinetryref03_ValidateRecord.mono_l k
 unfold cabinetryref03_ValidateRecord.f
 repeat' first
   | (with_reducible exact ih0 _ _ _ _ _)
   | (with_reducible exact cabinetryref03_fits.mono _ _ _ _ _ _ _ _ _)
   | (with_reducible exact LeO.refl _)
   | (with_reducible exact Y5 _)
   | (with_reducible refine Y7 ?_ ?_)
   | (with_reducible refine Y6 ?_ (fun _ => ?_))
   | exact ih0 _ _ _ _ _
   | exact cabinetryref03_fits.mono _ _ _ _ _ _ _ _ _
   | exact Y5 _
   | refine Y7 ?_ ?_
   | refine Y6 ?_ (fun _ => ?_)
def cabinetryref03_ValidateRecord.T6 : Bool × List (List Nat × List Nat) := (true, [([], []), ([], []), ([0, 1], [0, 1]), ([2], [2]), ([], []), ([], []), ([5], [5]), ([], []), ([6, 7], [6, 7]), ([8], [8]), ([3, 4, 9], [3, 4, 9]), ([10], [10])])
def cabinetryref03_ValidateRecord.B6 : List Nat := [0, 0, 3, 7, 0, 0, 32, 0, 224, 480, 1023, 2047]
theorem cabinetryref03_ValidateRecord.tab6 : rtab .any (opsOf Tryz.f74 6) = cabinetryref03_ValidateRecord.T6 := by kernel_rfl
theorem cabinetryref03_ValidateRecord.bits6 : waitsOk cabinetryref03_ValidateRecord.T6.2 cabinetryref03_ValidateRecord.B6 = true := by kernel_rfl
set_option maxHeartbeats 8000000 in
set_option maxRecDepth 100000 in
theorem cabinetryref03_ValidateRecord.calls (k : Nat) (A0 : Option Addr) (c0 : Nat) (l0 : List (S23)) (a1 : Int) (a2_0 : Bool) (A2_1 : Option Addr) (c2_1 : Nat) (l2_1 : List (S25)) (r : Int) (w : World) (hr0 : Kd.C k23 w A0 l0.length l0) (hc0 : l0.length ≤ c0) (hr2_1 : Kd.C k25 w A2_1 l2_1.length l2_1) (hc2_1 : l2_1.length ≤ c2_1) (h : cabinetryref03_ValidateRecord.f k l0 a1 a2_0 l2_1 = some r) :
  Calls Tryz.prog 74 #[.slice A0 l0.length c0, .int .i64 a1, .agg #[.bool a2_0, .slice A2_1 l2_1.length c2_1]] w fun e w' => e = .returned (.int .i64 r) ∧ Below w.heap.size w w' := by
 have hu46 := Tryz.underlying46
 have hu23 := Tryz.underlying23
 have hu25 := Tryz.underlying25
 have HR0 := Z0 hr0
 have HC0 := Z0 hc0
 clear hr0 hc0
 have HR2_1 := Z0 hr2_1
 have HC2_1 := Z0 hc2_1
 clear hr2_1 hc2_1
 have HB := Z0 (Below.refl w.heap.size w)
 have H : (if (l2_1.length : Int) = (l0.length : Int) then (cabinetryref03_ValidateRecord.l0 k l0 a1 0 a2_0 l2_1) else (some 10)) = some r := h
 clear h
 by_cases c4 : (l2_1.length : Int) = (l0.length : Int)
 ·rw [if_pos c4] at H
  have c4b0 : ((l2_1.length : Int) == (l0.length : Int)) = true := beq_iff_eq.mpr c4
  have c4b1 : ((l2_1.length : Int) != (l0.length : Int)) = false := bne_eq_false_iff_eq.mpr c4
  have c4b2 : (l2_1.length == l0.length) = true := by first | simpa using c4 | (simp at c4 ⊢; omega)
  clear c4
  have H' := Z0 H
  clear H
  go_enter Tryz.func74, Tryz.ntmps74
  go_wp2_with (first | ((with_reducible refine Y4 (N := 5) rfl ?_); refine Y2 ?hg (N := 5) ?hd (cs := #[.bool a2_0, .slice A2_1 l2_1.length c2_1]) (t := 46) ?hr ?_; (case hd => rfl); (case hg => rfl); (case hr => go_simp; try rfl); intro gb219 hg w5 hbox hb; have n0_ := Z0 (Z6 HB.out hb); have n1_ := Z0 (hbox); have n3_ := Z0 ((by rw [hg]; exact (Y0 HB.out) : w.heap.size ≤ gb219)); clear HB; have HB := n0_; have BK219 := n1_; have GE219 := n3_; clear n0_ n1_ n3_; clear hb hbox hg; have hcz6_0 : w5.cell? ⟨gb219, 0, none⟩ = some (.bool a2_0) := (Z2 BK219.out 0).trans rfl; have hcz6_1 : w5.cell? ⟨gb219, 1, none⟩ = some (.slice A2_1 l2_1.length c2_1) := (Z2 BK219.out 1).trans rfl; have hfz6_0 := Z1 BK219.out 0; have hfz6_1 := Z1 BK219.out 1))
  go_loopg [7] k (fun kq v7 w' => ∃ (x7_1 : Int), v7 = .int .i64 x7_1 ∧ Aside0 (cabinetryref03_ValidateRecord.l0 kq l0 a1 x7_1 a2_0 l2_1 = some r) ∧ Aside0 (kq ≤ k) ∧ Aside0 (w'.heap[gb219]? = some (.cells #[.bool a2_0, (.slice A2_1 l2_1.length c2_1)] 46 (0, 0))) ∧ Aside0 (Below w.heap.size w w'))
  case atStart => exact ⟨(0), V2, H', ⟨Nat.le_refl _⟩, ⟨by (with_reducible repeat (first | refine Z8 ?_ _ | refine Y1 ?_ | refine Z9 ?_ _)); exact BK219.out⟩, ⟨V0⟩⟩
  case round =>
   clear H'
   (try clear c2);(try clear p2);(try clear c4);(try clear c4b0);(try clear c4b1);(try clear c4b2);(try clear hcz6_0);(try clear hcz6_1);(try clear hfz6_0);(try clear hfz6_1)
   obtain ⟨x7_1, rfl, HA, HK1, BK219, HB⟩ := hrel
   cases gk with
   | zero => exact absurd HA.out (by simp [cabinetryref03_ValidateRecord.l0])
   | succ k1 =>
    have H := HA.out
    clear HA
    simp only [cabinetryref03_ValidateRecord.l0] at H
    by_cases c7 : x7_1 < (l0.length : Int)
    ·rw [if_pos c7] at H
     have c7b0 : decide (x7_1 < (l0.length : Int)) = true := decide_eq_true c7
     clear c7
     by_cases c8 : 0 ≤ x7_1
     ·rw [if_pos c8] at H
      have c8b0 : decide (0 ≤ x7_1) = true := decide_eq_true c8
      clear c8
      by_cases c9 : x7_1 < (l2_1.length : Int)
      ·rw [if_pos c9] at H
       have c9b0 : decide (x7_1 < (l2_1.length : Int)) = true := decide_eq_true c9
       clear c9
       replace H := Option.bind_eq_some_iff.mp H
       obtain ⟨t222, A100, H⟩ := H
       replace H : (if t222 = true then (cabinetryref03_ValidateRecord.l0 k1 l0 a1 (wrap64 (x7_1 + 1)) a2_0 l2_1) else (some 1)) = some r := H
       have A10 := Z0 A100
       clear A100
       by_cases c11 : t222 = true
       ·subst c11
        have H1 : (cabinetryref03_ValidateRecord.l0 k1 l0 a1 (wrap64 (x7_1 + 1)) a2_0 l2_1) = some r := by rw [if_pos rfl] at H; exact H
        clear H
        have H := H1
        clear H1
        have H' := Z0 H
        clear H
        try go_wp2
        have n0_ := Z0 (Y1 BK219.out)
        have n1_ := Z0 (below_drew1 HB.out)
        clear BK219
        clear HB
        have BK219 := n0_
        have HB := n1_
        clear n0_ n1_
        have p220 : 0 ≤ (x7_1 : Int) := of_decide_eq_true V3
        have q220 : x7_1 < (l0.length : Int) := of_decide_eq_true V3
        obtain ⟨ad220, e220, hx220_0, hx220_1, hx220_2, hx220_3⟩ := at_T23 HR0.out x7_1 p220 q220
        have hw220_3 := hx220_3
        have hw220_2 := hx220_2
        have hw220_1 := hx220_1
        have hw220_0 := hx220_0
        cases e220
        replace hx220_0 := (HB.out.cell (World.block_lt_of_cell? w _ hx220_0)).trans hx220_0
        replace hx220_1 := (HB.out.cell (World.block_lt_of_cell? w _ hx220_1)).trans hx220_1
        replace hx220_2 := (HB.out.cell (World.block_lt_of_cell? w _ hx220_2)).trans hx220_2
        replace hx220_3 := (HB.out.cell (World.block_lt_of_cell? w _ hx220_3)).trans hx220_3
        replace p220 := eq_true p220
        replace q220 := eq_true q220
        have p221 : 0 ≤ (x7_1 : Int) := of_decide_eq_true V3
        have q221 : x7_1 < (l2_1.length : Int) := of_decide_eq_true V3
        obtain ⟨ad221, e221, hx221_0, hx221_1, hx221_2⟩ := at_T25 HR2_1.out x7_1 p221 q221
        have hw221_2 := hx221_2
        have hw221_1 := hx221_1
        have hw221_0 := hx221_0
        cases e221
        replace hx221_0 := (HB.out.cell (World.block_lt_of_cell? w _ hx221_0)).trans hx221_0
        replace hx221_1 := (HB.out.cell (World.block_lt_of_cell? w _ hx221_1)).trans hx221_1
        replace hx221_2 := (HB.out.cell (World.block_lt_of_cell? w _ hx221_2)).trans hx221_2
        replace p221 := eq_true p221
        replace q221 := eq_true q221
        refine start_ (n := 12) (S := fun w' => w'.cell? ⟨gb219, 0, none⟩ = some (.bool a2_0) ∧ w'.cell? ⟨gb219, 1, none⟩ = some (.slice (some ad221) l2_1.length c2_1) ∧ w'.cell? (ad220.add ((x7_1).toNat * 4)) = some (.string ((rd_T23 l0 x7_1).f0)) ∧ w'.cell? ⟨(ad220.add ((x7_1).toNat * 4)).block, (ad220.add ((x7_1).toNat * 4)).off + 1, none⟩ = some (.int .i64 ((rd_T23 l0 x7_1).f1)) ∧ w'.cell? ⟨(ad220.add ((x7_1).toNat * 4)).block, (ad220.add ((x7_1).toNat * 4)).off + 2, none⟩ = some (.int .i64 ((rd_T23 l0 x7_1).f2)) ∧ w'.cell? ⟨(ad220.add ((x7_1).toNat * 4)).block, (ad220.add ((x7_1).toNat * 4)).off + 3, none⟩ = some (.bool ((rd_T23 l0 x7_1).f3)) ∧ w'.cell? (ad221.add ((x7_1).toNat * 3)) = some (.int .i64 ((rd_T25 l2_1 x7_1).f0)) ∧ w'.cell? ⟨(ad221.add ((x7_1).toNat * 3)).block, (ad221.add ((x7_1).toNat * 3)).off + 1, none⟩ = some (.int .i64 ((rd_T25 l2_1 x7_1).f1)) ∧ w'.cell? ⟨(ad221.add ((x7_1).toNat * 3)).block, (ad221.add ((x7_1).toNat * 3)).off + 2, none⟩ = some (.string ((rd_T25 l2_1 x7_1).f2))) (ds := []) #[false, false, false, false, false, false, false, false, false, false, false, false] (by kernel_rfl) rfl rfl ⟨(Z2 BK219.out 0).trans rfl, (Z2 BK219.out 1).trans rfl, ((HB.out.cell (World.block_lt_of_cell? w _ hw220_0)).trans hw220_0), ((HB.out.cell (World.block_lt_of_cell? w _ hw220_1)).trans hw220_1), ((HB.out.cell (World.block_lt_of_cell? w _ hw220_2)).trans hw220_2), ((HB.out.cell (World.block_lt_of_cell? w _ hw220_3)).trans hw220_3), ((HB.out.cell (World.block_lt_of_cell? w _ hw221_0)).trans hw221_0), ((HB.out.cell (World.block_lt_of_cell? w _ hw221_1)).trans hw221_1), ((HB.out.cell (World.block_lt_of_cell? w _ hw221_2)).trans hw221_2)⟩ (fun hHeld => ?_); refine with_tabW cabinetryref03_ValidateRecord.tab6 cabinetryref03_ValidateRecord.bits6 (fun HT_ HW_ => ?_)
        generalize wr.drew = w12 at BK219 HB hx220_0 hx220_1 hx220_2 hx220_3 hx221_0 hx221_1 hx221_2 hHeld ⊢
        refine pure_ (i := 0) (N := some 20) (v := ?_) (a' := ?_) #[true, false, false, false, false, false, false, false, false, false, false, false] rfl rfl (any_of HT_.out (by kernel_rfl)) (fun _ _ _ h => h) (Or.inl ⟨by rfl, ?_⟩) ?_ ?_
        rotate_left
        ·intro w'
         go_simp
         with_reducible rfl
        rotate_left
        ·simp only [Act.put, Z3, Z4, Z5, i64_w, i32_w]
         rfl
        refine pure_ (i := 1) (N := some 21) (v := ?_) (a' := ?_) #[true, true, false, false, false, false, false, false, false, false, false, false] rfl rfl (any_of HT_.out (by kernel_rfl)) (fun _ _ _ h => h) (Or.inl ⟨by rfl, ?_⟩) ?_ ?_
        rotate_left
        ·intro w'
         go_simp
         with_reducible rfl
        rotate_left
        ·simp only [Act.put, Z3, Z4, Z5, i64_w, i32_w]
         rfl
        refine pure_ (i := 2) (N := some 22) (v := ?_) (a' := ?_) #[true, true, true, false, false, false, false, false, false, false, false, false] rfl rfl (any_of HT_.out (by kernel_rfl)) (fun _ _ _ h => h) (Or.inl ⟨by rfl, ?_⟩) ?_ ?_
        rotate_left
        ·intro w'
         go_simp
         with_reducible rfl
        rotate_left
        ·simp only [Act.put, Z3, Z4, Z5, i64_w, i32_w]
         rfl
        refine pure_ (i := 4) (N := some 24) (v := ?_) (a' := ?_) #[true, true, true, false, true, false, false, false, false, false, false, false] rfl rfl (any_of HT_.out (by kernel_rfl)) (fun _ _ _ h => h) (Or.inl ⟨by rfl, ?_⟩) ?_ ?_
        rotate_left
        ·intro w'
         go_simp
         with_reducible rfl
        rotate_left
        ·simp only [Act.put, Z3, Z4, Z5, i64_w, i32_w]
         rfl
        refine pure_ (i := 5) (N := some 25) (v := ?_) (a' := ?_) #[true, true, true, false, true, true, false, false, false, false, false, false] rfl rfl (any_of HT_.out (by kernel_rfl)) (fun _ _ _ h => h) (Or.inl ⟨by rfl, ?_⟩) ?_ ?_
        rotate_left
        ·intro w'
         go_simp
         with_reducible rfl
        rotate_left
        ·simp only [Act.put, Z3, Z4, Z5, i64_w, i32_w]
         rfl
        refine pure_ (i := 7) (N := some 27) (v := ?_) (a' := ?_) #[true, true, true, false, true, true, false, true, false, false, false, false] rfl rfl (any_of HT_.out (by kernel_rfl)) (fun _ _ _ h => h) (Or.inl ⟨by rfl, ?_⟩) ?_ ?_
        rotate_left
        ·intro w'
         go_simp
         with_reducible rfl
        rotate_left
        ·simp only [Act.put, Z3, Z4, Z5, i64_w, i32_w]
         rfl
        refine take_ (i := 3) (N := some 23) (v := ?_) (a' := ?_) #[true, true, true, true, true, true, false, true, false, false, false, false] rfl rfl (take_ofW HT_.out HW_.out (by kernel_rfl)) (fun _ _ _ h => h) (Or.inl ⟨by rfl, ?_⟩) hHeld ?_ ?_
        rotate_left
        ·rintro w' ⟨s0, s1, s2, s3, s4, s5, s6, s7, s8⟩
         go_simp
         with_reducible rfl
        rotate_left
        ·simp only [Act.put, Z3, Z4, Z5, i64_w, i32_w]
         rfl
        refine take_ (i := 6) (N := some 26) (v := ?_) (a' := ?_) #[true, true, true, true, true, true, true, true, false, false, false, false] rfl rfl (take_ofW HT_.out HW_.out (by kernel_rfl)) (fun _ _ _ h => h) (Or.inl ⟨by rfl, ?_⟩) hHeld ?_ ?_
        rotate_left
        ·rintro w' ⟨s0, s1, s2, s3, s4, s5, s6, s7, s8⟩
         go_simp
         with_reducible rfl
        rotate_left
        ·simp only [Act.put, Z3, Z4, Z5, i64_w, i32_w]
         rfl
        refine pure_ (i := 8) (N := some 28) (v := ?_) (a' := ?_) #[true, true, true, true, true, true, true, true, true, false, false, false] rfl rfl (any_of HT_.out (by kernel_rfl)) (fun _ _ _ h => h) (Or.inl ⟨by rfl, ?_⟩) ?_ ?_
        rotate_left
        ·intro w'
         go_simp
         with_reducible rfl
        rotate_left
        ·simp only [Act.put, Z3, Z4, Z5, i64_w, i32_w]
         rfl
        refine take_ (i := 9) (N := some 29) (v := ?_) (a' := ?_) #[true, true, true, true, true, true, true, true, true, true, false, false] rfl rfl (take_ofW HT_.out HW_.out (by kernel_rfl)) (fun _ _ _ h => h) (Or.inl ⟨by rfl, ?_⟩) hHeld ?_ ?_
        rotate_left
        ·rintro w' ⟨s0, s1, s2, s3, s4, s5, s6, s7, s8⟩
         go_simp
         with_reducible rfl
        rotate_left
        ·simp only [Act.put, Z3, Z4, Z5, i64_w, i32_w]
         rfl
        refine one_ (i := 10) (N := some 30) #[true, true, true, true, true, true, true, true, true, true, true, false] rfl rfl (one_of HT_.out (by kernel_rfl)) (by decide) (fun K hK => ?_)
        refine goes_ Tryz.func105 (by kernel_rfl) rfl #[.agg #[.string ((rd_T23 l0 x7_1).f0), .int .i64 ((rd_T23 l0 x7_1).f1), .int .i64 ((rd_T23 l0 x7_1).f2), .bool ((rd_T23 l0 x7_1).f3)], .int .i64 a1, .agg #[.int .i64 ((rd_T25 l2_1 x7_1).f0), .int .i64 ((rd_T25 l2_1 x7_1).f1), .string ((rd_T25 l2_1 x7_1).f2)]] (by rfl) rfl rfl V1 ?_
        with_reducible refine (cabinetryref03_fits.calls k1 ((rd_T23 l0 x7_1).f0) ((rd_T23 l0 x7_1).f1) ((rd_T23 l0 x7_1).f2) ((rd_T23 l0 x7_1).f3) a1 ((rd_T25 l2_1 x7_1).f0) ((rd_T25 l2_1 x7_1).f1) ((rd_T25 l2_1 x7_1).f2) true _ A10.out).mono ?_
        rintro e w13 ⟨rfl, hb⟩
        refine ⟨_, rfl, ?_⟩
        have n0_ := Z0 (Z7 (g := gb219) (o := .cells #[.bool a2_0, .slice (some ad221) l2_1.length c2_1] 46 (0, 0)) BK219.out hb)
        have n1_ := Z0 (Z6 HB.out hb)
        clear BK219
        clear HB
        have BK219 := n0_
        have HB := n1_
        clear n0_ n1_
        (try clear hb)
        (try clear hb2)
        (try clear hk)
        (try clear hi)
        refine hK.out _ _ ⟨(Z2 BK219.out 0).trans rfl, (Z2 BK219.out 1).trans rfl, ((HB.out.cell (World.block_lt_of_cell? w _ hw220_0)).trans hw220_0), ((HB.out.cell (World.block_lt_of_cell? w _ hw220_1)).trans hw220_1), ((HB.out.cell (World.block_lt_of_cell? w _ hw220_2)).trans hw220_2), ((HB.out.cell (World.block_lt_of_cell? w _ hw220_3)).trans hw220_3), ((HB.out.cell (World.block_lt_of_cell? w _ hw221_0)).trans hw221_0), ((HB.out.cell (World.block_lt_of_cell? w _ hw221_1)).trans hw221_1), ((HB.out.cell (World.block_lt_of_cell? w _ hw221_2)).trans hw221_2)⟩ (fun hHeld => ?_)
        clear hK K
        refine norm_ (a' := ?_) ?_ ?_
        rotate_left
        ·show Act.put _ (some 30) _ = _
         simp only [Act.put, Z3, Z4, Z5, i64_w, i32_w]
         rfl
        refine pure_ (i := 11) (N := some 31) (v := ?_) (a' := ?_) #[true, true, true, true, true, true, true, true, true, true, true, true] rfl rfl (any_of HT_.out (by kernel_rfl)) (fun _ _ _ h => h) (Or.inl ⟨by rfl, ?_⟩) ?_ ?_
        rotate_left
        ·intro w'
         go_simp
         with_reducible rfl
        rotate_left
        ·simp only [Act.put, Z3, Z4, Z5, i64_w, i32_w]
         rfl
        refine done_ (done_of HT_.out (by kernel_rfl)) ?_
        try go_wp2
        go_roundg k1
        case measure => have := HK1.out; omega
        case rel => exact ⟨(wrap64 (x7_1 + 1)), V2, H', ⟨by have := HK1.out; omega⟩, ⟨by (with_reducible repeat (first | refine Z8 ?_ _ | refine Y1 ?_ | refine Z9 ?_ _)); exact BK219.out⟩, ⟨V0⟩⟩
       ·replace c11 := Bool.eq_false_iff.mpr c11
        subst c11
        have H1 : (some 1) = some r := by rw [if_neg (show ¬ (false = true) by decide)] at H; exact H
        clear H
        have H := H1
        clear H1
        obtain rfl := Option.some.inj H
        try go_wp2
        have n0_ := Z0 (Y1 BK219.out)
        have n1_ := Z0 (below_drew1 HB.out)
        clear BK219
        clear HB
        have BK219 := n0_
        have HB := n1_
        clear n0_ n1_
        have p220 : 0 ≤ (x7_1 : Int) := of_decide_eq_true V3
        have q220 : x7_1 < (l0.length : Int) := of_decide_eq_true V3
        obtain ⟨ad220, e220, hx220_0, hx220_1, hx220_2, hx220_3⟩ := at_T23 HR0.out x7_1 p220 q220
        have hw220_3 := hx220_3
        have hw220_2 := hx220_2
        have hw220_1 := hx220_1
        have hw220_0 := hx220_0
        cases e220
        replace hx220_0 := (HB.out.cell (World.block_lt_of_cell? w _ hx220_0)).trans hx220_0
        replace hx220_1 := (HB.out.cell (World.block_lt_of_cell? w _ hx220_1)).trans hx220_1
        replace hx220_2 := (HB.out.cell (World.block_lt_of_cell? w _ hx220_2)).trans hx220_2
        replace hx220_3 := (HB.out.cell (World.block_lt_of_cell? w _ hx220_3)).trans hx220_3
        replace p220 := eq_true p220
        replace q220 := eq_true q220
        have p221 : 0 ≤ (x7_1 : Int) := of_decide_eq_true V3
        have q221 : x7_1 < (l2_1.length : Int) := of_decide_eq_true V3
        obtain ⟨ad221, e221, hx221_0, hx221_1, hx221_2⟩ := at_T25 HR2_1.out x7_1 p221 q221
        have hw221_2 := hx221_2
        have hw221_1 := hx221_1
        have hw221_0 := hx221_0
        cases e221
        replace hx221_0 := (HB.out.cell (World.block_lt_of_cell? w _ hx221_0)).trans hx221_0
        replace hx221_1 := (HB.out.cell (World.block_lt_of_cell? w _ hx221_1)).trans hx221_1
        replace hx221_2 := (HB.out.cell (World.block_lt_of_cell? w _ hx221_2)).trans hx221_2
        replace p221 := eq_true p221
        replace q221 := eq_true q221
        refine start_ (n := 12) (S := fun w' => w'.cell? ⟨gb219, 0, none⟩ = some (.bool a2_0) ∧ w'.cell? ⟨gb219, 1, none⟩ = some (.slice (some ad221) l2_1.length c2_1) ∧ w'.cell? (ad220.add ((x7_1).toNat * 4)) = some (.string ((rd_T23 l0 x7_1).f0)) ∧ w'.cell? ⟨(ad220.add ((x7_1).toNat * 4)).block, (ad220.add ((x7_1).toNat * 4)).off + 1, none⟩ = some (.int .i64 ((rd_T23 l0 x7_1).f1)) ∧ w'.cell? ⟨(ad220.add ((x7_1).toNat * 4)).block, (ad220.add ((x7_1).toNat * 4)).off + 2, none⟩ = some (.int .i64 ((rd_T23 l0 x7_1).f2)) ∧ w'.cell? ⟨(ad220.add ((x7_1).toNat * 4)).block, (ad220.add ((x7_1).toNat * 4)).off + 3, none⟩ = some (.bool ((rd_T23 l0 x7_1).f3)) ∧ w'.cell? (ad221.add ((x7_1).toNat * 3)) = some (.int .i64 ((rd_T25 l2_1 x7_1).f0)) ∧ w'.cell? ⟨(ad221.add ((x7_1).toNat * 3)).block, (ad221.add ((x7_1).toNat * 3)).off + 1, none⟩ = some (.int .i64 ((rd_T25 l2_1 x7_1).f1)) ∧ w'.cell? ⟨(ad221.add ((x7_1).toNat * 3)).block, (ad221.add ((x7_1).toNat * 3)).off + 2, none⟩ = some (.string ((rd_T25 l2_1 x7_1).f2))) (ds := []) #[false, false, false, false, false, false, false, false, false, false, false, false] (by kernel_rfl) rfl rfl ⟨(Z2 BK219.out 0).trans rfl, (Z2 BK219.out 1).trans rfl, ((HB.out.cell (World.block_lt_of_cell? w _ hw220_0)).trans hw220_0), ((HB.out.cell (World.block_lt_of_cell? w _ hw220_1)).trans hw220_1), ((HB.out.cell (World.block_lt_of_cell? w _ hw220_2)).trans hw220_2), ((HB.out.cell (World.block_lt_of_cell? w _ hw220_3)).trans hw220_3), ((HB.out.cell (World.block_lt_of_cell? w _ hw221_0)).trans hw221_0), ((HB.out.cell (World.block_lt_of_cell? w _ hw221_1)).trans hw221_1), ((HB.out.cell (World.block_lt_of_cell? w _ hw221_2)).trans hw221_2)⟩ (fun hHeld => ?_); refine with_tabW cabinetryref03_ValidateRecord.tab6 cabinetryref03_ValidateRecord.bits6 (fun HT_ HW_ => ?_)
        generalize wr.drew = w14 at BK219 HB hx220_0 hx220_1 hx220_2 hx220_3 hx221_0 hx221_1 hx221_2 hHeld ⊢
        refine pure_ (i := 0) (N := some 20) (v := ?_) (a' := ?_) #[true, false, false, false, false, false, false, false, false, false, false, false] rfl rfl (any_of HT_.out (by kernel_rfl)) (fun _ _ _ h => h) (Or.inl ⟨by rfl, ?_⟩) ?_ ?_
        rotate_left
        ·intro w'
         go_simp
         with_reducible rfl
        rotate_left
        ·simp only [Act.put, Z3, Z4, Z5, i64_w, i32_w]
         rfl
        refine pure_ (i := 1) (N := some 21) (v := ?_) (a' := ?_) #[true, true, false, false, false, false, false, false, false, false, false, false] rfl rfl (any_of HT_.out (by kernel_rfl)) (fun _ _ _ h => h) (Or.inl ⟨by rfl, ?_⟩) ?_ ?_
        rotate_left
        ·intro w'
         go_simp
         with_reducible rfl
        rotate_left
        ·simp only [Act.put, Z3, Z4, Z5, i64_w, i32_w]
         rfl
        refine pure_ (i := 2) (N := some 22) (v := ?_) (a' := ?_) #[true, true, true, false, false, false, false, false, false, false, false, false] rfl rfl (any_of HT_.out (by kernel_rfl)) (fun _ _ _ h => h) (Or.inl ⟨by rfl, ?_⟩) ?_ ?_
        rotate_left
        ·intro w'
         go_simp
         with_reducible rfl
        rotate_left
        ·simp only [Act.put, Z3, Z4, Z5, i64_w, i32_w]
         rfl
        refine pure_ (i := 4) (N := some 24) (v := ?_) (a' := ?_) #[true, true, true, false, true, false, false, false, false, false, false, false] rfl rfl (any_of HT_.out (by kernel_rfl)) (fun _ _ _ h => h) (Or.inl ⟨by rfl, ?_⟩) ?_ ?_
        rotate_left
        ·intro w'
         go_simp
         with_reducible rfl
        rotate_left
        ·simp only [Act.put, Z3, Z4, Z5, i64_w, i32_w]
         rfl
        refine pure_ (i := 5) (N := some 25) (v := ?_) (a' := ?_) #[true, true, true, false, true, true, false, false, false, false, false, false] rfl rfl (any_of HT_.out (by kernel_rfl)) (fun _ _ _ h => h) (Or.inl ⟨by rfl, ?_⟩) ?_ ?_
        rotate_left
        ·intro w'
         go_simp
         with_reducible rfl
        rotate_left
        ·simp only [Act.put, Z3, Z4, Z5, i64_w, i32_w]
         rfl
        refine pure_ (i := 7) (N := some 27) (v := ?_) (a' := ?_) #[true, true, true, false, true, true, false, true, false, false, false, false] rfl rfl (any_of HT_.out (by kernel_rfl)) (fun _ _ _ h => h) (Or.inl ⟨by rfl, ?_⟩) ?_ ?_
        rotate_left
        ·intro w'
         go_simp
         with_reducible rfl
        rotate_left
        ·simp only [Act.put, Z3, Z4, Z5, i64_w, i32_w]
         rfl
        refine take_ (i := 3) (N := some 23) (v := ?_) (a' := ?_) #[true, true, true, true, true, true, false, true, false, false, false, false] rfl rfl (take_ofW HT_.out HW_.out (by kernel_rfl)) (fun _ _ _ h => h) (Or.inl ⟨by rfl, ?_⟩) hHeld ?_ ?_
        rotate_left
        ·rintro w' ⟨s0, s1, s2, s3, s4, s5, s6, s7, s8⟩
         go_simp
         with_reducible rfl
        rotate_left
        ·simp only [Act.put, Z3, Z4, Z5, i64_w, i32_w]
         rfl
        refine take_ (i := 6) (N := some 26) (v := ?_) (a' := ?_) #[true, true, true, true, true, true, true, true, false, false, false, false] rfl rfl (take_ofW HT_.out HW_.out (by kernel_rfl)) (fun _ _ _ h => h) (Or.inl ⟨by rfl, ?_⟩) hHeld ?_ ?_
        rotate_left
        ·rintro w' ⟨s0, s1, s2, s3, s4, s5, s6, s7, s8⟩
         go_simp
         with_reducible rfl
        rotate_left
        ·simp only [Act.put, Z3, Z4, Z5, i64_w, i32_w]
         rfl
        refine pure_ (i := 8) (N := some 28) (v := ?_) (a' := ?_) #[true, true, true, true, true, true, true, true, true, false, false, false] rfl rfl (any_of HT_.out (by kernel_rfl)) (fun _ _ _ h => h) (Or.inl ⟨by rfl, ?_⟩) ?_ ?_
        rotate_left
        ·intro w'
         go_simp
         with_reducible rfl
        rotate_left
        ·simp only [Act.put, Z3, Z4, Z5, i64_w, i32_w]
         rfl
        refine take_ (i := 9) (N := some 29) (v := ?_) (a' := ?_) #[true, true, true, true, true, true, true, true, true, true, false, false] rfl rfl (take_ofW HT_.out HW_.out (by kernel_rfl)) (fun _ _ _ h => h) (Or.inl ⟨by rfl, ?_⟩) hHeld ?_ ?_
        rotate_left
        ·rintro w' ⟨s0, s1, s2, s3, s4, s5, s6, s7, s8⟩
         go_simp
         with_reducible rfl
        rotate_left
        ·simp only [Act.put, Z3, Z4, Z5, i64_w, i32_w]
         rfl
        refine one_ (i := 10) (N := some 30) #[true, true, true, true, true, true, true, true, true, true, true, false] rfl rfl (one_of HT_.out (by kernel_rfl)) (by decide) (fun K hK => ?_)
        refine goes_ Tryz.func105 (by kernel_rfl) rfl #[.agg #[.string ((rd_T23 l0 x7_1).f0), .int .i64 ((rd_T23 l0 x7_1).f1), .int .i64 ((rd_T23 l0 x7_1).f2), .bool ((rd_T23 l0 x7_1).f3)], .int .i64 a1, .agg #[.int .i64 ((rd_T25 l2_1 x7_1).f0), .int .i64 ((rd_T25 l2_1 x7_1).f1), .string ((rd_T25 l2_1 x7_1).f2)]] (by rfl) rfl rfl V1 ?_
        with_reducible refine (cabinetryref03_fits.calls k1 ((rd_T23 l0 x7_1).f0) ((rd_T23 l0 x7_1).f1) ((rd_T23 l0 x7_1).f2) ((rd_T23 l0 x7_1).f3) a1 ((rd_T25 l2_1 x7_1).f0) ((rd_T25 l2_1 x7_1).f1) ((rd_T25 l2_1 x7_1).f2) false _ A10.out).mono ?_
        rintro e w15 ⟨rfl, hb⟩
        refine ⟨_, rfl, ?_⟩
        have n0_ := Z0 (Z7 (g := gb219) (o := .cells #[.bool a2_0, .slice (some ad221) l2_1.length c2_1] 46 (0, 0)) BK219.out hb)
        have n1_ := Z0 (Z6 HB.out hb)
        clear BK219
        clear HB
        have BK219 := n0_
        have HB := n1_
        clear n0_ n1_
        (try clear hb)
        (try clear hb2)
        (try clear hk)
        (try clear hi)
        refine hK.out _ _ ⟨(Z2 BK219.out 0).trans rfl, (Z2 BK219.out 1).trans rfl, ((HB.out.cell (World.block_lt_of_cell? w _ hw220_0)).trans hw220_0), ((HB.out.cell (World.block_lt_of_cell? w _ hw220_1)).trans hw220_1), ((HB.out.cell (World.block_lt_of_cell? w _ hw220_2)).trans hw220_2), ((HB.out.cell (World.block_lt_of_cell? w _ hw220_3)).trans hw220_3), ((HB.out.cell (World.block_lt_of_cell? w _ hw221_0)).trans hw221_0), ((HB.out.cell (World.block_lt_of_cell? w _ hw221_1)).trans hw221_1), ((HB.out.cell (World.block_lt_of_cell? w _ hw221_2)).trans hw221_2)⟩ (fun hHeld => ?_)
        clear hK K
        refine norm_ (a' := ?_) ?_ ?_
        rotate_left
        ·show Act.put _ (some 30) _ = _
         simp only [Act.put, Z3, Z4, Z5, i64_w, i32_w]
         rfl
        refine pure_ (i := 11) (N := some 31) (v := ?_) (a' := ?_) #[true, true, true, true, true, true, true, true, true, true, true, true] rfl rfl (any_of HT_.out (by kernel_rfl)) (fun _ _ _ h => h) (Or.inl ⟨by rfl, ?_⟩) ?_ ?_
        rotate_left
        ·intro w'
         go_simp
         with_reducible rfl
        rotate_left
        ·simp only [Act.put, Z3, Z4, Z5, i64_w, i32_w]
         rfl
        refine done_ (done_of HT_.out (by kernel_rfl)) ?_
        try go_wp2
        go_ret
        exact ⟨rfl, V0⟩
      ·rw [if_neg c9] at H
       exact absurd H (by simp)
     ·rw [if_neg c8] at H
      exact absurd H (by simp)
    ·rw [if_neg c7] at H
     have c7b0 : decide (x7_1 < (l0.length : Int)) = false := decide_eq_false c7
     clear c7
     obtain rfl := Option.some.inj H
     go_wp2
     go_ret
     exact ⟨rfl, V0⟩
 ·rw [if_neg c4] at H
  have c4b0 : ((l2_1.length : Int) == (l0.length : Int)) = false := beq_eq_false_iff_ne.mpr c4
  have c4b1 : ((l2_1.length : Int) != (l0.length : Int)) = true := bne_iff_ne.mpr c4
  have c4b2 : (l2_1.length == l0.length) = false := by first | simpa using c4 | (simp at c4 ⊢; omega)
  obtain rfl := Option.some.inj H
  go_enter Tryz.func74, Tryz.ntmps74
  go_wp2_with (first | ((with_reducible refine Y4 (N := 5) rfl ?_); refine Y2 ?hg (N := 5) ?hd (cs := #[.bool a2_0, .slice A2_1 l2_1.length c2_1]) (t := 46) ?hr ?_; (case hd => rfl); (case hg => rfl); (case hr => go_simp; try rfl); intro gb219 hg w16 hbox hb; have n0_ := Z0 (Z6 HB.out hb); have n1_ := Z0 (hbox); have n3_ := Z0 ((by rw [hg]; exact (Y0 HB.out) : w.heap.size ≤ gb219)); clear HB; have HB := n0_; have BK219 := n1_; have GE219 := n3_; clear n0_ n1_ n3_; clear hb hbox hg; have hcz17_0 : w16.cell? ⟨gb219, 0, none⟩ = some (.bool a2_0) := (Z2 BK219.out 0).trans rfl; have hcz17_1 : w16.cell? ⟨gb219, 1, none⟩ = some (.slice A2_1 l2_1.length c2_1) := (Z2 BK219.out 1).trans rfl; have hfz17_0 := Z1 BK219.out 0; have hfz17_1 := Z1 BK219.out 1))
  go_ret
  exact ⟨rfl, V0⟩
def cabinetryref03_Validate.l0 : Nat → Int → Int → List (S23) → List (S46) → Option (Int)
 | 0, _, _, _, _ => none
 | k + 1, x4, x224000, x224001, x224002 => if x4 < (x224002.length : Int) then (if 0 ≤ x4 then ((cabinetryref03_ValidateRecord.f k x224001 x224000 ((rd_T46 x224002 x4).f0) ((rd_T46 x224002 x4).f1)).bind fun t227 => (if t227 = 0 then (cabinetryref03_Validate.l0 k (wrap64 (x4 + 1)) x224000 x224001 x224002) else (some t227))) else (none)) else (some 0)
def cabinetryref03_Validate.f (k : Nat) (a0_0 : Int) (l0_1 : List (S23)) (l0_2 : List (S46)) : Option (Int) := (cabinetryref03_isPage.f a0_0).bind fun t224 => (if t224 = true then ((cabinetryref03_ValidateFields.f k l0_1).bind fun t225 => (if t225 = 0 then (if (l0_2.length : Int) > 300 then (some 3) else (cabinetryref03_Validate.l0 k 0 a0_0 l0_1 l0_2)) else (some t225))) else (some 1))
theorem cabinetryref03_Validate.mono_l : ∀ k, (∀ y0 y1 y2 y3, LeO (cabinetryref03_Validate.l0 k y0 y1 y2 y3) (cabinetryref03_Validate.l0 (k + 1) y0 y1 y2 y3))
 | 0 => fun _ _ _ _ r h => by simp [cabinetryref03_Validate.l0] at h
 | k + 1 => by
  have ih0 := cabinetryref03_Validate.mono_l k
  ·intro y0 y1 y2 y3
   unfold cabinetryref03_Validate.l0
   repeat' first
   | (with_reducible exact ih0 _ _ _ _)
   | (with_reducible exact cabinetryref03_ValidateFields.mono _ _)
   | (with_reducible exact cabinetryref03_ValidateRecord.mono _ _ _ _ _)
   | (with_reducible exact LeO.refl _)
   | (with_reducible exact Y5 _)
   | (with_reducible refine Y7 ?_ ?_)
   | (with_reducible refine Y6 ?_ (fun _ => ?_))
   | exact ih0 _ _ _ _
   | exact cabinetryref03_ValidateFields.mono _ _
   | exact cabinetryref03_ValidateRecord.mono _ _ _ _ _
   | exact Y5 _
   | refine Y7 ?_ ?_
   | refine Y6 ?_ (fun _ => ?_)
theorem cabinetryref03_Validate.mono : ∀ a0 a1 a2 k, LeO (cabinetryref03_Validate.f k a0 a1 a2) (cabinetryref03_Validate.f (k + 1) a0 a1 a2) := by
 intro a0 a1 a2 k
 have ih0 := cabinetryref03_Validate.mono_l k
 unfold cabinetryref03_Validate.f
 repeat' first
   | (with_reducible exact ih0 _ _ _ _)
   | (with_reducible exact cabinetryref03_ValidateFields.mono _ _)
   | (with_reducible exact cabinetryref03_ValidateRecord.mono _ _ _ _ _)
   | (with_reducible exact LeO.refl _)
   | (with_reducible exact Y5 _)
   | (with_reducible refine Y7 ?_ ?_)
   | (with_reducible refine Y6 ?_ (fun _ => ?_))
   | exact ih0 _ _ _ _
   | exact cabinetryref03_ValidateFields.mono _ _
   | exact cabinetryref03_ValidateRecord.mono _ _ _ _ _
   | exact Y5 _
   | refine Y7 ?_ ?_
   | refine Y6 ?_ (fun _ => ?_)
def cabinetryref03_Validate.T11 : Bool × List (List Nat × List Nat) := (true, [([], []), ([0], [0]), ([], []), ([2], [2]), ([], []), ([4], [4]), ([], []), ([5, 6], [5, 6]), ([7], [7]), ([1, 3, 8], [1, 3, 8]), ([9, 9, 0, 1, 2, 3, 4, 5, 6, 7, 8, 9], [9])])
def cabinetryref03_Validate.B11 : List Nat := [0, 1, 0, 4, 0, 16, 0, 112, 240, 511, 1023]
theorem cabinetryref03_Validate.tab11 : rtab .any (opsOf Tryz.f35 11) = cabinetryref03_Validate.T11 := by kernel_rfl
theorem cabinetryref03_Validate.bits11 : waitsOk cabinetryref03_Validate.T11.2 cabinetryref03_Validate.B11 = true := by kernel_rfl
set_option maxHeartbeats 8000000 in
set_option maxRecDepth 100000 in
theorem cabinetryref03_Validate.calls (k : Nat) (a0_0 : Int) (A0_1 : Option Addr) (c0_1 : Nat) (l0_1 : List (S23)) (A0_2 : Option Addr) (c0_2 : Nat) (l0_2 : List (S46)) (r : Int) (w : World) (hr0_1 : Kd.C k23 w A0_1 l0_1.length l0_1) (hc0_1 : l0_1.length ≤ c0_1) (hr0_2 : Kd.C k46 w A0_2 l0_2.length l0_2) (hc0_2 : l0_2.length ≤ c0_2) (h : cabinetryref03_Validate.f k a0_0 l0_1 l0_2 = some r) :
  Calls Tryz.prog 35 #[.agg #[.int .i64 a0_0, .slice A0_1 l0_1.length c0_1, .slice A0_2 l0_2.length c0_2]] w fun e w' => e = .returned (.int .i64 r) ∧ Below w.heap.size w w' := by
 have hu35 := Tryz.underlying35
 have hu46 := Tryz.underlying46
 have HR0_1 := Z0 hr0_1
 have HC0_1 := Z0 hc0_1
 clear hr0_1 hc0_1
 have HR0_2 := Z0 hr0_2
 have HC0_2 := Z0 hc0_2
 clear hr0_2 hc0_2
 have HB := Z0 (Below.refl w.heap.size w)
 have H : ((cabinetryref03_isPage.f a0_0).bind fun t224 => (if t224 = true then ((cabinetryref03_ValidateFields.f k l0_1).bind fun t225 => (if t225 = 0 then (if (l0_2.length : Int) > 300 then (some 3) else (cabinetryref03_Validate.l0 k 0 a0_0 l0_1 l0_2)) else (some t225))) else (some 1))) = some r := h
 clear h
 replace H := Option.bind_eq_some_iff.mp H
 obtain ⟨t224, A20, H⟩ := H
 replace H : (if t224 = true then ((cabinetryref03_ValidateFields.f k l0_1).bind fun t225 => (if t225 = 0 then (if (l0_2.length : Int) > 300 then (some 3) else (cabinetryref03_Validate.l0 k 0 a0_0 l0_1 l0_2)) else (some t225))) else (some 1)) = some r := H
 have A2 := Z0 A20
 clear A20
 by_cases c3 : t224 = true
 ·subst c3
  have H1 : ((cabinetryref03_ValidateFields.f k l0_1).bind fun t225 => (if t225 = 0 then (if (l0_2.length : Int) > 300 then (some 3) else (cabinetryref03_Validate.l0 k 0 a0_0 l0_1 l0_2)) else (some t225))) = some r := by rw [if_pos rfl] at H; exact H
  clear H
  have H := H1
  clear H1
  replace H := Option.bind_eq_some_iff.mp H
  obtain ⟨t225, A40, H⟩ := H
  replace H : (if t225 = 0 then (if (l0_2.length : Int) > 300 then (some 3) else (cabinetryref03_Validate.l0 k 0 a0_0 l0_1 l0_2)) else (some t225)) = some r := H
  have A4 := Z0 A40
  clear A40
  by_cases c5 : t225 = 0
  ·rw [if_pos c5] at H
   have c5b0 : (t225 == 0) = true := beq_iff_eq.mpr c5
   have c5b1 : (t225 != 0) = false := bne_eq_false_iff_eq.mpr c5
   clear c5
   by_cases c6 : (l0_2.length : Int) > 300
   ·rw [if_pos c6] at H
    have c6b0 : decide (300 < (l0_2.length : Int)) = true := decide_eq_true c6
    have c6b1 : decide (300 < l0_2.length) = true := decide_eq_true (by omega)
    clear c6
    obtain rfl := Option.some.inj H
    go_enter Tryz.func35, Tryz.ntmps35
    go_wp2_with (first | ((with_reducible refine Y4 (N := 1) rfl ?_); refine Y2 ?hg (N := 1) ?hd (cs := #[.int .i64 a0_0, .slice A0_1 l0_1.length c0_1, .slice A0_2 l0_2.length c0_2]) (t := 35) ?hr ?_; (case hd => rfl); (case hg => rfl); (case hr => go_simp; try rfl); intro gb223 hg w7 hbox hb; have n0_ := Z0 (Z6 V0 hb); have n1_ := Z0 (hbox); have n3_ := Z0 ((by rw [hg]; exact (Y0 V0) : w.heap.size ≤ gb223)); clear HB; have HB := n0_; have BK223 := n1_; have GE223 := n3_; clear n0_ n1_ n3_; clear hb hbox hg; have hcz8_0 : w7.cell? ⟨gb223, 0, none⟩ = some (.int .i64 a0_0) := (Z2 BK223.out 0).trans rfl; have hcz8_1 : w7.cell? ⟨gb223, 1, none⟩ = some (.slice A0_1 l0_1.length c0_1) := (Z2 BK223.out 1).trans rfl; have hcz8_2 : w7.cell? ⟨gb223, 2, none⟩ = some (.slice A0_2 l0_2.length c0_2) := (Z2 BK223.out 2).trans rfl; have hfz8_0 := Z1 BK223.out 0; have hfz8_1 := Z1 BK223.out 1; have hfz8_2 := Z1 BK223.out 2) | ((with_reducible refine Y3 (f := 56) rfl ?_); refine goesL_ (some 8) rfl rfl Tryz.func56 (by kernel_rfl) rfl #[.int .i64 a0_0] rfl V1 ?_; (with_reducible refine (cabinetryref03_isPage.calls a0_0 true _ A2.out).mono ?_); rintro e w' ⟨rfl, ⟨nd, rfl⟩⟩; refine ⟨_, rfl, ?_⟩) | ((with_reducible refine Y3 (f := 37) rfl ?_); refine goesL_ (some 12) rfl rfl Tryz.func37 (by kernel_rfl) rfl #[.slice A0_1 l0_1.length c0_1] rfl V1 ?_; (with_reducible refine (cabinetryref03_ValidateFields.calls k _ _ l0_1 t225 _ ?side1 ?side2 A4.out).mono ?_); (case side1 => repeat (first | exact (Kd.C_below HR0_1.out V0) | (with_reducible refine Kd.C_alloc ?_ _) | (with_reducible refine Kd.C_drewN ?_ _) | (with_reducible refine Kd.C_drew ?_))); (case side2 => exact HC0_1.out); rintro e w9 ⟨rfl, hb⟩; refine ⟨_, rfl, ?_⟩; have n0_ := Z0 (Z7 (g := gb223) (o := .cells #[.int .i64 a0_0, .slice A0_1 l0_1.length c0_1, .slice A0_2 l0_2.length c0_2] 35 (0, 0)) (by (with_reducible repeat (first | refine Z8 ?_ _ | refine Y1 ?_ | refine Z9 ?_ _)); exact BK223.out) hb); have n1_ := Z0 (Z6 V0 hb); clear BK223; clear HB; have BK223 := n0_; have HB := n1_; clear n0_ n1_; (try clear hb); (try clear hb2); (try clear hk); (try clear hi); have hcz10_0 : w9.cell? ⟨gb223, 0, none⟩ = some (.int .i64 a0_0) := (Z2 BK223.out 0).trans rfl; have hcz10_1 : w9.cell? ⟨gb223, 1, none⟩ = some (.slice A0_1 l0_1.length c0_1) := (Z2 BK223.out 1).trans rfl; have hcz10_2 : w9.cell? ⟨gb223, 2, none⟩ = some (.slice A0_2 l0_2.length c0_2) := (Z2 BK223.out 2).trans rfl; have hfz10_0 := Z1 BK223.out 0; have hfz10_1 := Z1 BK223.out 1; have hfz10_2 := Z1 BK223.out 2))
    go_ret
    exact ⟨rfl, V0⟩
   ·rw [if_neg c6] at H
    have c6b0 : decide (300 < (l0_2.length : Int)) = false := decide_eq_false c6
    have c6b1 : decide (300 < l0_2.length) = false := decide_eq_false (by omega)
    clear c6
    have H' := Z0 H
    clear H
    go_enter Tryz.func35, Tryz.ntmps35
    go_wp2_with (first | ((with_reducible refine Y4 (N := 1) rfl ?_); refine Y2 ?hg (N := 1) ?hd (cs := #[.int .i64 a0_0, .slice A0_1 l0_1.length c0_1, .slice A0_2 l0_2.length c0_2]) (t := 35) ?hr ?_; (case hd => rfl); (case hg => rfl); (case hr => go_simp; try rfl); intro gb223 hg w11 hbox hb; have n0_ := Z0 (Z6 V0 hb); have n1_ := Z0 (hbox); have n3_ := Z0 ((by rw [hg]; exact (Y0 V0) : w.heap.size ≤ gb223)); clear HB; have HB := n0_; have BK223 := n1_; have GE223 := n3_; clear n0_ n1_ n3_; clear hb hbox hg; have hcz12_0 : w11.cell? ⟨gb223, 0, none⟩ = some (.int .i64 a0_0) := (Z2 BK223.out 0).trans rfl; have hcz12_1 : w11.cell? ⟨gb223, 1, none⟩ = some (.slice A0_1 l0_1.length c0_1) := (Z2 BK223.out 1).trans rfl; have hcz12_2 : w11.cell? ⟨gb223, 2, none⟩ = some (.slice A0_2 l0_2.length c0_2) := (Z2 BK223.out 2).trans rfl; have hfz12_0 := Z1 BK223.out 0; have hfz12_1 := Z1 BK223.out 1; have hfz12_2 := Z1 BK223.out 2) | ((with_reducible refine Y3 (f := 56) rfl ?_); refine goesL_ (some 8) rfl rfl Tryz.func56 (by kernel_rfl) rfl #[.int .i64 a0_0] rfl V1 ?_; (with_reducible refine (cabinetryref03_isPage.calls a0_0 true _ A2.out).mono ?_); rintro e w' ⟨rfl, ⟨nd, rfl⟩⟩; refine ⟨_, rfl, ?_⟩) | ((with_reducible refine Y3 (f := 37) rfl ?_); refine goesL_ (some 12) rfl rfl Tryz.func37 (by kernel_rfl) rfl #[.slice A0_1 l0_1.length c0_1] rfl V1 ?_; (with_reducible refine (cabinetryref03_ValidateFields.calls k _ _ l0_1 t225 _ ?side1 ?side2 A4.out).mono ?_); (case side1 => repeat (first | exact (Kd.C_below HR0_1.out V0) | (with_reducible refine Kd.C_alloc ?_ _) | (with_reducible refine Kd.C_drewN ?_ _) | (with_reducible refine Kd.C_drew ?_))); (case side2 => exact HC0_1.out); rintro e w13 ⟨rfl, hb⟩; refine ⟨_, rfl, ?_⟩; have n0_ := Z0 (Z7 (g := gb223) (o := .cells #[.int .i64 a0_0, .slice A0_1 l0_1.length c0_1, .slice A0_2 l0_2.length c0_2] 35 (0, 0)) (by (with_reducible repeat (first | refine Z8 ?_ _ | refine Y1 ?_ | refine Z9 ?_ _)); exact BK223.out) hb); have n1_ := Z0 (Z6 V0 hb); clear BK223; clear HB; have BK223 := n0_; have HB := n1_; clear n0_ n1_; (try clear hb); (try clear hb2); (try clear hk); (try clear hi); have hcz14_0 : w13.cell? ⟨gb223, 0, none⟩ = some (.int .i64 a0_0) := (Z2 BK223.out 0).trans rfl; have hcz14_1 : w13.cell? ⟨gb223, 1, none⟩ = some (.slice A0_1 l0_1.length c0_1) := (Z2 BK223.out 1).trans rfl; have hcz14_2 : w13.cell? ⟨gb223, 2, none⟩ = some (.slice A0_2 l0_2.length c0_2) := (Z2 BK223.out 2).trans rfl; have hfz14_0 := Z1 BK223.out 0; have hfz14_1 := Z1 BK223.out 1; have hfz14_2 := Z1 BK223.out 2))
    go_loopg [4] k (fun kq v4 w' => ∃ (x4_1 : Int), v4 = .int .i64 x4_1 ∧ Aside0 (cabinetryref03_Validate.l0 kq x4_1 a0_0 l0_1 l0_2 = some r) ∧ Aside0 (kq ≤ k) ∧ Aside0 (w'.heap[gb223]? = some (.cells #[.int .i64 a0_0, (.slice A0_1 l0_1.length c0_1), (.slice A0_2 l0_2.length c0_2)] 35 (0, 0))) ∧ Aside0 (Below w.heap.size w w'))
    case atStart => exact ⟨(0), V2, H', ⟨Nat.le_refl _⟩, ⟨by (with_reducible repeat (first | refine Z8 ?_ _ | refine Y1 ?_ | refine Z9 ?_ _)); exact BK223.out⟩, ⟨V0⟩⟩
    case round =>
     clear H'
     (try clear p2);(try clear c3);(try clear c5);(try clear c5b0);(try clear c5b1);(try clear c6);(try clear c6b0);(try clear c6b1);(try clear hcz10_0);(try clear hcz10_1);(try clear hcz10_2);(try clear hcz12_0);(try clear hcz12_1);(try clear hcz12_2);(try clear hcz14_0);(try clear hcz14_1);(try clear hcz14_2);(try clear hcz8_0);(try clear hcz8_1);(try clear hcz8_2);(try clear hfz10_0);(try clear hfz10_1);(try clear hfz10_2);(try clear hfz12_0);(try clear hfz12_1);(try clear hfz12_2);(try clear hfz14_0);(try clear hfz14_1);(try clear hfz14_2);(try clear hfz8_0);(try clear hfz8_1);(try clear hfz8_2)
     obtain ⟨x4_1, rfl, HA, HK1, BK223, HB⟩ := hrel
     cases gk with
     | zero => exact absurd HA.out (by simp [cabinetryref03_Validate.l0])
     | succ k1 =>
      have H := HA.out
      clear HA
      simp only [cabinetryref03_Validate.l0] at H
      by_cases c15 : x4_1 < (l0_2.length : Int)
      ·rw [if_pos c15] at H
       have c15b0 : decide (x4_1 < (l0_2.length : Int)) = true := decide_eq_true c15
       clear c15
       by_cases c16 : 0 ≤ x4_1
       ·rw [if_pos c16] at H
        have c16b0 : decide (0 ≤ x4_1) = true := decide_eq_true c16
        clear c16
        replace H := Option.bind_eq_some_iff.mp H
        obtain ⟨t227, A170, H⟩ := H
        replace H : (if t227 = 0 then (cabinetryref03_Validate.l0 k1 (wrap64 (x4_1 + 1)) a0_0 l0_1 l0_2) else (some t227)) = some r := H
        have A17 := Z0 A170
        clear A170
        by_cases c18 : t227 = 0
        ·rw [if_pos c18] at H
         have c18b0 : (t227 == 0) = true := beq_iff_eq.mpr c18
         have c18b1 : (t227 != 0) = false := bne_eq_false_iff_eq.mpr c18
         clear c18
         have H' := Z0 H
         clear H
         have hcz19_0 : wr.cell? ⟨gb223, 0, none⟩ = some (.int .i64 a0_0) := (Z2 BK223.out 0).trans rfl
         have hcz19_1 : wr.cell? ⟨gb223, 1, none⟩ = some (.slice A0_1 l0_1.length c0_1) := (Z2 BK223.out 1).trans rfl
         have hcz19_2 : wr.cell? ⟨gb223, 2, none⟩ = some (.slice A0_2 l0_2.length c0_2) := (Z2 BK223.out 2).trans rfl
         have hfz19_0 := Z1 BK223.out 0
         have hfz19_1 := Z1 BK223.out 1
         have hfz19_2 := Z1 BK223.out 2
         try go_wp2
         have n0_ := Z0 (Y1 BK223.out)
         have n1_ := Z0 (below_drew1 HB.out)
         clear BK223
         clear HB
         have BK223 := n0_
         have HB := n1_
         clear n0_ n1_
         have p226 : 0 ≤ (x4_1 : Int) := of_decide_eq_true V3
         have q226 : x4_1 < (l0_2.length : Int) := of_decide_eq_true V3
         obtain ⟨ad226, A226_1, c226_1, e226, hx226_0, hx226_1, hl226_1, hi226_1⟩ := at_T46 HR0_2.out x4_1 p226 q226
         have hw226_1 := hx226_1
         have hw226_0 := hx226_0
         cases e226
         replace hx226_0 := (HB.out.cell (World.block_lt_of_cell? w _ hx226_0)).trans hx226_0
         replace hx226_1 := (HB.out.cell (World.block_lt_of_cell? w _ hx226_1)).trans hx226_1
         have HR226_1 := Z0 hi226_1
         have HC226_1 := Z0 hl226_1
         clear hi226_1 hl226_1
         replace p226 := eq_true p226
         replace q226 := eq_true q226
         refine start_ (n := 11) (S := fun w' => w'.cell? ⟨gb223, 0, none⟩ = some (.int .i64 a0_0) ∧ w'.cell? ⟨gb223, 1, none⟩ = some (.slice A0_1 l0_1.length c0_1) ∧ w'.cell? ⟨gb223, 2, none⟩ = some (.slice (some ad226) l0_2.length c0_2) ∧ w'.cell? (ad226.add ((x4_1).toNat * 2)) = some (.bool ((rd_T46 l0_2 x4_1).f0)) ∧ w'.cell? ⟨(ad226.add ((x4_1).toNat * 2)).block, (ad226.add ((x4_1).toNat * 2)).off + 1, none⟩ = some (.slice A226_1 ((rd_T46 l0_2 x4_1).f1).length c226_1)) (ds := []) #[false, false, false, false, false, false, false, false, false, false, false] (by kernel_rfl) rfl rfl ⟨(Z2 BK223.out 0).trans rfl, (Z2 BK223.out 1).trans rfl, (Z2 BK223.out 2).trans rfl, ((HB.out.cell (World.block_lt_of_cell? w _ hw226_0)).trans hw226_0), ((HB.out.cell (World.block_lt_of_cell? w _ hw226_1)).trans hw226_1)⟩ (fun hHeld => ?_); refine with_tabW cabinetryref03_Validate.tab11 cabinetryref03_Validate.bits11 (fun HT_ HW_ => ?_)
         generalize wr.drew = w20 at BK223 HB HR226_1 hx226_0 hx226_1 hHeld ⊢
         refine pure_ (i := 0) (N := some 27) (v := ?_) (a' := ?_) #[true, false, false, false, false, false, false, false, false, false, false] rfl rfl (any_of HT_.out (by kernel_rfl)) (fun _ _ _ h => h) (Or.inl ⟨by rfl, ?_⟩) ?_ ?_
         rotate_left
         ·intro w'
          go_simp
          with_reducible rfl
         rotate_left
         ·simp only [Act.put, Z3, Z4, Z5, i64_w, i32_w]
          rfl
         refine pure_ (i := 2) (N := some 29) (v := ?_) (a' := ?_) #[true, false, true, false, false, false, false, false, false, false, false] rfl rfl (any_of HT_.out (by kernel_rfl)) (fun _ _ _ h => h) (Or.inl ⟨by rfl, ?_⟩) ?_ ?_
         rotate_left
         ·intro w'
          go_simp
          with_reducible rfl
         rotate_left
         ·simp only [Act.put, Z3, Z4, Z5, i64_w, i32_w]
          rfl
         refine pure_ (i := 4) (N := some 31) (v := ?_) (a' := ?_) #[true, false, true, false, true, false, false, false, false, false, false] rfl rfl (any_of HT_.out (by kernel_rfl)) (fun _ _ _ h => h) (Or.inl ⟨by rfl, ?_⟩) ?_ ?_
         rotate_left
         ·intro w'
          go_simp
          with_reducible rfl
         rotate_left
         ·simp only [Act.put, Z3, Z4, Z5, i64_w, i32_w]
          rfl
         refine pure_ (i := 6) (N := some 33) (v := ?_) (a' := ?_) #[true, false, true, false, true, false, true, false, false, false, false] rfl rfl (any_of HT_.out (by kernel_rfl)) (fun _ _ _ h => h) (Or.inl ⟨by rfl, ?_⟩) ?_ ?_
         rotate_left
         ·intro w'
          go_simp
          with_reducible rfl
         rotate_left
         ·simp only [Act.put, Z3, Z4, Z5, i64_w, i32_w]
          rfl
         refine take_ (i := 1) (N := some 28) (v := ?_) (a' := ?_) #[true, true, true, false, true, false, true, false, false, false, false] rfl rfl (take_ofW HT_.out HW_.out (by kernel_rfl)) (fun _ _ _ h => h) (Or.inl ⟨by rfl, ?_⟩) hHeld ?_ ?_
         rotate_left
         ·rintro w' ⟨s0, s1, s2, s3, s4⟩
          go_simp
          with_reducible rfl
         rotate_left
         ·simp only [Act.put, Z3, Z4, Z5, i64_w, i32_w]
          rfl
         refine take_ (i := 3) (N := some 30) (v := ?_) (a' := ?_) #[true, true, true, true, true, false, true, false, false, false, false] rfl rfl (take_ofW HT_.out HW_.out (by kernel_rfl)) (fun _ _ _ h => h) (Or.inl ⟨by rfl, ?_⟩) hHeld ?_ ?_
         rotate_left
         ·rintro w' ⟨s0, s1, s2, s3, s4⟩
          go_simp
          with_reducible rfl
         rotate_left
         ·simp only [Act.put, Z3, Z4, Z5, i64_w, i32_w]
          rfl
         refine take_ (i := 5) (N := some 32) (v := ?_) (a' := ?_) #[true, true, true, true, true, true, true, false, false, false, false] rfl rfl (take_ofW HT_.out HW_.out (by kernel_rfl)) (fun _ _ _ h => h) (Or.inl ⟨by rfl, ?_⟩) hHeld ?_ ?_
         rotate_left
         ·rintro w' ⟨s0, s1, s2, s3, s4⟩
          go_simp
          with_reducible rfl
         rotate_left
         ·simp only [Act.put, Z3, Z4, Z5, i64_w, i32_w]
          rfl
         refine pure_ (i := 7) (N := some 34) (v := ?_) (a' := ?_) #[true, true, true, true, true, true, true, true, false, false, false] rfl rfl (any_of HT_.out (by kernel_rfl)) (fun _ _ _ h => h) (Or.inl ⟨by rfl, ?_⟩) ?_ ?_
         rotate_left
         ·intro w'
          go_simp
          with_reducible rfl
         rotate_left
         ·simp only [Act.put, Z3, Z4, Z5, i64_w, i32_w]
          rfl
         refine take_ (i := 8) (N := some 35) (v := ?_) (a' := ?_) #[true, true, true, true, true, true, true, true, true, false, false] rfl rfl (take_ofW HT_.out HW_.out (by kernel_rfl)) (fun _ _ _ h => h) (Or.inl ⟨by rfl, ?_⟩) hHeld ?_ ?_
         rotate_left
         ·rintro w' ⟨s0, s1, s2, s3, s4⟩
          go_simp
          with_reducible rfl
         rotate_left
         ·simp only [Act.put, Z3, Z4, Z5, i64_w, i32_w]
          rfl
         refine one_ (i := 9) (N := some 36) #[true, true, true, true, true, true, true, true, true, true, false] rfl rfl (one_of HT_.out (by kernel_rfl)) (by decide) (fun K hK => ?_)
         refine goes_ Tryz.func74 (by kernel_rfl) rfl #[.slice A0_1 l0_1.length c0_1, .int .i64 a0_0, .agg #[.bool ((rd_T46 l0_2 x4_1).f0), .slice A226_1 ((rd_T46 l0_2 x4_1).f1).length c226_1]] (by rfl) rfl rfl V1 ?_
         with_reducible refine (cabinetryref03_ValidateRecord.calls k1 _ _ l0_1 a0_0 ((rd_T46 l0_2 x4_1).f0) _ _ ((rd_T46 l0_2 x4_1).f1) t227 _ ?side1 ?side2 ?side3 ?side4 A17.out).mono ?_
         (case side1 => repeat (first | exact (Kd.C_below HR0_1.out HB.out) | (with_reducible refine Kd.C_alloc ?_ _) | (with_reducible refine Kd.C_drewN ?_ _) | (with_reducible refine Kd.C_drew ?_)))
         (case side2 => exact HC0_1.out)
         (case side3 => repeat (first | exact (Kd.C_below HR226_1.out HB.out) | (with_reducible refine Kd.C_alloc ?_ _) | (with_reducible refine Kd.C_drewN ?_ _) | (with_reducible refine Kd.C_drew ?_)))
         (case side4 => exact HC226_1.out)
         rintro e w21 ⟨rfl, hb⟩
         refine ⟨_, rfl, ?_⟩
         have n0_ := Z0 (Z7 (g := gb223) (o := .cells #[.int .i64 a0_0, .slice A0_1 l0_1.length c0_1, .slice (some ad226) l0_2.length c0_2] 35 (0, 0)) (by (with_reducible repeat (first | refine Z8 ?_ _ | refine Y1 ?_ | refine Z9 ?_ _)); exact BK223.out) hb)
         have n1_ := Z0 (Z6 V0 hb)
         clear BK223
         clear HB
         have BK223 := n0_
         have HB := n1_
         clear n0_ n1_
         (try clear hb)
         (try clear hb2)
         (try clear hk)
         (try clear hi)
         refine hK.out _ _ ⟨(Z2 BK223.out 0).trans rfl, (Z2 BK223.out 1).trans rfl, (Z2 BK223.out 2).trans rfl, ((HB.out.cell (World.block_lt_of_cell? w _ hw226_0)).trans hw226_0), ((HB.out.cell (World.block_lt_of_cell? w _ hw226_1)).trans hw226_1)⟩ (fun hHeld => ?_)
         clear hK K
         refine norm_ (a' := ?_) ?_ ?_
         rotate_left
         ·show Act.put _ (some 36) _ = _
          simp only [Act.put, Z3, Z4, Z5, i64_w, i32_w]
          rfl
         refine pure_ (i := 10) (N := some 5) (v := ?_) (a' := ?_) #[true, true, true, true, true, true, true, true, true, true, true] rfl rfl (any_of HT_.out (by kernel_rfl)) (fun _ _ _ h => h) (Or.inl ⟨by rfl, ?_⟩) ?_ ?_
         rotate_left
         ·intro w'
          go_simp
          with_reducible rfl
         rotate_left
         ·simp only [Act.put, Z3, Z4, Z5, i64_w, i32_w]
          rfl
         refine done_ (done_of HT_.out (by kernel_rfl)) ?_
         try go_wp2
         go_roundg k1
         case measure => have := HK1.out; omega
         case rel => exact ⟨(wrap64 (x4_1 + 1)), V2, H', ⟨by have := HK1.out; omega⟩, ⟨by (with_reducible repeat (first | refine Z8 ?_ _ | refine Y1 ?_ | refine Z9 ?_ _)); exact BK223.out⟩, ⟨V0⟩⟩
        ·rw [if_neg c18] at H
         have c18b0 : (t227 == 0) = false := beq_eq_false_iff_ne.mpr c18
         have c18b1 : (t227 != 0) = true := bne_iff_ne.mpr c18
         obtain rfl := Option.some.inj H
         have hcz22_0 : wr.cell? ⟨gb223, 0, none⟩ = some (.int .i64 a0_0) := (Z2 BK223.out 0).trans rfl
         have hcz22_1 : wr.cell? ⟨gb223, 1, none⟩ = some (.slice A0_1 l0_1.length c0_1) := (Z2 BK223.out 1).trans rfl
         have hcz22_2 : wr.cell? ⟨gb223, 2, none⟩ = some (.slice A0_2 l0_2.length c0_2) := (Z2 BK223.out 2).trans rfl
         have hfz22_0 := Z1 BK223.out 0
         have hfz22_1 := Z1 BK223.out 1
         have hfz22_2 := Z1 BK223.out 2
         try go_wp2
         have n0_ := Z0 (Y1 BK223.out)
         have n1_ := Z0 (below_drew1 HB.out)
         clear BK223
         clear HB
         have BK223 := n0_
         have HB := n1_
         clear n0_ n1_
         have p226 : 0 ≤ (x4_1 : Int) := of_decide_eq_true V3
         have q226 : x4_1 < (l0_2.length : Int) := of_decide_eq_true V3
         obtain ⟨ad226, A226_1, c226_1, e226, hx226_0, hx226_1, hl226_1, hi226_1⟩ := at_T46 HR0_2.out x4_1 p226 q226
         have hw226_1 := hx226_1
         have hw226_0 := hx226_0
         cases e226
         replace hx226_0 := (HB.out.cell (World.block_lt_of_cell? w _ hx226_0)).trans hx226_0
         replace hx226_1 := (HB.out.cell (World.block_lt_of_cell? w _ hx226_1)).trans hx226_1
         have HR226_1 := Z0 hi226_1
         have HC226_1 := Z0 hl226_1
         clear hi226_1 hl226_1
         replace p226 := eq_true p226
         replace q226 := eq_true q226
         refine start_ (n := 11) (S := fun w' => w'.cell? ⟨gb223, 0, none⟩ = some (.int .i64 a0_0) ∧ w'.cell? ⟨gb223, 1, none⟩ = some (.slice A0_1 l0_1.length c0_1) ∧ w'.cell? ⟨gb223, 2, none⟩ = some (.slice (some ad226) l0_2.length c0_2) ∧ w'.cell? (ad226.add ((x4_1).toNat * 2)) = some (.bool ((rd_T46 l0_2 x4_1).f0)) ∧ w'.cell? ⟨(ad226.add ((x4_1).toNat * 2)).block, (ad226.add ((x4_1).toNat * 2)).off + 1, none⟩ = some (.slice A226_1 ((rd_T46 l0_2 x4_1).f1).length c226_1)) (ds := []) #[false, false, false, false, false, false, false, false, false, false, false] (by kernel_rfl) rfl rfl ⟨(Z2 BK223.out 0).trans rfl, (Z2 BK223.out 1).trans rfl, (Z2 BK223.out 2).trans rfl, ((HB.out.cell (World.block_lt_of_cell? w _ hw226_0)).trans hw226_0), ((HB.out.cell (World.block_lt_of_cell? w _ hw226_1)).trans hw226_1)⟩ (fun hHeld => ?_); refine with_tabW cabinetryref03_Validate.tab11 cabinetryref03_Validate.bits11 (fun HT_ HW_ => ?_)
         generalize wr.drew = w23 at BK223 HB HR226_1 hx226_0 hx226_1 hHeld ⊢
         refine pure_ (i := 0) (N := some 27) (v := ?_) (a' := ?_) #[true, false, false, false, false, false, false, false, false, false, false] rfl rfl (any_of HT_.out (by kernel_rfl)) (fun _ _ _ h => h) (Or.inl ⟨by rfl, ?_⟩) ?_ ?_
         rotate_left
         ·intro w'
          go_simp
          with_reducible rfl
         rotate_left
         ·simp only [Act.put, Z3, Z4, Z5, i64_w, i32_w]
          rfl
         refine pure_ (i := 2) (N := some 29) (v := ?_) (a' := ?_) #[true, false, true, false, false, false, false, false, false, false, false] rfl rfl (any_of HT_.out (by kernel_rfl)) (fun _ _ _ h => h) (Or.inl ⟨by rfl, ?_⟩) ?_ ?_
         rotate_left
         ·intro w'
          go_simp
          with_reducible rfl
         rotate_left
         ·simp only [Act.put, Z3, Z4, Z5, i64_w, i32_w]
          rfl
         refine pure_ (i := 4) (N := some 31) (v := ?_) (a' := ?_) #[true, false, true, false, true, false, false, false, false, false, false] rfl rfl (any_of HT_.out (by kernel_rfl)) (fun _ _ _ h => h) (Or.inl ⟨by rfl, ?_⟩) ?_ ?_
         rotate_left
         ·intro w'
          go_simp
          with_reducible rfl
         rotate_left
         ·simp only [Act.put, Z3, Z4, Z5, i64_w, i32_w]
          rfl
         refine pure_ (i := 6) (N := some 33) (v := ?_) (a' := ?_) #[true, false, true, false, true, false, true, false, false, false, false] rfl rfl (any_of HT_.out (by kernel_rfl)) (fun _ _ _ h => h) (Or.inl ⟨by rfl, ?_⟩) ?_ ?_
         rotate_left
         ·intro w'
          go_simp
          with_reducible rfl
         rotate_left
         ·simp only [Act.put, Z3, Z4, Z5, i64_w, i32_w]
          rfl
         refine take_ (i := 1) (N := some 28) (v := ?_) (a' := ?_) #[true, true, true, false, true, false, true, false, false, false, false] rfl rfl (take_ofW HT_.out HW_.out (by kernel_rfl)) (fun _ _ _ h => h) (Or.inl ⟨by rfl, ?_⟩) hHeld ?_ ?_
         rotate_left
         ·rintro w' ⟨s0, s1, s2, s3, s4⟩
          go_simp
          with_reducible rfl
         rotate_left
         ·simp only [Act.put, Z3, Z4, Z5, i64_w, i32_w]
          rfl
         refine take_ (i := 3) (N := some 30) (v := ?_) (a' := ?_) #[true, true, true, true, true, false, true, false, false, false, false] rfl rfl (take_ofW HT_.out HW_.out (by kernel_rfl)) (fun _ _ _ h => h) (Or.inl ⟨by rfl, ?_⟩) hHeld ?_ ?_
         rotate_left
         ·rintro w' ⟨s0, s1, s2, s3, s4⟩
          go_simp
          with_reducible rfl
         rotate_left
         ·simp only [Act.put, Z3, Z4, Z5, i64_w, i32_w]
          rfl
         refine take_ (i := 5) (N := some 32) (v := ?_) (a' := ?_) #[true, true, true, true, true, true, true, false, false, false, false] rfl rfl (take_ofW HT_.out HW_.out (by kernel_rfl)) (fun _ _ _ h => h) (Or.inl ⟨by rfl, ?_⟩) hHeld ?_ ?_
         rotate_left
         ·rintro w' ⟨s0, s1, s2, s3, s4⟩
          go_simp
          with_reducible rfl
         rotate_left
         ·simp only [Act.put, Z3, Z4, Z5, i64_w, i32_w]
          rfl
         refine pure_ (i := 7) (N := some 34) (v := ?_) (a' := ?_) #[true, true, true, true, true, true, true, true, false, false, false] rfl rfl (any_of HT_.out (by kernel_rfl)) (fun _ _ _ h => h) (Or.inl ⟨by rfl, ?_⟩) ?_ ?_
         rotate_left
         ·intro w'
          go_simp
          with_reducible rfl
         rotate_left
         ·simp only [Act.put, Z3, Z4, Z5, i64_w, i32_w]
          rfl
         refine take_ (i := 8) (N := some 35) (v := ?_) (a' := ?_) #[true, true, true, true, true, true, true, true, true, false, false] rfl rfl (take_ofW HT_.out HW_.out (by kernel_rfl)) (fun _ _ _ h => h) (Or.inl ⟨by rfl, ?_⟩) hHeld ?_ ?_
         rotate_left
         ·rintro w' ⟨s0, s1, s2, s3, s4⟩
          go_simp
          with_reducible rfl
         rotate_left
         ·simp only [Act.put, Z3, Z4, Z5, i64_w, i32_w]
          rfl
         refine one_ (i := 9) (N := some 36) #[true, true, true, true, true, true, true, true, true, true, false] rfl rfl (one_of HT_.out (by kernel_rfl)) (by decide) (fun K hK => ?_)
         refine goes_ Tryz.func74 (by kernel_rfl) rfl #[.slice A0_1 l0_1.length c0_1, .int .i64 a0_0, .agg #[.bool ((rd_T46 l0_2 x4_1).f0), .slice A226_1 ((rd_T46 l0_2 x4_1).f1).length c226_1]] (by rfl) rfl rfl V1 ?_
         with_reducible refine (cabinetryref03_ValidateRecord.calls k1 _ _ l0_1 a0_0 ((rd_T46 l0_2 x4_1).f0) _ _ ((rd_T46 l0_2 x4_1).f1) t227 _ ?side1 ?side2 ?side3 ?side4 A17.out).mono ?_
         (case side1 => repeat (first | exact (Kd.C_below HR0_1.out HB.out) | (with_reducible refine Kd.C_alloc ?_ _) | (with_reducible refine Kd.C_drewN ?_ _) | (with_reducible refine Kd.C_drew ?_)))
         (case side2 => exact HC0_1.out)
         (case side3 => repeat (first | exact (Kd.C_below HR226_1.out HB.out) | (with_reducible refine Kd.C_alloc ?_ _) | (with_reducible refine Kd.C_drewN ?_ _) | (with_reducible refine Kd.C_drew ?_)))
         (case side4 => exact HC226_1.out)
         rintro e w24 ⟨rfl, hb⟩
         refine ⟨_, rfl, ?_⟩
         have n0_ := Z0 (Z7 (g := gb223) (o := .cells #[.int .i64 a0_0, .slice A0_1 l0_1.length c0_1, .slice (some ad226) l0_2.length c0_2] 35 (0, 0)) (by (with_reducible repeat (first | refine Z8 ?_ _ | refine Y1 ?_ | refine Z9 ?_ _)); exact BK223.out) hb)
         have n1_ := Z0 (Z6 V0 hb)
         clear BK223
         clear HB
         have BK223 := n0_
         have HB := n1_
         clear n0_ n1_
         (try clear hb)
         (try clear hb2)
         (try clear hk)
         (try clear hi)
         refine hK.out _ _ ⟨(Z2 BK223.out 0).trans rfl, (Z2 BK223.out 1).trans rfl, (Z2 BK223.out 2).trans rfl, ((HB.out.cell (World.block_lt_of_cell? w _ hw226_0)).trans hw226_0), ((HB.out.cell (World.block_lt_of_cell? w _ hw226_1)).trans hw226_1)⟩ (fun hHeld => ?_)
         clear hK K
         refine norm_ (a' := ?_) ?_ ?_
         rotate_left
         ·show Act.put _ (some 36) _ = _
          simp only [Act.put, Z3, Z4, Z5, i64_w, i32_w]
          rfl
         refine pure_ (i := 10) (N := some 5) (v := ?_) (a' := ?_) #[true, true, true, true, true, true, true, true, true, true, true] rfl rfl (any_of HT_.out (by kernel_rfl)) (fun _ _ _ h => h) (Or.inl ⟨by rfl, ?_⟩) ?_ ?_
         rotate_left
         ·intro w'
          go_simp
          with_reducible rfl
         rotate_left
         ·simp only [Act.put, Z3, Z4, Z5, i64_w, i32_w]
          rfl
         refine done_ (done_of HT_.out (by kernel_rfl)) ?_
         try go_wp2
         go_ret
         exact ⟨rfl, V0⟩
       ·rw [if_neg c16] at H
        exact absurd H (by simp)
      ·rw [if_neg c15] at H
       have c15b0 : decide (x4_1 < (l0_2.length : Int)) = false := decide_eq_false c15
       clear c15
       obtain rfl := Option.some.inj H
       have hcz25_0 : wr.cell? ⟨gb223, 0, none⟩ = some (.int .i64 a0_0) := (Z2 BK223.out 0).trans rfl
       have hcz25_1 : wr.cell? ⟨gb223, 1, none⟩ = some (.slice A0_1 l0_1.length c0_1) := (Z2 BK223.out 1).trans rfl
       have hcz25_2 : wr.cell? ⟨gb223, 2, none⟩ = some (.slice A0_2 l0_2.length c0_2) := (Z2 BK223.out 2).trans rfl
       have hfz25_0 := Z1 BK223.out 0
       have hfz25_1 := Z1 BK223.out 1
       have hfz25_2 := Z1 BK223.out 2
       go_wp2
       go_ret
       exact ⟨rfl, V0⟩
  ·rw [if_neg c5] at H
   have c5b0 : (t225 == 0) = false := beq_eq_false_iff_ne.mpr c5
   have c5b1 : (t225 != 0) = true := bne_iff_ne.mpr c5
   obtain rfl := Option.some.inj H
   go_enter Tryz.func35, Tryz.ntmps35
   go_wp2_with (first | ((with_reducible refine Y4 (N := 1) rfl ?_); refine Y2 ?hg (N := 1) ?hd (cs := #[.int .i64 a0_0, .slice A0_1 l0_1.length c0_1, .slice A0_2 l0_2.length c0_2]) (t := 35) ?hr ?_; (case hd => rfl); (case hg => rfl); (case hr => go_simp; try rfl); intro gb223 hg w26 hbox hb; have n0_ := Z0 (Z6 V0 hb); have n1_ := Z0 (hbox); have n3_ := Z0 ((by rw [hg]; exact (Y0 V0) : w.heap.size ≤ gb223)); clear HB; have HB := n0_; have BK223 := n1_; have GE223 := n3_; clear n0_ n1_ n3_; clear hb hbox hg; have hcz27_0 : w26.cell? ⟨gb223, 0, none⟩ = some (.int .i64 a0_0) := (Z2 BK223.out 0).trans rfl; have hcz27_1 : w26.cell? ⟨gb223, 1, none⟩ = some (.slice A0_1 l0_1.length c0_1) := (Z2 BK223.out 1).trans rfl; have hcz27_2 : w26.cell? ⟨gb223, 2, none⟩ = some (.slice A0_2 l0_2.length c0_2) := (Z2 BK223.out 2).trans rfl; have hfz27_0 := Z1 BK223.out 0; have hfz27_1 := Z1 BK223.out 1; have hfz27_2 := Z1 BK223.out 2) | ((with_reducible refine Y3 (f := 56) rfl ?_); refine goesL_ (some 8) rfl rfl Tryz.func56 (by kernel_rfl) rfl #[.int .i64 a0_0] rfl V1 ?_; (with_reducible refine (cabinetryref03_isPage.calls a0_0 true _ A2.out).mono ?_); rintro e w' ⟨rfl, ⟨nd, rfl⟩⟩; refine ⟨_, rfl, ?_⟩) | ((with_reducible refine Y3 (f := 37) rfl ?_); refine goesL_ (some 12) rfl rfl Tryz.func37 (by kernel_rfl) rfl #[.slice A0_1 l0_1.length c0_1] rfl V1 ?_; (with_reducible refine (cabinetryref03_ValidateFields.calls k _ _ l0_1 t225 _ ?side1 ?side2 A4.out).mono ?_); (case side1 => repeat (first | exact (Kd.C_below HR0_1.out V0) | (with_reducible refine Kd.C_alloc ?_ _) | (with_reducible refine Kd.C_drewN ?_ _) | (with_reducible refine Kd.C_drew ?_))); (case side2 => exact HC0_1.out); rintro e w28 ⟨rfl, hb⟩; refine ⟨_, rfl, ?_⟩; have n0_ := Z0 (Z7 (g := gb223) (o := .cells #[.int .i64 a0_0, .slice A0_1 l0_1.length c0_1, .slice A0_2 l0_2.length c0_2] 35 (0, 0)) (by (with_reducible repeat (first | refine Z8 ?_ _ | refine Y1 ?_ | refine Z9 ?_ _)); exact BK223.out) hb); have n1_ := Z0 (Z6 V0 hb); clear BK223; clear HB; have BK223 := n0_; have HB := n1_; clear n0_ n1_; (try clear hb); (try clear hb2); (try clear hk); (try clear hi)))
   go_ret
   exact ⟨rfl, V0⟩
 ·replace c3 := Bool.eq_false_iff.mpr c3
  subst c3
  have H1 : (some 1) = some r := by rw [if_neg (show ¬ (false = true) by decide)] at H; exact H
  clear H
  have H := H1
  clear H1
  obtain rfl := Option.some.inj H
  go_enter Tryz.func35, Tryz.ntmps35
  go_wp2_with (first | ((with_reducible refine Y4 (N := 1) rfl ?_); refine Y2 ?hg (N := 1) ?hd (cs := #[.int .i64 a0_0, .slice A0_1 l0_1.length c0_1, .slice A0_2 l0_2.length c0_2]) (t := 35) ?hr ?_; (case hd => rfl); (case hg => rfl); (case hr => go_simp; try rfl); intro gb223 hg w29 hbox hb; have n0_ := Z0 (Z6 V0 hb); have n1_ := Z0 (hbox); have n3_ := Z0 ((by rw [hg]; exact (Y0 V0) : w.heap.size ≤ gb223)); clear HB; have HB := n0_; have BK223 := n1_; have GE223 := n3_; clear n0_ n1_ n3_; clear hb hbox hg; have hcz30_0 : w29.cell? ⟨gb223, 0, none⟩ = some (.int .i64 a0_0) := (Z2 BK223.out 0).trans rfl; have hcz30_1 : w29.cell? ⟨gb223, 1, none⟩ = some (.slice A0_1 l0_1.length c0_1) := (Z2 BK223.out 1).trans rfl; have hcz30_2 : w29.cell? ⟨gb223, 2, none⟩ = some (.slice A0_2 l0_2.length c0_2) := (Z2 BK223.out 2).trans rfl; have hfz30_0 := Z1 BK223.out 0; have hfz30_1 := Z1 BK223.out 1; have hfz30_2 := Z1 BK223.out 2) | ((with_reducible refine Y3 (f := 56) rfl ?_); refine goesL_ (some 8) rfl rfl Tryz.func56 (by kernel_rfl) rfl #[.int .i64 a0_0] rfl V1 ?_; (with_reducible refine (cabinetryref03_isPage.calls a0_0 false _ A2.out).mono ?_); rintro e w' ⟨rfl, ⟨nd, rfl⟩⟩; refine ⟨_, rfl, ?_⟩))
  go_ret
  exact ⟨rfl, V0⟩
end Go.Proofs.YtldpdidlfbphcaaGreatDoor.P
end
