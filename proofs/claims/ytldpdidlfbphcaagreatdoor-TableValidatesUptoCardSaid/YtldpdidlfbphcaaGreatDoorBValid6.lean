/- TableValidates: where what the arguments read as is of bulk at most 1048576, the law returns true and leaves its arguments as they were. -/
import Derived.Test.YtldpdidlfbphcaaGreatDoorBValid5
import Derived.Test.YtldpdidlfbphcaaGreatDoorCards
import Derived.Test.YtldpdidlfbphcaaGreatDoorTie
set_option linter.unusedVariables false
set_option linter.unusedSimpArgs false
section
namespace Go.Proofs.YtldpdidlfbphcaaGreatDoor.P
open Go.RowKit Go.Proofs.YtldpdidlfbphcaaGreatDoorW.PrintWords Go.Proofs.YtldpdidlfbphcaaGreatDoorW.PrintLast Go.Proofs.YtldpdidlfbphcaaGreatDoorW.PrintMore
attribute [local go_sem] max2_int min2_int max_two min_two max_three min_three max_four min_four
theorem size23 : (Tryz.prog.info? 23).map (·.size) = some 4 := by kernel_rfl
theorem size25 : (Tryz.prog.info? 25).map (·.size) = some 3 := by kernel_rfl
theorem made_apart {W w1 : World} {b : Nat} {ok1 ok2 : Nat → Prop} {vo vf : Value} {x5 x6 : List Int} (h1 : Kd.R (Kd.int .u8) 5 W b ok1 vo x5) (h2 : Kd.R (Kd.int .u8) 5 w1 W.heap.size ok2 vf x6) : ∀ k, vo.ownBlock = some k → vf.ownBlock ≠ some k := by
 intro k hk hf
 have a := Kd.R_base h2 k hf
 have b := Kd.R_lt h1 k hk
 omega
theorem RowInv.start {w W w1 : World} {gr gB : Nat} {rc : Array Value} {vo vf : Value} {x5 x6 : List Int} (h1 : Kd.R (Kd.int .u8) 5 W w.heap.size (fun _ => True) vo x5) (h2 : Kd.R (Kd.int .u8) 5 W w.heap.size (fun _ => True) vf x6) (h3 : ∀ k, vo.ownBlock = some k → vf.ownBlock ≠ some k) (h4 : W.heap[gr]? = some (.cells rc 46 (0, 0))) (hB : Below w.heap.size w W)
  (hbox : w1.heap[gB]? = some (.cells #[.pointer none, .slice none 0 0] 126 (0, 0))) (hb : Below W.heap.size W w1) (hg : gB = W.heap.size) : RowInv w gr gB rc vo vf x5 x6 (⟨#[]⟩ : ByteArray) w1 := by
 subst hg
 refine ⟨?_, ?_, h3, Z7 h4 hb, blk_lt h4, hB.size, .inl ⟨Nat.le_refl _, _, hbox, ⟨rfl, .inl ⟨rfl, rfl⟩⟩, by simp [Value.ownBlock]⟩, Z6 hB hb⟩
 ·exact Kd.R_below (Kd.R_mono (Kd.R_bound h1) (fun _ hk => hk.2.2.1)) hb
 ·exact Kd.R_below (Kd.R_mono (Kd.R_bound h2) (fun _ hk => hk.2.2.1)) hb
theorem inv_open {w W : World} {gr gB : Nat} {rc : Array Value} {vo vf : Value} {x5 x6 : List Int} {X : ByteArray} (h : RowInv w gr gB rc vo vf x5 x6 X W) : ∃ W0 : World, Aside0 (RowInv w gr gB rc vo vf x5 x6 X W0) ∧ Aside0 (Below W0.heap.size W0 W) := ⟨W, ⟨h⟩, ⟨Below.refl _ _⟩⟩
theorem RowInv.args {w W : World} {gr gB : Nat} {rc : Array Value} {vo vf : Value} {x5 x6 : List Int} {X : ByteArray} (h : RowInv w gr gB rc vo vf x5 x6 X W) : Below w.heap.size w W := h.2.2.2.2.2.2.2
theorem RowInv.rec {w W : World} {gr gB : Nat} {rc : Array Value} {vo vf : Value} {x5 x6 : List Int} {X : ByteArray} (h : RowInv w gr gB rc vo vf x5 x6 X W) : W.heap[gr]? = some (.cells rc 46 (0, 0)) := h.2.2.2.1
theorem row_step {l0 : List S23} {l1 : List S25} {n : Nat} {x6 : List Int} {b : Int} {X : ByteArray} {r : List Int × ByteArray} {f : S23} (h : rowL (l0.drop n) (l1.drop n) x6 b X = some r) (hn : n < l0.length) (hf : l0.getD n z23 = f) :
  n < l1.length ∧ ∃ y6 p, rowFlag f (l1.getD n z25) x6 b = some y6 ∧ rowPart f (l1.getD n z25) = some p ∧ X.size + p.size ≤ 140737488355328 ∧ rowL (l0.drop (n + 1)) (l1.drop (n + 1)) y6 (rowBit f b) (X ++ p) = some r := by
 rw [List.drop_eq_getElem_cons hn] at h
 have e0 : l0.getD n z23 = l0[n] := by simp [List.getD, hn]
 by_cases h1 : n < l1.length
 ·have e1 : l1.getD n z25 = l1[n] := by simp [List.getD, h1]
  rw [List.drop_eq_getElem_cons h1] at h
  rw [e1]
  rw [e0] at hf
  subst hf
  refine ⟨h1, ?_⟩
  simp only [rowL] at h
  obtain ⟨y6, h2, h⟩ := Option.bind_eq_some_iff.mp h
  obtain ⟨p, h3, h⟩ := Option.bind_eq_some_iff.mp h
  split at h
  ·rename_i h4
   exact ⟨y6, p, h2, h3, h4, h⟩
  ·cases h
 ·have e2 : l1.drop n = [] := List.drop_eq_nil_of_le (by omega)
  rw [e2] at h
  simp only [rowL] at h
  cases h
theorem row_kept {w1 w2 : World} {b : Nat} {ok : Nat → Prop} {v : Value} {xs : List Int} {gB : Nat} (h : Kd.R (Kd.int .u8) 5 w1 b ok v xs) (ha : ∀ k, v.ownBlock = some k → ∀ u, w1.cell? ⟨gB, 1, none⟩ = some u → u.ownBlock ≠ some k) (ho : ∀ k o, w1.heap[k]? = some o → (∀ u, w1.cell? ⟨gB, 1, none⟩ = some u → u.ownBlock ≠ some k) → w2.heap[k]? = some o) : Kd.R (Kd.int .u8) 5 w2 b (fun _ => True) v xs := by
 refine Kd.R_mono (Kd.R_step (Kd.R_tight rfl h) (fun k hk hlt => ?_)) (fun _ _ => trivial)
 obtain ⟨o, he⟩ : ∃ o, w1.heap[k]? = some o := ⟨_, Array.getElem?_eq_getElem hlt⟩
 rw [he]
 exact ho k o he (ha k hk.symm)
def row_T13 : Bool × List (List Nat × List Nat) := (true, [([], []), ([], []), ([1], [1]), ([0, 2], [0, 2]), ([3], [3]), ([], []), ([5], [5]), ([6], [6]), ([4, 7], [4, 7]), ([0, 2, 0, 1, 2, 3, 4, 5, 6, 7, 8], [0, 2]), ([9, 8, 0, 1, 2, 3, 4, 5, 6, 7, 8], [8, 9])])
def row_B13 : List Nat := [0, 0, 2, 7, 15, 0, 32, 96, 255, 511, 1023]
theorem row_tab13 : rtab .any (opsOf Tryz.f63 13) = row_T13 := by kernel_rfl
theorem row_bits13 : waitsOk row_T13.2 row_B13 = true := by kernel_rfl
def row_T17 : Bool × List (List Nat × List Nat) := (true, [([],[]),([],[]),([1],[1]),([0,2],[0,2]),([3],[3]),([],[]),([],[]),([4,5,6,0],[4,5,6]),([7,7],[7])])
theorem row_tab17 : rtab .any (opsOf Tryz.f63 17) = row_T17 := by kernel_rfl
def row_B17 : List Nat := [0, 0, 2, 7, 15, 0, 0, 127, 255]
theorem row_bits17 : waitsOk row_T17.2 row_B17 = true := by kernel_rfl
set_option maxHeartbeats 16000000 in
set_option maxRecDepth 100000 in
theorem row_walk (A0 : Option Addr) (c0 : Nat) (l0 : List (S23)) (a1_0 : Bool) (A1 : Option Addr) (c1 : Nat) (l1 : List (S25)) (t : Int) (F : List Int) (Y : ByteArray) (w : World) (hr0 : Kd.C k23 w A0 l0.length l0) (hc0 : l0.length ≤ c0) (hr1 : Kd.C k25 w A1 l1.length l1) (hc1 : l1.length ≤ c1)
  (hA : table_nullBytes.f (l0.length + 2) l0 = some t) (ht0 : 0 ≤ t) (ht1 : t.toNat ≤ 281474976710656) (hL : rowL l0 l1 (List.replicate t.toNat 0) 0 (⟨#[]⟩ : ByteArray) = some (F, Y)) (hn : l0.length ≤ 1000000000) (hs : 1 + F.length + Y.size ≤ 140737488355328) (hyn : Y.size ≠ 0) :
  Calls Tryz.prog 63 #[.slice A0 l0.length c0, .agg #[.bool a1_0, .slice A1 l1.length c1]] w fun e w' => ∃ v0_ : Value, e = .returned (v0_) ∧ Kd.R (Kd.int .u8) 5 w' w.heap.size (fun _ => True) v0_ (([rowHead a1_0] : List Int) ++ F ++ bytesI Y) ∧ Below w.heap.size w w' := by
 have hu46 := Tryz.underlying46
 have hu25 := Tryz.underlying25
 have hu23 := Tryz.underlying23
 have HR0 := Z0 hr0
 have HC0 := Z0 hc0
 have HR1 := Z0 hr1
 have HC1 := Z0 hc1
 have AT := Z0 hA
 have T0 := Z0 ht0
 have T1 := Z0 ht1
 have AL := Z0 hL
 have HN := Z0 hn
 have HS := Z0 hs
 have HYN := Z0 hyn
 clear hr0 hc0 hr1 hc1 hA ht0 ht1 hL hn hs hyn
 have HB := Z0 (Below.refl w.heap.size w)
 go_enter Tryz.func63, Tryz.ntmps63
 go_upto_if 14 with (first | ((with_reducible refine Y4 (N := 3) rfl ?_); refine Y2 ?hg (N := 3) ?hd (cs := #[.bool a1_0, .slice A1 l1.length c1]) (t := 46) ?hr ?_; (case hd => rfl); (case hg => rfl); (case hr => go_simp; try rfl); intro gr hg w4 hbox hb; have n0_ := Z0 (Z6 HB.out hb); have BKr := Z0 hbox; clear HB; have HB := n0_; clear n0_ hb hbox hg) | ((with_reducible refine Y4 (N := 12) rfl ?_); refine Kd.R_lit (Kd.int .u8) _ 5 ?hg (N := 12) ?hd (xs := ([32] : List Int)) (inner := [.int .u8 32]) (ok := fun _ => True) (okp := fun _ => True) ?hr ?hp (fun _ hk => hk) trivial (Below.refl _ _) (Nat.le_refl _) (by simp) ?_; (case hd => rfl); (case hg => rfl); (case hr => go_simp; try rfl); (case hp => exact (Reps.one (show Kd.M (Kd.int .u8) _ _ _ 32 [.int .u8 32] from rfl) (Reps.none _ _))); intro vo w5 ho6 hb hg_ hnew_; clear hg_ hnew_; have HO := Z0 (Kd.R_lower ho6 (Y0 HB.out)); have n1_ := Z0 (Z7 BKr.out hb); have n2_ := Z0 (Z6 HB.out hb); clear BKr; clear HB; have BKr := n1_; have HB := n2_; clear n1_ n2_; clear hb ho6; have hcz0 : w5.cell? ⟨gr, 0, none⟩ = some (.bool a1_0) := (Z2 BKr.out 0).trans rfl; have hcz1 : w5.cell? ⟨gr, 1, none⟩ = some (.slice A1 l1.length c1) := (Z2 BKr.out 1).trans rfl; have hfz0 := Z1 BKr.out 0; have hfz1 := Z1 BKr.out 1))
 (try simp only [Act.put, Z3, Z4, Z5])
 go_cut [] (fun wc => ∃ x5 : List Int, Aside0 (x5 = [rowHead a1_0]) ∧ Aside0 (Kd.R (Kd.int .u8) 5 wc w.heap.size (fun _ => True) vo x5) ∧ Aside0 (wc.heap[gr]? = some (.cells #[.bool a1_0, .slice A1 l1.length c1] 46 (0, 0))) ∧ Aside0 (Below w.heap.size w wc))
 case first =>
  cases a1_0
  ·go_wp2
   go_meet
   case rel => exact ⟨[32], ⟨rfl⟩, HO, BKr, HB⟩
  ·obtain ⟨go10, co10, eo10, gb10, gl10, cl10, HG10⟩ := Kd.R_form HO.out (by simp)
   subst eo10
   have GB10 := Z0 gb10
   clear gb10 gl10 HG10
   obtain ⟨hx10, hf10⟩ := Kd.R_celln 0 HO.out (0 : Int) (by omega) (by simp)
   (try rw [show ((0 : Int)).toNat = 0 from rfl] at hx10 hf10)
   have HP11 := Kd.R_putg HO.out (0 : Int) 42
   go_wp2_with (first | ((with_reducible refine gate_store (t := 5) (p := 16) rfl ?_); refine store_event (t := 5) (p := 16) (v := ?vo_w12) (w1 := (w5.setCell ⟨go10, (0 : Int).toNat, none⟩ (.int .u8 42))) ?hg ?ho ?hn ?hr ?_; (case ho => rfl); (case hg => rfl); (case hn => rfl); (case hr => go_simp; try rfl); intro w12 hw; have hg : w5.grownBy w12 (some go10) := (by rw [hw]; exact HP11.2); have n1_ : Aside0 (Kd.R (Kd.int .u8) 5 w12 w.heap.size (fun _ => True) (.slice (some ⟨go10, 0, none⟩) [(32 : Int)].length co10) [42]) := ⟨by rw [hw]; exact HP11.1⟩; clear HP11; have n0_ := Z0 (blk_grown BKr.out hg (Kd.R_ne HO.out BKr.out (by decide))); have n2_ := Z0 ((by rw [hw]; exact below_set (HB.out) GB10.out : Below w.heap.size w w12)); clear BKr; clear HO; clear HB; have BKr := n0_; have HO := n1_; have HB := n2_; clear n0_ n1_ n2_; clear hg hw))
   go_meet
   case rel => exact ⟨[42], ⟨rfl⟩, HO, BKr, HB⟩
 case rest =>
  try clear hcz0 hcz1 hfz0 hfz1
  clear HO BKr HB
  obtain ⟨x5, HX5, HO, BKr, HB⟩ := hcut
  go_wp2_with (first | ((with_reducible refine Y3 (f := 71) rfl ?_); refine goesL_ (some 18) rfl rfl Tryz.func71 (by kernel_rfl) rfl #[.slice A0 l0.length c0] rfl V1 ?_; (with_reducible refine (table_nullBytes.calls (l0.length + 2) _ _ l0 t _ ?side1 ?side2 AT.out).mono ?_); (case side1 => exact (Kd.C_below HR0.out HB.out)); (case side2 => exact HC0.out); rintro e w16 ⟨rfl, hb⟩; refine ⟨_, rfl, ?_⟩; have n0_ := Z0 (Kd.R_below HO.out hb); have n1_ := Z0 (Z7 BKr.out hb); have n2_ := Z0 (Z6 HB.out hb); clear HO; clear BKr; clear HB; have HO := n0_; have BKr := n1_; have HB := n2_; clear n0_ n1_ n2_ hb) | ((with_reducible refine Y4 (N := 19) rfl ?_); refine Kd.R_make (Kd.int .u8) _ 5 rfl (N := 19) rfl 37 _ _ rfl t rfl rfl Tryz.underlying37 (.int .u8 0) 1 info5 rfl (by decide) (by omega) 0 (ok := fun _ => True) (okp := fun _ => True) rfl (fun _ hk => hk) trivial (T0.out) (by have := T1.out; omega) (Below.refl _ _) (Nat.le_refl _) ?_; intro vf w17 ho18 hb hg_ hnew_; clear hg_ hnew_; have HAP := Z0 (made_apart HO.out ho18); have n0_ := Z0 (Kd.R_below HO.out hb); have HF := Z0 (Kd.R_lower ho18 (Y0 HB.out)); have n2_ := Z0 (Z7 BKr.out hb); have n3_ := Z0 (Z6 HB.out hb); clear HO; clear BKr; clear HB; have HO := n0_; have BKr := n2_; have HB := n3_; clear n0_ n2_ n3_; clear hb ho18) | ((with_reducible refine Y4 (N := 7) rfl ?_); refine Y2 ?hg (N := 7) ?hd (cs := #[.pointer none, .slice none 0 0]) (t := 126) ?hr ?_; (case hd => rfl); (case hg => rfl); (case hr => go_simp; try rfl); intro gB hg w19 hbox hb; have HI := Z0 (RowInv.start HO.out HF.out HAP.out BKr.out HB.out hbox hb hg); clear HO HF HAP BKr HB hb hbox hg))
  go_loopg [8, 22] (l0.length + 1) (fun kq v8 v22 w' => ∃ (n : Nat) (x6 : List Int) (b : Int) (X : ByteArray), v8 = .int .i64 b ∧ v22 = .int .i64 (n : Int) ∧ Aside0 (rowL (l0.drop n) (l1.drop n) x6 b X = some (F, Y)) ∧ Aside0 (kq + n = l0.length + 1) ∧ Aside0 (n ≤ l0.length) ∧ Aside0 (RowInv w gr gB #[.bool a1_0, .slice A1 l1.length c1] vo vf x5 x6 X w'))
  case atStart => exact ⟨0, List.replicate t.toNat 0, 0, (⟨#[]⟩ : ByteArray), rfl, rfl, AL, ⟨by omega⟩, ⟨Nat.zero_le _⟩, HI⟩
  case round =>
   clear HI
   obtain ⟨n, x6, b, X, rfl, rfl, HA, HK, HNl, HI⟩ := hrel
   by_cases c3 : (n : Int) < (l0.length : Int)
   ·obtain ⟨f, hf⟩ : ∃ f, rd_T23 l0 (n : Int) = f := ⟨_, rfl⟩
    obtain ⟨hn1, y6, p, hfl, hpt, hsz, hL⟩ := row_step HA.out (Int.ofNat_lt.1 c3) hf
    obtain ⟨v, hv⟩ : ∃ v, rd_T25 l1 (n : Int) = v := ⟨_, rfl⟩
    have hv' : l1.getD n z25 = v := hv
    rw [hv'] at hfl hpt
    have c3b := decide_eq_true c3
    have p2 : (0 : Int) ≤ n := Int.natCast_nonneg _
    have c4 : (n : Int) < (l1.length : Int) := Int.ofNat_lt.2 hn1
    have c4b := decide_eq_true c4
    obtain ⟨ad, ea, hx0, hx1, hx2, hx3⟩ := at_T23 HR0.out (n : Int) p2 c3
    cases ea
    obtain ⟨ad1, ea, hy0, hy1, hy2⟩ := at_T25 HR1.out (n : Int) p2 c4
    cases ea
    rw [hf] at hx0 hx1 hx2 hx3
    rw [hv] at hy0 hy1 hy2
    rw [Int.toNat_natCast] at hx0 hx1 hx2 hx3 hy0 hy1 hy2
    have HY0 := Z0 hy0
    have HY1 := Z0 hy1
    have HY2 := Z0 hy2
    have HBW := Z0 HI.out.args
    replace hx0 := (HBW.out.cell (World.block_lt_of_cell? w _ hx0)).trans hx0
    replace hx1 := (HBW.out.cell (World.block_lt_of_cell? w _ hx1)).trans hx1
    replace hx2 := (HBW.out.cell (World.block_lt_of_cell? w _ hx2)).trans hx2
    replace hx3 := (HBW.out.cell (World.block_lt_of_cell? w _ hx3)).trans hx3
    have hw : wrap64 ((n : Int) + 1) = ((n + 1 : Nat) : Int) := by
     have := HN.out
     have e : ((n : Int) + 1) = ((n + 1 : Nat) : Int) := by omega
     rw [e]; exact (show wrap64 ((n + 1 : Nat) : Int) = _ by have := Int.ofNat_lt.1 c3; unfold wrap64; omega)
    have HFL := Z0 hfl
    have HPT := Z0 hpt
    have HSZ := Z0 hsz
    have HL := Z0 hL
    have HN1 := Z0 (Int.ofNat_lt.1 c3)
    have HWR := Z0 hw
    clear hw hf hv hv' hn1 hfl hpt hsz hL hy0 hy1 hy2 HA HBW
    obtain ⟨W0, HI, HW⟩ := inv_open HI.out
    obtain ⟨Ao, co, eo⟩ := Kd.R_slice HI.out.2.1
    subst eo
    obtain ⟨s0, s1, s2, s3⟩ := f
    obtain ⟨v0, v1, v2⟩ := v
    simp only at hx0 hx1 hx2 hx3 HY0 HY1 HY2
    have hbit : ∀ q : Bool, s3 = q → rowBit ⟨s0, s1, s2, s3⟩ b = if q = true then wrap64 (b + 1) else b := fun q e => by subst e; rfl
    have HBIT := Z0 hbit
    clear hbit
    cases s3
    ·by_cases hz : v0 = 0
     ·subst hz
      have HREP : Aside0 (strings_Repeat.f (⟨#[32]⟩ : ByteArray) s2 = some p) := ⟨by have h_ := HPT.out; unfold rowPart at h_; rw [if_pos rfl] at h_; exact h_⟩
      have hy6 : x6 = y6 := by have h_ := HFL.out; unfold rowFlag at h_; simp only [if_neg (show ¬ (false = true) by decide)] at h_; exact Option.some.inj h_
      subst hy6
      clear HFL
      go_wp2_with (first | ((with_reducible refine Y4 (N := 10) rfl ?_); refine Y2 ?hg (N := 10) ?hd (cs := #[.string (⟨#[]⟩ : ByteArray), .int .i64 0, .int .i64 0, .bool false]) (t := 23) ?hr ?_; (case hd => rfl); (case hg => rfl); (case hr => go_simp; try rfl); intro gf hg w25 hbox hb; have GEf : Aside0 (W0.heap.size ≤ gf) := ⟨by rw [hg]; exact HW.out.size⟩; have n0_ := Z0 (Z6 HW.out hb); have BKf := Z0 hbox; clear HW; have HW := n0_; clear n0_ hb hbox hg; clear hx0 hx1 hx2 hx3; (try clear c3b)) | ((with_reducible refine gate_store (t := 23) (p := 10) rfl ?_); refine store_box ?hg (ty := 23) (p := 10) (y := .tmp 26) ?ho ?hd gf (cells := #[.string s0, .int .i64 s1, .int .i64 s2, .bool false]) (old := #[.string (⟨#[]⟩ : ByteArray), .int .i64 0, .int .i64 0, .bool false]) (t := 23) ?hx ?hy ?hgg ?hi ?hold ?h1 ?_; (case ho => rfl); (case hg => rfl); (case hd => rfl); (case hx => rfl); (case hy => rfl); (case hgg => exact BKf.out); (case hi => exact size23); (case hold => rfl); (case h1 => simp [Value.oneCell']); intro w26 hbk hbel hoth; have n0_ := Z0 (hbel _ _ HW.out GEf.out); have n1_ := Z0 hbk; clear HW; clear BKf; have HW := n0_; have BKf := n1_; clear n0_ n1_ hbk hbel hoth; have hr0 : w26.cell? ⟨gr, 0, none⟩ = some (.bool a1_0) := (Z2 (Z7 HI.out.rec HW.out) 0).trans rfl; have hr1 : w26.cell? ⟨gr, 1, none⟩ = some (.slice (some ad1) l1.length c1) := (Z2 (Z7 HI.out.rec HW.out) 1).trans rfl; have HBW := Z0 (Z6 HI.out.args HW.out); have hy0 := (HBW.out.cell (World.block_lt_of_cell? w _ HY0.out)).trans HY0.out; have hy1 := (HBW.out.cell (World.block_lt_of_cell? w _ HY1.out)).trans HY1.out; have hy2 := (HBW.out.cell (World.block_lt_of_cell? w _ HY2.out)).trans HY2.out; clear HBW) | ((with_reducible refine Y4 (N := 11) rfl ?_); refine Y2 ?hg (N := 11) ?hd (cs := #[.int .i64 0, .int .i64 0, .string (⟨#[]⟩ : ByteArray)]) (t := 25) ?hr ?_; (case hd => rfl); (case hg => rfl); (case hr => go_simp; try rfl); intro gv hg w31 hbox hb; have GEv : Aside0 (W0.heap.size ≤ gv) := ⟨by rw [hg]; exact HW.out.size⟩; have NE : Aside0 (gf ≠ gv) := ⟨by rw [hg]; exact Nat.ne_of_lt (blk_lt BKf.out)⟩; have n0_ := Z0 (Z6 HW.out hb); have n1_ := Z0 (Z7 BKf.out hb); have BKv := Z0 hbox; clear HW; clear BKf; have HW := n0_; have BKf := n1_; clear n0_ n1_ hb hbox hg; clear hr0 hr1 hy0 hy1 hy2) | ((with_reducible refine gate_store (t := 25) (p := 11) rfl ?_); refine store_box ?hg (ty := 25) (p := 11) (y := .tmp 31) ?ho ?hd gv (cells := #[.int .i64 0, .int .i64 v1, .string v2]) (old := #[.int .i64 0, .int .i64 0, .string (⟨#[]⟩ : ByteArray)]) (t := 25) ?hx ?hy ?hgg ?hi ?hold ?h1 ?_; (case ho => rfl); (case hg => rfl); (case hd => rfl); (case hx => rfl); (case hy => rfl); (case hgg => exact BKv.out); (case hi => exact size25); (case hold => rfl); (case h1 => simp [Value.oneCell']); intro w32 hbk hbel hoth; have n0_ := Z0 (hbel _ _ HW.out GEv.out); have n1_ := Z0 hbk; have n2_ := Z0 ((hoth gf NE.out).trans BKf.out); clear HW; clear BKv; clear BKf; have HW := n0_; have BKv := n1_; have BKf := n2_; clear n0_ n1_ n2_ hbk hbel hoth; have kf0 : w32.cell? ⟨gf, 0, none⟩ = some (.string s0) := (Z2 BKf.out 0).trans rfl; have kf1 : w32.cell? ⟨gf, 1, none⟩ = some (.int .i64 s1) := (Z2 BKf.out 1).trans rfl; have kf2 : w32.cell? ⟨gf, 2, none⟩ = some (.int .i64 s2) := (Z2 BKf.out 2).trans rfl; have kf3 : w32.cell? ⟨gf, 3, none⟩ = some (.bool false) := (Z2 BKf.out 3).trans rfl; have kv0 : w32.cell? ⟨gv, 0, none⟩ = some (.int .i64 0) := (Z2 BKv.out 0).trans rfl; have kv1 : w32.cell? ⟨gv, 1, none⟩ = some (.int .i64 v1) := (Z2 BKv.out 1).trans rfl; have kv2 : w32.cell? ⟨gv, 2, none⟩ = some (.string v2) := (Z2 BKv.out 2).trans rfl) | ((with_reducible refine Y3 (f := 99) rfl ?_); refine goesL_ (some 54) rfl rfl Tryz.func99 (by kernel_rfl) rfl #[.string (⟨#[32]⟩ : ByteArray), .int .i64 s2] rfl V1 ?_; (with_reducible refine (strings_Repeat.calls (⟨#[32]⟩ : ByteArray) s2 p _ HREP.out).mono ?_); rintro e w35 ⟨rfl, hb⟩; refine ⟨_, rfl, ?_⟩; have n0_ := Z0 (Z6 HW.out hb); clear HW; have HW := n0_; clear n0_ hb) | ((with_reducible refine Y3 (f := 111) rfl ?_); refine goesL_ (some 55) rfl rfl Tryz.func111 (by kernel_rfl) rfl #[.pointer (some ⟨gB, 0, none⟩), .string p] rfl V1 ?_; have hbl := HI.out.2.2.2.2.2.2.1; (with_reducible refine (Builder_WriteString gB gB (Lib.byteCells X.data.toList) p _ ?hbl ?hlen ?hBw).mono ?_); (case hbl => exact isBuilder_below hbl HW.out); (case hlen => have := HSZ.out; rw [Lib.byteCells_length]; exact this); (case hBw => have h_ := isBuilder_lt (isBuilder_below hbl HW.out); omega); clear hbl; rintro e w40 ⟨rfl, hbld, hb⟩; refine ⟨_, rfl, ?_⟩; have n0_ := Z0 (RowInv.write (RowInv.below HI.out HW.out) hbld hb); clear HI; have HI := n0_; clear n0_ hbld hb HW BKf BKv; (try clear GEf GEv NE)))
      go_roundg (gk - 1)
      case measure => have := HK.out; have := HN1.out; omega
      case rel => exact ⟨n + 1, x6, b, X ++ p, rfl, by rw [HWR.out], ⟨by have h_ := HL.out; rw [HBIT.out false rfl] at h_; exact h_⟩, ⟨by have := HK.out; have := HN1.out; omega⟩, ⟨by have := HN1.out; omega⟩, HI⟩
     ·skip
      have HPT' : writeO ⟨s0, s1, s2, false⟩ ⟨v0, v1, v2⟩ = some p := by have h_ := HPT.out; unfold rowPart at h_; rw [if_neg hz] at h_; exact h_
      obtain ⟨kc, klo, khi, krf, KF, hkv, hke, hkc⟩ := write_any _ _ _ HPT'
      have HKV := Z0 hkv
      have HKE := Z0 hke
      have HKC := Z0 hkc
      clear HPT' hkv hke hkc
      have hfl : ∀ (a b c d e : Value) (W : World), (Instr.field 102 (.agg #[a, b, c, d, e]) 3).run Tryz.prog W = .ok d W := fun _ _ _ _ _ _ => by kernel_rfl
      have hz0 : (v0 == 0) = false := beq_eq_false_iff_ne.mpr hz
      have hz1 : (v0 != 0) = true := bne_iff_ne.mpr hz
      have HZ := Z0 hz
      clear hz
      have hy6 : x6 = y6 := by have h_ := HFL.out; unfold rowFlag at h_; simp only [if_neg (show ¬ (false = true) by decide)] at h_; exact Option.some.inj h_
      subst hy6
      clear HFL
      go_wp2_with (first | ((with_reducible refine Y4 (N := 10) rfl ?_); refine Y2 ?hg (N := 10) ?hd (cs := #[.string (⟨#[]⟩ : ByteArray), .int .i64 0, .int .i64 0, .bool false]) (t := 23) ?hr ?_; (case hd => rfl); (case hg => rfl); (case hr => go_simp; try rfl); intro gf hg w25 hbox hb; have GEf : Aside0 (W0.heap.size ≤ gf) := ⟨by rw [hg]; exact HW.out.size⟩; have n0_ := Z0 (Z6 HW.out hb); have BKf := Z0 hbox; clear HW; have HW := n0_; clear n0_ hb hbox hg; clear hx0 hx1 hx2 hx3; (try clear c3b)) | ((with_reducible refine gate_store (t := 23) (p := 10) rfl ?_); refine store_box ?hg (ty := 23) (p := 10) (y := .tmp 26) ?ho ?hd gf (cells := #[.string s0, .int .i64 s1, .int .i64 s2, .bool false]) (old := #[.string (⟨#[]⟩ : ByteArray), .int .i64 0, .int .i64 0, .bool false]) (t := 23) ?hx ?hy ?hgg ?hi ?hold ?h1 ?_; (case ho => rfl); (case hg => rfl); (case hd => rfl); (case hx => rfl); (case hy => rfl); (case hgg => exact BKf.out); (case hi => exact size23); (case hold => rfl); (case h1 => simp [Value.oneCell']); intro w26 hbk hbel hoth; have n0_ := Z0 (hbel _ _ HW.out GEf.out); have n1_ := Z0 hbk; clear HW; clear BKf; have HW := n0_; have BKf := n1_; clear n0_ n1_ hbk hbel hoth; have hr0 : w26.cell? ⟨gr, 0, none⟩ = some (.bool a1_0) := (Z2 (Z7 HI.out.rec HW.out) 0).trans rfl; have hr1 : w26.cell? ⟨gr, 1, none⟩ = some (.slice (some ad1) l1.length c1) := (Z2 (Z7 HI.out.rec HW.out) 1).trans rfl; have HBW := Z0 (Z6 HI.out.args HW.out); have hy0 := (HBW.out.cell (World.block_lt_of_cell? w _ HY0.out)).trans HY0.out; have hy1 := (HBW.out.cell (World.block_lt_of_cell? w _ HY1.out)).trans HY1.out; have hy2 := (HBW.out.cell (World.block_lt_of_cell? w _ HY2.out)).trans HY2.out; clear HBW) | ((with_reducible refine Y4 (N := 11) rfl ?_); refine Y2 ?hg (N := 11) ?hd (cs := #[.int .i64 0, .int .i64 0, .string (⟨#[]⟩ : ByteArray)]) (t := 25) ?hr ?_; (case hd => rfl); (case hg => rfl); (case hr => go_simp; try rfl); intro gv hg w31 hbox hb; have GEv : Aside0 (W0.heap.size ≤ gv) := ⟨by rw [hg]; exact HW.out.size⟩; have NE : Aside0 (gf ≠ gv) := ⟨by rw [hg]; exact Nat.ne_of_lt (blk_lt BKf.out)⟩; have n0_ := Z0 (Z6 HW.out hb); have n1_ := Z0 (Z7 BKf.out hb); have BKv := Z0 hbox; clear HW; clear BKf; have HW := n0_; have BKf := n1_; clear n0_ n1_ hb hbox hg; clear hr0 hr1 hy0 hy1 hy2) | ((with_reducible refine gate_store (t := 25) (p := 11) rfl ?_); refine store_box ?hg (ty := 25) (p := 11) (y := .tmp 31) ?ho ?hd gv (cells := #[.int .i64 v0, .int .i64 v1, .string v2]) (old := #[.int .i64 0, .int .i64 0, .string (⟨#[]⟩ : ByteArray)]) (t := 25) ?hx ?hy ?hgg ?hi ?hold ?h1 ?_; (case ho => rfl); (case hg => rfl); (case hd => rfl); (case hx => rfl); (case hy => rfl); (case hgg => exact BKv.out); (case hi => exact size25); (case hold => rfl); (case h1 => simp [Value.oneCell']); intro w32 hbk hbel hoth; have n0_ := Z0 (hbel _ _ HW.out GEv.out); have n1_ := Z0 hbk; have n2_ := Z0 ((hoth gf NE.out).trans BKf.out); clear HW; clear BKv; clear BKf; have HW := n0_; have BKv := n1_; have BKf := n2_; clear n0_ n1_ n2_ hbk hbel hoth; have kf0 : w32.cell? ⟨gf, 0, none⟩ = some (.string s0) := (Z2 BKf.out 0).trans rfl; have kf1 : w32.cell? ⟨gf, 1, none⟩ = some (.int .i64 s1) := (Z2 BKf.out 1).trans rfl; have kf2 : w32.cell? ⟨gf, 2, none⟩ = some (.int .i64 s2) := (Z2 BKf.out 2).trans rfl; have kf3 : w32.cell? ⟨gf, 3, none⟩ = some (.bool false) := (Z2 BKf.out 3).trans rfl; have kv0 : w32.cell? ⟨gv, 0, none⟩ = some (.int .i64 v0) := (Z2 BKv.out 0).trans rfl; have kv1 : w32.cell? ⟨gv, 1, none⟩ = some (.int .i64 v1) := (Z2 BKv.out 1).trans rfl; have kv2 : w32.cell? ⟨gv, 2, none⟩ = some (.string v2) := (Z2 BKv.out 2).trans rfl))
      have n0_ := Z0 (below_drew1 HW.out)
      have n1_ := Z0 (Y1 BKf.out)
      have n2_ := Z0 (Y1 BKv.out)
      clear HW BKf BKv
      have HW := n0_
      have BKf := n1_
      have BKv := n2_
      clear n0_ n1_ n2_
      (try clear kf0 kf1 kf2 kf3)
      (try clear kv0 kv1 kv2)
      refine start_ (n := 9) (S := fun w' => w'.heap[gf]? = some (.cells #[.string s0, .int .i64 s1, .int .i64 s2, .bool false] 23 (0, 0)) ∧ w'.heap[gv]? = some (.cells #[.int .i64 v0, .int .i64 v1, .string v2] 25 (0, 0))) (ds := [8]) #[false, false, false, false, false, false, false, false, false] (by kernel_rfl) rfl rfl ⟨BKf.out, BKv.out⟩ (fun hHeld => ?_); refine with_tabW row_tab17 row_bits17 (fun HT_ HW_ => ?_)
      generalize w32.drew = w33 at HW BKf BKv hHeld ⊢
      refine pure_ (i := 1) (N := some 57) (v := ?_) (a' := ?_) #[false, true, false, false, false, false, false, false, false] rfl rfl (any_of HT_.out (by kernel_rfl)) (fun _ _ _ h => h) (Or.inl ⟨by rfl, ?_⟩) ?_ ?_
      rotate_left
      ·intro w'
       go_simp
       with_reducible rfl
      rotate_left
      ·simp only [Act.put, Z3, Z4, Z5, i64_w, i32_w]
       rfl
      refine take_ (i := 2) (N := some 58) (v := ?_) (a' := ?_) #[false, true, true, false, false, false, false, false, false] rfl rfl (take_ofW HT_.out HW_.out (by kernel_rfl)) (fun _ _ _ h => h) (Or.inl ⟨by rfl, ?_⟩) hHeld ?_ ?_
      rotate_left
      ·rintro w' ⟨s0_, s1_⟩
       have sc := (Z2 s0_ 1).trans rfl
       go_simp
       with_reducible rfl
      rotate_left
      ·simp only [Act.put, Z3, Z4, Z5, i64_w, i32_w]
       rfl
      refine take_ (i := 5) (N := some 61) (v := ?_) (a' := ?_) #[false, true, true, false, false, true, false, false, false] rfl rfl (take_ofW HT_.out HW_.out (by kernel_rfl)) (fun _ _ _ h => h) (Or.inl ⟨by rfl, ?_⟩) hHeld ?_ ?_
      rotate_left
      ·rintro w' ⟨s0_, s1_⟩
       have sc0 : w'.cell? ⟨gf, 0, none⟩ = some (.string s0) := (Z2 s0_ 0).trans rfl
       have sc1 : w'.cell? ⟨gf, 1, none⟩ = some (.int .i64 s1) := (Z2 s0_ 1).trans rfl
       have sc2 : w'.cell? ⟨gf, 2, none⟩ = some (.int .i64 s2) := (Z2 s0_ 2).trans rfl
       have sc3 : w'.cell? ⟨gf, 3, none⟩ = some (.bool false) := (Z2 s0_ 3).trans rfl
       go_simp
       with_reducible rfl
      rotate_left
      ·simp only [Act.put, Z3, Z4, Z5, i64_w, i32_w]
       rfl
      refine take_ (i := 6) (N := some 62) (v := ?_) (a' := ?_) #[false, true, true, false, false, true, true, false, false] rfl rfl (take_ofW HT_.out HW_.out (by kernel_rfl)) (fun _ _ _ h => h) (Or.inl ⟨by rfl, ?_⟩) hHeld ?_ ?_
      rotate_left
      ·rintro w' ⟨s0_, s1_⟩
       have sc0 : w'.cell? ⟨gv, 0, none⟩ = some (.int .i64 v0) := (Z2 s1_ 0).trans rfl
       have sc1 : w'.cell? ⟨gv, 1, none⟩ = some (.int .i64 v1) := (Z2 s1_ 1).trans rfl
       have sc2 : w'.cell? ⟨gv, 2, none⟩ = some (.string v2) := (Z2 s1_ 2).trans rfl
       go_simp
       with_reducible rfl
      rotate_left
      ·simp only [Act.put, Z3, Z4, Z5, i64_w, i32_w]
       rfl
      refine one_ (i := 0) (N := some 56) #[true, true, true, false, false, true, true, false, false] rfl rfl (one_of HT_.out (by kernel_rfl)) (by decide) (fun K hK => ?_)
      refine goes_ Tryz.func89 (by kernel_rfl) rfl #[] (by rfl) rfl rfl V1 ?_
      refine (table_kinds w33).mono ?_
      rintro e w34 ⟨rk, rfl, hkb, hb⟩
      refine ⟨_, rfl, ?_⟩
      have HKB := Z0 hkb
      clear hkb
      have n0_ := Z0 (Z6 HW.out hb)
      have n1_ := Z0 (Z7 BKf.out hb)
      have n2_ := Z0 (Z7 BKv.out hb)
      clear HW BKf BKv
      have HW := n0_
      have BKf := n1_
      have BKv := n2_
      clear n0_ n1_ n2_ hb
      refine hK.out _ _ ⟨BKf.out, BKv.out⟩ (fun hHeld => ?_)
      clear hK K
      refine norm_ (a' := ?_) ?_ ?_
      rotate_left
      ·show Act.put _ (some 56) _ = _
       simp only [Act.put, Z3, Z4, Z5, i64_w, i32_w]
       rfl
      refine one_ (i := 3) (N := some 59) #[true, true, true, true, false, true, true, false, false] rfl rfl (one_of HT_.out (by kernel_rfl)) (by decide) (fun K hK => ?_)
      have hlk := run_look' w34 rk HKB.out _ _ HKV.out
      refine event_step (v := .agg #[kc, klo, khi, .func (.func KF) #[] #[], krf]) (w1 := w34) rfl (by first | (go_simp; done) | (go_simp; rfl) | (go_simp; exact ⟨rfl, rfl⟩)) ?_
      refine hK.out _ _ ⟨BKf.out, BKv.out⟩ (fun hHeld => ?_)
      clear hK K
      refine norm_ (a' := ?_) ?_ ?_
      rotate_left
      ·show Act.put _ (some 59) _ = _
       simp only [Act.put, Z3, Z4, Z5, i64_w, i32_w]
       rfl
      clear hlk
      refine one_ (i := 4) (N := some 60) #[true, true, true, true, true, true, true, false, false] rfl rfl (one_of HT_.out (by kernel_rfl)) (by decide) (fun K hK => ?_)
      refine event_step (v := .func (.func KF) #[] #[]) (w1 := w34) rfl (by first | (go_simp; done) | (go_simp; rfl) | (go_simp; exact ⟨rfl, rfl⟩)) ?_
      refine hK.out _ _ ⟨BKf.out, BKv.out⟩ (fun hHeld => ?_)
      clear hK K
      refine norm_ (a' := ?_) ?_ ?_
      rotate_left
      ·show Act.put _ (some 60) _ = _
       simp only [Act.put, Z3, Z4, Z5, i64_w, i32_w]
       rfl
      refine one_ (i := 7) (N := some 63) #[true, true, true, true, true, true, true, true, false] rfl rfl (one_of HT_.out (by kernel_rfl)) (by decide) (fun K hK => ?_)
      refine goesV_ (f := KF) (x := 60) HKE.out #[.agg #[.string s0, .int .i64 s1, .int .i64 s2, .bool false], .agg #[.int .i64 v0, .int .i64 v1, .string v2]] (by rfl) rfl rfl (by rfl) V1 ?_
      refine (HKC.out w34).mono ?_
      rintro e w35 ⟨rfl, hb⟩
      refine ⟨_, rfl, ?_⟩
      have n0_ := Z0 (Z6 HW.out hb)
      have n1_ := Z0 (Z7 BKf.out hb)
      have n2_ := Z0 (Z7 BKv.out hb)
      clear HW BKf BKv
      have HW := n0_
      have BKf := n1_
      have BKv := n2_
      clear n0_ n1_ n2_ hb
      refine hK.out _ _ ⟨BKf.out, BKv.out⟩ (fun hHeld => ?_)
      clear hK K
      refine norm_ (a' := ?_) ?_ ?_
      rotate_left
      ·show Act.put _ (some 63) _ = _
       simp only [Act.put, Z3, Z4, Z5, i64_w, i32_w]
       rfl
      refine last_ (i := 8) (N := some 64) #[true, true, true, true, true, true, true, true, true] rfl rfl (one_of HT_.out (by kernel_rfl)) (by decide) (fun K hK => ?_)
      refine goes_ Tryz.func111 (by kernel_rfl) rfl #[.pointer (some ⟨gB, 0, none⟩), .string p] (by rfl) rfl rfl V1 ?_
      have hbl := HI.out.2.2.2.2.2.2.1; (with_reducible refine (Builder_WriteString gB gB (Lib.byteCells X.data.toList) p _ ?hbl ?hlen ?hBw).mono ?_); (case hbl => exact isBuilder_below hbl HW.out); (case hlen => have := HSZ.out; rw [Lib.byteCells_length]; exact this); (case hBw => have h_ := isBuilder_lt (isBuilder_below hbl HW.out); omega); clear hbl; rintro e w40 ⟨rfl, hbld, hb⟩; refine ⟨_, rfl, ?_⟩; have n0_ := Z0 (RowInv.write (RowInv.below HI.out HW.out) hbld hb); clear HI; have HI := n0_; clear n0_ hbld hb HW BKf BKv; (try clear GEf GEv NE)
      refine hK.out _ _ ?_
      clear hK K
      refine norm_ (a' := ?_) ?_ ?_
      rotate_left
      ·show Act.put _ (some 64) _ = _
       simp only [Act.put, Z3, Z4, Z5, i64_w, i32_w]
       rfl
      refine done_ (done_of HT_.out (by kernel_rfl)) ?_
      clear hHeld HT_ HW_ hfl HKV HKB HKE HKC
      go_wp2
      go_roundg (gk - 1)
      case measure => have := HK.out; have := HN1.out; omega
      case rel => exact ⟨n + 1, x6, b, X ++ p, rfl, by rw [HWR.out], ⟨by have h_ := HL.out; rw [HBIT.out false rfl] at h_; exact h_⟩, ⟨by have := HK.out; have := HN1.out; omega⟩, ⟨by have := HN1.out; omega⟩, HI⟩
    ·by_cases hz : v0 = 0
     ·subst hz
      have HREP : Aside0 (strings_Repeat.f (⟨#[32]⟩ : ByteArray) s2 = some p) := ⟨by have h_ := HPT.out; unfold rowPart at h_; rw [if_pos rfl] at h_; exact h_⟩
      go_wp2_with (first | ((with_reducible refine Y4 (N := 10) rfl ?_); refine Y2 ?hg (N := 10) ?hd (cs := #[.string (⟨#[]⟩ : ByteArray), .int .i64 0, .int .i64 0, .bool false]) (t := 23) ?hr ?_; (case hd => rfl); (case hg => rfl); (case hr => go_simp; try rfl); intro gf hg w25 hbox hb; have GEf : Aside0 (W0.heap.size ≤ gf) := ⟨by rw [hg]; exact HW.out.size⟩; have n0_ := Z0 (Z6 HW.out hb); have BKf := Z0 hbox; clear HW; have HW := n0_; clear n0_ hb hbox hg; clear hx0 hx1 hx2 hx3; (try clear c3b)) | ((with_reducible refine gate_store (t := 23) (p := 10) rfl ?_); refine store_box ?hg (ty := 23) (p := 10) (y := .tmp 26) ?ho ?hd gf (cells := #[.string s0, .int .i64 s1, .int .i64 s2, .bool true]) (old := #[.string (⟨#[]⟩ : ByteArray), .int .i64 0, .int .i64 0, .bool false]) (t := 23) ?hx ?hy ?hgg ?hi ?hold ?h1 ?_; (case ho => rfl); (case hg => rfl); (case hd => rfl); (case hx => rfl); (case hy => rfl); (case hgg => exact BKf.out); (case hi => exact size23); (case hold => rfl); (case h1 => simp [Value.oneCell']); intro w26 hbk hbel hoth; have n0_ := Z0 (hbel _ _ HW.out GEf.out); have n1_ := Z0 hbk; clear HW; clear BKf; have HW := n0_; have BKf := n1_; clear n0_ n1_ hbk hbel hoth; have hr0 : w26.cell? ⟨gr, 0, none⟩ = some (.bool a1_0) := (Z2 (Z7 HI.out.rec HW.out) 0).trans rfl; have hr1 : w26.cell? ⟨gr, 1, none⟩ = some (.slice (some ad1) l1.length c1) := (Z2 (Z7 HI.out.rec HW.out) 1).trans rfl; have HBW := Z0 (Z6 HI.out.args HW.out); have hy0 := (HBW.out.cell (World.block_lt_of_cell? w _ HY0.out)).trans HY0.out; have hy1 := (HBW.out.cell (World.block_lt_of_cell? w _ HY1.out)).trans HY1.out; have hy2 := (HBW.out.cell (World.block_lt_of_cell? w _ HY2.out)).trans HY2.out; clear HBW) | ((with_reducible refine Y4 (N := 11) rfl ?_); refine Y2 ?hg (N := 11) ?hd (cs := #[.int .i64 0, .int .i64 0, .string (⟨#[]⟩ : ByteArray)]) (t := 25) ?hr ?_; (case hd => rfl); (case hg => rfl); (case hr => go_simp; try rfl); intro gv hg w31 hbox hb; have GEv : Aside0 (W0.heap.size ≤ gv) := ⟨by rw [hg]; exact HW.out.size⟩; have NE : Aside0 (gf ≠ gv) := ⟨by rw [hg]; exact Nat.ne_of_lt (blk_lt BKf.out)⟩; have n0_ := Z0 (Z6 HW.out hb); have n1_ := Z0 (Z7 BKf.out hb); have BKv := Z0 hbox; clear HW; clear BKf; have HW := n0_; have BKf := n1_; clear n0_ n1_ hb hbox hg; clear hr0 hr1 hy0 hy1 hy2) | ((with_reducible refine gate_store (t := 25) (p := 11) rfl ?_); refine store_box ?hg (ty := 25) (p := 11) (y := .tmp 31) ?ho ?hd gv (cells := #[.int .i64 0, .int .i64 v1, .string v2]) (old := #[.int .i64 0, .int .i64 0, .string (⟨#[]⟩ : ByteArray)]) (t := 25) ?hx ?hy ?hgg ?hi ?hold ?h1 ?_; (case ho => rfl); (case hg => rfl); (case hd => rfl); (case hx => rfl); (case hy => rfl); (case hgg => exact BKv.out); (case hi => exact size25); (case hold => rfl); (case h1 => simp [Value.oneCell']); intro w32 hbk hbel hoth; have n0_ := Z0 (hbel _ _ HW.out GEv.out); have n1_ := Z0 hbk; have n2_ := Z0 ((hoth gf NE.out).trans BKf.out); clear HW; clear BKv; clear BKf; have HW := n0_; have BKv := n1_; have BKf := n2_; clear n0_ n1_ n2_ hbk hbel hoth; have kf0 : w32.cell? ⟨gf, 0, none⟩ = some (.string s0) := (Z2 BKf.out 0).trans rfl; have kf1 : w32.cell? ⟨gf, 1, none⟩ = some (.int .i64 s1) := (Z2 BKf.out 1).trans rfl; have kf2 : w32.cell? ⟨gf, 2, none⟩ = some (.int .i64 s2) := (Z2 BKf.out 2).trans rfl; have kf3 : w32.cell? ⟨gf, 3, none⟩ = some (.bool true) := (Z2 BKf.out 3).trans rfl; have kv0 : w32.cell? ⟨gv, 0, none⟩ = some (.int .i64 0) := (Z2 BKv.out 0).trans rfl; have kv1 : w32.cell? ⟨gv, 1, none⟩ = some (.int .i64 v1) := (Z2 BKv.out 1).trans rfl; have kv2 : w32.cell? ⟨gv, 2, none⟩ = some (.string v2) := (Z2 BKv.out 2).trans rfl))
      obtain ⟨ji, hji⟩ : ∃ j_ : Int, (wrap64 (Int.tdiv b 8)) = j_ := ⟨_, rfl⟩
      obtain ⟨jm, hjm⟩ : ∃ j_ : Int, (Int.tmod b 8) = j_ := ⟨_, rfl⟩
      obtain ⟨js, hjs⟩ : ∃ j_ : Int, (shl .u8 1 jm) = j_ := ⟨_, rfl⟩
      have hq := HFL.out
      unfold rowFlag at hq
      simp only [if_true] at hq
      rw [hji, hjm, hjs] at hq
      have hp1 : 0 ≤ ji := by
       by_cases h_ : 0 ≤ ji
       ·exact h_
       ·rw [if_neg h_] at hq; cases hq
      rw [if_pos hp1] at hq
      have hp2 : ji < (x6.length : Int) := by
       by_cases h_ : ji < (x6.length : Int)
       ·exact h_
       ·rw [if_neg h_] at hq; cases hq
      rw [if_pos hp2] at hq
      have hp3 : 0 ≤ jm := by
       by_cases h_ : 0 ≤ jm
       ·exact h_
       ·rw [if_neg h_] at hq; cases hq
      rw [if_pos hp3] at hq
      have hy6 := Option.some.inj hq
      clear hq
      have HP1 := Z0 hp1
      have HP2 := Z0 hp2
      have HY6 := Z0 hy6
      clear hy6
      have c46b0 : decide (0 ≤ (ji)) = true := decide_eq_true hp1
      have c47b0 : decide ((ji) < (x6.length : Int)) = true := decide_eq_true hp2
      have c49b0 := eq_true hp3
      have c49b1 : decide (0 ≤ jm) = true := decide_eq_true hp3
      have hjiw : (IntKind.i64.wrap (Int.tdiv b 8)) = ji := (i64_w _).trans hji
      have hjs_ : (IntKind.u8.wrap (1 * 2 ^ min jm.toNat 8)) = js := hjs
      have hjsz : jm ≤ 8 → (IntKind.u8.wrap (1 * 2 ^ jm.toNat)) = js := shl_small hjs
      have hjsu : (IntKind.u8.wrap (2 ^ min jm.toNat 8)) = js := by have h_ := hjs_; rw [Int.one_mul] at h_; exact h_
      have hjsv : jm ≤ 8 → (IntKind.u8.wrap (2 ^ jm.toNat)) = js := fun hle_ => by have h_ := hjsz hle_; rw [Int.one_mul] at h_; exact h_
      clear hp1 hp2 hp3
      have n0_ := Z0 (RowInv.below (RowInv.below HI.out HW.out) (below_drew1 (Below.refl _ _)))
      have n1_ := Z0 (Y1 BKf.out)
      have n2_ := Z0 (Y1 BKv.out)
      clear HI HW BKf BKv GEf GEv NE
      have HI := n0_
      have BKf := n1_
      have BKv := n2_
      clear n0_ n1_ n2_
      (try clear kf0 kf1 kf2 kf3)
      (try clear kv0 kv1 kv2)
      obtain ⟨ad179, e179, hx179_0⟩ := Kd.at_int (Kd.R_reads' HI.out.2.1).2.2 ji HP1.out HP2.out
      cases e179
      obtain ⟨go51, co51, eo51, gb51, gl51, cl51, HG51⟩ := Kd.R_form HI.out.2.1 (by have := HP1.out; have := HP2.out; omega)
      (first | cases eo51 | (injection eo51 with ea_ en_ ec_; (first | subst ea_ | (injection ea_ with ea_; subst ea_)); subst ec_; clear en_))
      have HNf : Aside0 (gf ≠ go51) := ⟨blk_ne BKf.out HG51 (by decide)⟩
      have HNv : Aside0 (gv ≠ go51) := ⟨blk_ne BKv.out HG51 (by decide)⟩
      clear gb51 gl51 HG51
      (first | simp only [add_plain] at hx179_0 | skip)
      obtain ⟨hx51_0, hf51_0⟩ := Kd.R_celln 0 HI.out.2.1 ji HP1.out HP2.out
      have pp1 := eq_true HP1.out
      have pp2 := eq_true HP2.out
      have HQ := Z0 (RowInv.flag HI.out ji (Go.bits .or .u8 (rd x6 ji) js) HP1.out HP2.out).1
      rw [HY6.out] at HQ
      refine start_ (n := 11) (S := fun w' => w'.cell? ⟨go51, ji.toNat, none⟩ = some (.int .u8 (rd x6 ji))) (ds := [10]) #[false, false, false, false, false, false, false, false, false, false, false] (by kernel_rfl) rfl rfl (hx179_0) (fun hHeld => ?_); refine with_tabW row_tab13 row_bits13 (fun HT_ HW_ => ?_)
      generalize w32.drew = w33 at HI BKf BKv HQ hf51_0 hx179_0 hx51_0 hHeld ⊢
      refine pure_ (i := 0) (N := some 37) (v := ?_) (a' := ?_) #[true, false, false, false, false, false, false, false, false, false, false] rfl rfl (any_of HT_.out (by kernel_rfl)) (fun _ _ _ h => h) (Or.inl ⟨by rfl, ?_⟩) ?_ ?_
      rotate_left
      ·intro w'
       go_simp
       with_reducible rfl
      rotate_left
      ·simp only [Act.put, Z3, Z4, Z5, i64_w, i32_w]
       rfl
      refine pure_ (i := 1) (N := some 38) (v := ?_) (a' := ?_) #[true, true, false, false, false, false, false, false, false, false, false] rfl rfl (any_of HT_.out (by kernel_rfl)) (fun _ _ _ h => h) (Or.inl ⟨by rfl, ?_⟩) ?_ ?_
      rotate_left
      ·intro w'
       go_simp
       with_reducible rfl
      rotate_left
      ·simp only [Act.put, Z3, Z4, Z5, i64_w, i32_w]
       rfl
      refine pure_ (i := 2) (N := some 39) (v := ?_) (a' := ?_) #[true, true, true, false, false, false, false, false, false, false, false] rfl rfl (any_of HT_.out (by kernel_rfl)) (fun _ _ _ h => h) (Or.inl ⟨by rfl, ?_⟩) ?_ ?_
      rotate_left
      ·intro w'
       go_simp
       with_reducible rfl
      rotate_left
      ·simp only [Act.put, Z3, Z4, Z5, i64_w, i32_w]
       rfl
      refine pure_ (i := 3) (N := some 40) (v := ?_) (a' := ?_) #[true, true, true, true, false, false, false, false, false, false, false] rfl rfl (any_of HT_.out (by kernel_rfl)) (fun _ _ _ h => h) (Or.inl ⟨by rfl, ?_⟩) ?_ ?_
      rotate_left
      ·intro w'
       go_simp
       with_reducible rfl
      rotate_left
      ·simp only [Act.put, Z3, Z4, Z5, i64_w, i32_w]
       rfl
      refine pure_ (i := 5) (N := some 42) (v := ?_) (a' := ?_) #[true, true, true, true, false, true, false, false, false, false, false] rfl rfl (any_of HT_.out (by kernel_rfl)) (fun _ _ _ h => h) (Or.inl ⟨by rfl, ?_⟩) ?_ ?_
      rotate_left
      ·intro w'
       go_simp
       with_reducible rfl
      rotate_left
      ·simp only [Act.put, Z3, Z4, Z5, i64_w, i32_w]
       rfl
      refine pure_ (i := 6) (N := some 43) (v := ?_) (a' := ?_) #[true, true, true, true, false, true, true, false, false, false, false] rfl rfl (any_of HT_.out (by kernel_rfl)) (fun _ _ _ h => h) (Or.inl ⟨by rfl, ?_⟩) ?_ ?_
      rotate_left
      ·intro w'
       go_simp
       with_reducible rfl
      rotate_left
      ·simp only [Act.put, Z3, Z4, Z5, i64_w, i32_w]
       rfl
      refine pure_ (i := 7) (N := some 44) (v := ?_) (a' := ?_) #[true, true, true, true, false, true, true, true, false, false, false] rfl rfl (any_of HT_.out (by kernel_rfl)) (fun _ _ _ h => h) (Or.inl ⟨by rfl, ?_⟩) ?_ ?_
      rotate_left
      ·intro w'
       go_simp
       with_reducible rfl
      rotate_left
      ·simp only [Act.put, Z3, Z4, Z5, i64_w, i32_w]
       rfl
      refine take_ (i := 4) (N := some 41) (v := ?_) (a' := ?_) #[true, true, true, true, true, true, true, true, false, false, false] rfl rfl (take_ofW HT_.out HW_.out (by kernel_rfl)) (fun _ _ _ h => h) (Or.inl ⟨by rfl, ?_⟩) hHeld ?_ ?_
      rotate_left
      ·rintro w' s0
       skip
       go_simp
       with_reducible rfl
      rotate_left
      ·simp only [Act.put, Z3, Z4, Z5, i64_w, i32_w]
       rfl
      refine pure_ (i := 8) (N := some 45) (v := ?_) (a' := ?_) #[true, true, true, true, true, true, true, true, true, false, false] rfl rfl (any_of HT_.out (by kernel_rfl)) (fun _ _ _ h => h) (Or.inl ⟨by rfl, ?_⟩) ?_ ?_
      rotate_left
      ·intro w'
       go_simp
       with_reducible rfl
      rotate_left
      ·simp only [Act.put, Z3, Z4, Z5, i64_w, i32_w]
       rfl
      refine pure_ (i := 9) (N := some 46) (v := ?_) (a' := ?_) #[true, true, true, true, true, true, true, true, true, true, false] rfl rfl (any_of HT_.out (by kernel_rfl)) (fun _ _ _ h => h) (Or.inl ⟨by rfl, ?_⟩) ?_ ?_
      rotate_left
      ·intro w'
       go_simp
       with_reducible rfl
      rotate_left
      ·simp only [Act.put, Z3, Z4, Z5, i64_w, i32_w]
       rfl
      refine last_ (i := 10) (N := none) #[true, true, true, true, true, true, true, true, true, true, true] rfl rfl (one_of HT_.out (by kernel_rfl)) (by decide) (fun K hK => ?_)
      refine skip_ (w1 := ?_) (by rfl) rfl ?_ ?_
      rotate_left
      ·go_simp
       rfl
      refine hK.out _ _ ?_
      clear hK K
      refine done_ (done_of HT_.out (by kernel_rfl)) ?_
      have n1_ : Aside0 ((w33.setCell ⟨go51, ji.toNat, none⟩ (.int .u8 (Go.bits .or .u8 (rd x6 ji) js))).heap[gf]? = some (.cells #[.string s0, .int .i64 s1, .int .i64 s2, .bool true] 23 (0, 0))) := ⟨blk_far BKf.out HNf.out _⟩
      have n2_ : Aside0 ((w33.setCell ⟨go51, ji.toNat, none⟩ (.int .u8 (Go.bits .or .u8 (rd x6 ji) js))).heap[gv]? = some (.cells #[.int .i64 0, .int .i64 v1, .string v2] 25 (0, 0))) := ⟨blk_far BKv.out HNv.out _⟩
      clear HI BKf BKv HNf HNv hHeld HT_ HW_ hx179_0 hx51_0 hf51_0 pp1 pp2 c46b0 c47b0 c49b0 c49b1 hjiw hjs_ hjsz hjsu hjsv
      have BKf := n1_
      have BKv := n2_
      have HI := HQ
      clear n1_ n2_ HQ
      generalize w33.setCell ⟨go51, ji.toNat, none⟩ (.int .u8 (Go.bits .or .u8 (rd x6 ji) js)) = w36 at HI BKf BKv ⊢
      obtain ⟨W1, HI, HW⟩ := inv_open HI.out
      have kf0 : w36.cell? ⟨gf, 0, none⟩ = some (.string s0) := (Z2 BKf.out 0).trans rfl
      have kf1 : w36.cell? ⟨gf, 1, none⟩ = some (.int .i64 s1) := (Z2 BKf.out 1).trans rfl
      have kf2 : w36.cell? ⟨gf, 2, none⟩ = some (.int .i64 s2) := (Z2 BKf.out 2).trans rfl
      have kf3 : w36.cell? ⟨gf, 3, none⟩ = some (.bool true) := (Z2 BKf.out 3).trans rfl
      have kv0 : w36.cell? ⟨gv, 0, none⟩ = some (.int .i64 0) := (Z2 BKv.out 0).trans rfl
      have kv1 : w36.cell? ⟨gv, 1, none⟩ = some (.int .i64 v1) := (Z2 BKv.out 1).trans rfl
      have kv2 : w36.cell? ⟨gv, 2, none⟩ = some (.string v2) := (Z2 BKv.out 2).trans rfl
      go_wp2_with (first | ((with_reducible refine Y3 (f := 99) rfl ?_); refine goesL_ (some 54) rfl rfl Tryz.func99 (by kernel_rfl) rfl #[.string (⟨#[32]⟩ : ByteArray), .int .i64 s2] rfl V1 ?_; (with_reducible refine (strings_Repeat.calls (⟨#[32]⟩ : ByteArray) s2 p _ HREP.out).mono ?_); rintro e w35 ⟨rfl, hb⟩; refine ⟨_, rfl, ?_⟩; have n0_ := Z0 (Z6 HW.out hb); clear HW; have HW := n0_; clear n0_ hb) | ((with_reducible refine Y3 (f := 111) rfl ?_); refine goesL_ (some 55) rfl rfl Tryz.func111 (by kernel_rfl) rfl #[.pointer (some ⟨gB, 0, none⟩), .string p] rfl V1 ?_; have hbl := HI.out.2.2.2.2.2.2.1; (with_reducible refine (Builder_WriteString gB gB (Lib.byteCells X.data.toList) p _ ?hbl ?hlen ?hBw).mono ?_); (case hbl => exact isBuilder_below hbl HW.out); (case hlen => have := HSZ.out; rw [Lib.byteCells_length]; exact this); (case hBw => have h_ := isBuilder_lt (isBuilder_below hbl HW.out); omega); clear hbl; rintro e w40 ⟨rfl, hbld, hb⟩; refine ⟨_, rfl, ?_⟩; have n0_ := Z0 (RowInv.write (RowInv.below HI.out HW.out) hbld hb); clear HI; have HI := n0_; clear n0_ hbld hb HW BKf BKv; (try clear GEf GEv NE)))
      go_roundg (gk - 1)
      case measure => have := HK.out; have := HN1.out; omega
      case rel => exact ⟨n + 1, y6, (wrap64 (b + 1)), X ++ p, rfl, by rw [HWR.out], ⟨by have h_ := HL.out; rw [HBIT.out true rfl] at h_; exact h_⟩, ⟨by have := HK.out; have := HN1.out; omega⟩, ⟨by have := HN1.out; omega⟩, HI⟩
     ·skip
      have HPT' : writeO ⟨s0, s1, s2, true⟩ ⟨v0, v1, v2⟩ = some p := by have h_ := HPT.out; unfold rowPart at h_; rw [if_neg hz] at h_; exact h_
      obtain ⟨kc, klo, khi, krf, KF, hkv, hke, hkc⟩ := write_any _ _ _ HPT'
      have HKV := Z0 hkv
      have HKE := Z0 hke
      have HKC := Z0 hkc
      clear HPT' hkv hke hkc
      have hfl : ∀ (a b c d e : Value) (W : World), (Instr.field 102 (.agg #[a, b, c, d, e]) 3).run Tryz.prog W = .ok d W := fun _ _ _ _ _ _ => by kernel_rfl
      have hz0 : (v0 == 0) = false := beq_eq_false_iff_ne.mpr hz
      have hz1 : (v0 != 0) = true := bne_iff_ne.mpr hz
      have HZ := Z0 hz
      clear hz
      have hy6 : x6 = y6 := by have h_ := HFL.out; unfold rowFlag at h_; simp only [if_true, if_neg HZ.out] at h_; exact Option.some.inj h_
      subst hy6
      clear HFL
      go_wp2_with (first | ((with_reducible refine Y4 (N := 10) rfl ?_); refine Y2 ?hg (N := 10) ?hd (cs := #[.string (⟨#[]⟩ : ByteArray), .int .i64 0, .int .i64 0, .bool false]) (t := 23) ?hr ?_; (case hd => rfl); (case hg => rfl); (case hr => go_simp; try rfl); intro gf hg w25 hbox hb; have GEf : Aside0 (W0.heap.size ≤ gf) := ⟨by rw [hg]; exact HW.out.size⟩; have n0_ := Z0 (Z6 HW.out hb); have BKf := Z0 hbox; clear HW; have HW := n0_; clear n0_ hb hbox hg; clear hx0 hx1 hx2 hx3; (try clear c3b)) | ((with_reducible refine gate_store (t := 23) (p := 10) rfl ?_); refine store_box ?hg (ty := 23) (p := 10) (y := .tmp 26) ?ho ?hd gf (cells := #[.string s0, .int .i64 s1, .int .i64 s2, .bool true]) (old := #[.string (⟨#[]⟩ : ByteArray), .int .i64 0, .int .i64 0, .bool false]) (t := 23) ?hx ?hy ?hgg ?hi ?hold ?h1 ?_; (case ho => rfl); (case hg => rfl); (case hd => rfl); (case hx => rfl); (case hy => rfl); (case hgg => exact BKf.out); (case hi => exact size23); (case hold => rfl); (case h1 => simp [Value.oneCell']); intro w26 hbk hbel hoth; have n0_ := Z0 (hbel _ _ HW.out GEf.out); have n1_ := Z0 hbk; clear HW; clear BKf; have HW := n0_; have BKf := n1_; clear n0_ n1_ hbk hbel hoth; have hr0 : w26.cell? ⟨gr, 0, none⟩ = some (.bool a1_0) := (Z2 (Z7 HI.out.rec HW.out) 0).trans rfl; have hr1 : w26.cell? ⟨gr, 1, none⟩ = some (.slice (some ad1) l1.length c1) := (Z2 (Z7 HI.out.rec HW.out) 1).trans rfl; have HBW := Z0 (Z6 HI.out.args HW.out); have hy0 := (HBW.out.cell (World.block_lt_of_cell? w _ HY0.out)).trans HY0.out; have hy1 := (HBW.out.cell (World.block_lt_of_cell? w _ HY1.out)).trans HY1.out; have hy2 := (HBW.out.cell (World.block_lt_of_cell? w _ HY2.out)).trans HY2.out; clear HBW) | ((with_reducible refine Y4 (N := 11) rfl ?_); refine Y2 ?hg (N := 11) ?hd (cs := #[.int .i64 0, .int .i64 0, .string (⟨#[]⟩ : ByteArray)]) (t := 25) ?hr ?_; (case hd => rfl); (case hg => rfl); (case hr => go_simp; try rfl); intro gv hg w31 hbox hb; have GEv : Aside0 (W0.heap.size ≤ gv) := ⟨by rw [hg]; exact HW.out.size⟩; have NE : Aside0 (gf ≠ gv) := ⟨by rw [hg]; exact Nat.ne_of_lt (blk_lt BKf.out)⟩; have n0_ := Z0 (Z6 HW.out hb); have n1_ := Z0 (Z7 BKf.out hb); have BKv := Z0 hbox; clear HW; clear BKf; have HW := n0_; have BKf := n1_; clear n0_ n1_ hb hbox hg; clear hr0 hr1 hy0 hy1 hy2) | ((with_reducible refine gate_store (t := 25) (p := 11) rfl ?_); refine store_box ?hg (ty := 25) (p := 11) (y := .tmp 31) ?ho ?hd gv (cells := #[.int .i64 v0, .int .i64 v1, .string v2]) (old := #[.int .i64 0, .int .i64 0, .string (⟨#[]⟩ : ByteArray)]) (t := 25) ?hx ?hy ?hgg ?hi ?hold ?h1 ?_; (case ho => rfl); (case hg => rfl); (case hd => rfl); (case hx => rfl); (case hy => rfl); (case hgg => exact BKv.out); (case hi => exact size25); (case hold => rfl); (case h1 => simp [Value.oneCell']); intro w32 hbk hbel hoth; have n0_ := Z0 (hbel _ _ HW.out GEv.out); have n1_ := Z0 hbk; have n2_ := Z0 ((hoth gf NE.out).trans BKf.out); clear HW; clear BKv; clear BKf; have HW := n0_; have BKv := n1_; have BKf := n2_; clear n0_ n1_ n2_ hbk hbel hoth; have kf0 : w32.cell? ⟨gf, 0, none⟩ = some (.string s0) := (Z2 BKf.out 0).trans rfl; have kf1 : w32.cell? ⟨gf, 1, none⟩ = some (.int .i64 s1) := (Z2 BKf.out 1).trans rfl; have kf2 : w32.cell? ⟨gf, 2, none⟩ = some (.int .i64 s2) := (Z2 BKf.out 2).trans rfl; have kf3 : w32.cell? ⟨gf, 3, none⟩ = some (.bool true) := (Z2 BKf.out 3).trans rfl; have kv0 : w32.cell? ⟨gv, 0, none⟩ = some (.int .i64 v0) := (Z2 BKv.out 0).trans rfl; have kv1 : w32.cell? ⟨gv, 1, none⟩ = some (.int .i64 v1) := (Z2 BKv.out 1).trans rfl; have kv2 : w32.cell? ⟨gv, 2, none⟩ = some (.string v2) := (Z2 BKv.out 2).trans rfl))
      have n0_ := Z0 (below_drew1 HW.out)
      have n1_ := Z0 (Y1 BKf.out)
      have n2_ := Z0 (Y1 BKv.out)
      clear HW BKf BKv
      have HW := n0_
      have BKf := n1_
      have BKv := n2_
      clear n0_ n1_ n2_
      (try clear kf0 kf1 kf2 kf3)
      (try clear kv0 kv1 kv2)
      refine start_ (n := 9) (S := fun w' => w'.heap[gf]? = some (.cells #[.string s0, .int .i64 s1, .int .i64 s2, .bool true] 23 (0, 0)) ∧ w'.heap[gv]? = some (.cells #[.int .i64 v0, .int .i64 v1, .string v2] 25 (0, 0))) (ds := [8]) #[false, false, false, false, false, false, false, false, false] (by kernel_rfl) rfl rfl ⟨BKf.out, BKv.out⟩ (fun hHeld => ?_); refine with_tabW row_tab17 row_bits17 (fun HT_ HW_ => ?_)
      generalize w32.drew = w33 at HW BKf BKv hHeld ⊢
      refine pure_ (i := 1) (N := some 57) (v := ?_) (a' := ?_) #[false, true, false, false, false, false, false, false, false] rfl rfl (any_of HT_.out (by kernel_rfl)) (fun _ _ _ h => h) (Or.inl ⟨by rfl, ?_⟩) ?_ ?_
      rotate_left
      ·intro w'
       go_simp
       with_reducible rfl
      rotate_left
      ·simp only [Act.put, Z3, Z4, Z5, i64_w, i32_w]
       rfl
      refine take_ (i := 2) (N := some 58) (v := ?_) (a' := ?_) #[false, true, true, false, false, false, false, false, false] rfl rfl (take_ofW HT_.out HW_.out (by kernel_rfl)) (fun _ _ _ h => h) (Or.inl ⟨by rfl, ?_⟩) hHeld ?_ ?_
      rotate_left
      ·rintro w' ⟨s0_, s1_⟩
       have sc := (Z2 s0_ 1).trans rfl
       go_simp
       with_reducible rfl
      rotate_left
      ·simp only [Act.put, Z3, Z4, Z5, i64_w, i32_w]
       rfl
      refine take_ (i := 5) (N := some 61) (v := ?_) (a' := ?_) #[false, true, true, false, false, true, false, false, false] rfl rfl (take_ofW HT_.out HW_.out (by kernel_rfl)) (fun _ _ _ h => h) (Or.inl ⟨by rfl, ?_⟩) hHeld ?_ ?_
      rotate_left
      ·rintro w' ⟨s0_, s1_⟩
       have sc0 : w'.cell? ⟨gf, 0, none⟩ = some (.string s0) := (Z2 s0_ 0).trans rfl
       have sc1 : w'.cell? ⟨gf, 1, none⟩ = some (.int .i64 s1) := (Z2 s0_ 1).trans rfl
       have sc2 : w'.cell? ⟨gf, 2, none⟩ = some (.int .i64 s2) := (Z2 s0_ 2).trans rfl
       have sc3 : w'.cell? ⟨gf, 3, none⟩ = some (.bool true) := (Z2 s0_ 3).trans rfl
       go_simp
       with_reducible rfl
      rotate_left
      ·simp only [Act.put, Z3, Z4, Z5, i64_w, i32_w]
       rfl
      refine take_ (i := 6) (N := some 62) (v := ?_) (a' := ?_) #[false, true, true, false, false, true, true, false, false] rfl rfl (take_ofW HT_.out HW_.out (by kernel_rfl)) (fun _ _ _ h => h) (Or.inl ⟨by rfl, ?_⟩) hHeld ?_ ?_
      rotate_left
      ·rintro w' ⟨s0_, s1_⟩
       have sc0 : w'.cell? ⟨gv, 0, none⟩ = some (.int .i64 v0) := (Z2 s1_ 0).trans rfl
       have sc1 : w'.cell? ⟨gv, 1, none⟩ = some (.int .i64 v1) := (Z2 s1_ 1).trans rfl
       have sc2 : w'.cell? ⟨gv, 2, none⟩ = some (.string v2) := (Z2 s1_ 2).trans rfl
       go_simp
       with_reducible rfl
      rotate_left
      ·simp only [Act.put, Z3, Z4, Z5, i64_w, i32_w]
       rfl
      refine one_ (i := 0) (N := some 56) #[true, true, true, false, false, true, true, false, false] rfl rfl (one_of HT_.out (by kernel_rfl)) (by decide) (fun K hK => ?_)
      refine goes_ Tryz.func89 (by kernel_rfl) rfl #[] (by rfl) rfl rfl V1 ?_
      refine (table_kinds w33).mono ?_
      rintro e w34 ⟨rk, rfl, hkb, hb⟩
      refine ⟨_, rfl, ?_⟩
      have HKB := Z0 hkb
      clear hkb
      have n0_ := Z0 (Z6 HW.out hb)
      have n1_ := Z0 (Z7 BKf.out hb)
      have n2_ := Z0 (Z7 BKv.out hb)
      clear HW BKf BKv
      have HW := n0_
      have BKf := n1_
      have BKv := n2_
      clear n0_ n1_ n2_ hb
      refine hK.out _ _ ⟨BKf.out, BKv.out⟩ (fun hHeld => ?_)
      clear hK K
      refine norm_ (a' := ?_) ?_ ?_
      rotate_left
      ·show Act.put _ (some 56) _ = _
       simp only [Act.put, Z3, Z4, Z5, i64_w, i32_w]
       rfl
      refine one_ (i := 3) (N := some 59) #[true, true, true, true, false, true, true, false, false] rfl rfl (one_of HT_.out (by kernel_rfl)) (by decide) (fun K hK => ?_)
      have hlk := run_look' w34 rk HKB.out _ _ HKV.out
      refine event_step (v := .agg #[kc, klo, khi, .func (.func KF) #[] #[], krf]) (w1 := w34) rfl (by first | (go_simp; done) | (go_simp; rfl) | (go_simp; exact ⟨rfl, rfl⟩)) ?_
      refine hK.out _ _ ⟨BKf.out, BKv.out⟩ (fun hHeld => ?_)
      clear hK K
      refine norm_ (a' := ?_) ?_ ?_
      rotate_left
      ·show Act.put _ (some 59) _ = _
       simp only [Act.put, Z3, Z4, Z5, i64_w, i32_w]
       rfl
      clear hlk
      refine one_ (i := 4) (N := some 60) #[true, true, true, true, true, true, true, false, false] rfl rfl (one_of HT_.out (by kernel_rfl)) (by decide) (fun K hK => ?_)
      refine event_step (v := .func (.func KF) #[] #[]) (w1 := w34) rfl (by first | (go_simp; done) | (go_simp; rfl) | (go_simp; exact ⟨rfl, rfl⟩)) ?_
      refine hK.out _ _ ⟨BKf.out, BKv.out⟩ (fun hHeld => ?_)
      clear hK K
      refine norm_ (a' := ?_) ?_ ?_
      rotate_left
      ·show Act.put _ (some 60) _ = _
       simp only [Act.put, Z3, Z4, Z5, i64_w, i32_w]
       rfl
      refine one_ (i := 7) (N := some 63) #[true, true, true, true, true, true, true, true, false] rfl rfl (one_of HT_.out (by kernel_rfl)) (by decide) (fun K hK => ?_)
      refine goesV_ (f := KF) (x := 60) HKE.out #[.agg #[.string s0, .int .i64 s1, .int .i64 s2, .bool true], .agg #[.int .i64 v0, .int .i64 v1, .string v2]] (by rfl) rfl rfl (by rfl) V1 ?_
      refine (HKC.out w34).mono ?_
      rintro e w35 ⟨rfl, hb⟩
      refine ⟨_, rfl, ?_⟩
      have n0_ := Z0 (Z6 HW.out hb)
      have n1_ := Z0 (Z7 BKf.out hb)
      have n2_ := Z0 (Z7 BKv.out hb)
      clear HW BKf BKv
      have HW := n0_
      have BKf := n1_
      have BKv := n2_
      clear n0_ n1_ n2_ hb
      refine hK.out _ _ ⟨BKf.out, BKv.out⟩ (fun hHeld => ?_)
      clear hK K
      refine norm_ (a' := ?_) ?_ ?_
      rotate_left
      ·show Act.put _ (some 63) _ = _
       simp only [Act.put, Z3, Z4, Z5, i64_w, i32_w]
       rfl
      refine last_ (i := 8) (N := some 64) #[true, true, true, true, true, true, true, true, true] rfl rfl (one_of HT_.out (by kernel_rfl)) (by decide) (fun K hK => ?_)
      refine goes_ Tryz.func111 (by kernel_rfl) rfl #[.pointer (some ⟨gB, 0, none⟩), .string p] (by rfl) rfl rfl V1 ?_
      have hbl := HI.out.2.2.2.2.2.2.1; (with_reducible refine (Builder_WriteString gB gB (Lib.byteCells X.data.toList) p _ ?hbl ?hlen ?hBw).mono ?_); (case hbl => exact isBuilder_below hbl HW.out); (case hlen => have := HSZ.out; rw [Lib.byteCells_length]; exact this); (case hBw => have h_ := isBuilder_lt (isBuilder_below hbl HW.out); omega); clear hbl; rintro e w40 ⟨rfl, hbld, hb⟩; refine ⟨_, rfl, ?_⟩; have n0_ := Z0 (RowInv.write (RowInv.below HI.out HW.out) hbld hb); clear HI; have HI := n0_; clear n0_ hbld hb HW BKf BKv; (try clear GEf GEv NE)
      refine hK.out _ _ ?_
      clear hK K
      refine norm_ (a' := ?_) ?_ ?_
      rotate_left
      ·show Act.put _ (some 64) _ = _
       simp only [Act.put, Z3, Z4, Z5, i64_w, i32_w]
       rfl
      refine done_ (done_of HT_.out (by kernel_rfl)) ?_
      clear hHeld HT_ HW_ hfl HKV HKB HKE HKC
      go_wp2
      go_roundg (gk - 1)
      case measure => have := HK.out; have := HN1.out; omega
      case rel => exact ⟨n + 1, x6, (wrap64 (b + 1)), X ++ p, rfl, by rw [HWR.out], ⟨by have h_ := HL.out; rw [HBIT.out true rfl] at h_; exact h_⟩, ⟨by have := HK.out; have := HN1.out; omega⟩, ⟨by have := HN1.out; omega⟩, HI⟩
   ·have hnl : n = l0.length := by have := HNl.out; omega
    have c3b := decide_eq_false c3
    have hFY : x6 = F ∧ X = Y := by
     have h_ := HA.out
     rw [hnl, List.drop_length] at h_
     simp only [rowL] at h_
     injection h_ with h_
     injection h_ with h1 h2
     exact ⟨h1, h2⟩
    obtain ⟨rfl, rfl⟩ := hFY
    clear HA hnl
    obtain ⟨Ao, co, eo⟩ := Kd.R_slice HI.out.2.1
    subst eo
    have LY : Aside0 (X.data.toList ≠ []) := ⟨fun h_ => HYN.out (by show X.data.toList.length = 0; rw [h_]; rfl)⟩
    have LX : Aside0 (x5.length = 1) := ⟨by rw [HX5.out]; rfl⟩
    obtain ⟨W0, HI, HW⟩ := inv_open HI.out
    go_wp2_with (first | ((with_reducible refine gate_builtin (b := .append) (xs := #[.tmp 66, .tmp 67]) rfl ?_); at_builtin; refine Kd.R_append_rows (Kd.int .u8) (w0 := w) w.heap.size rfl (.tmp 66) (.tmp 67) 37 5 (.int .u8 0) 1 rfl Tryz.underlying37 info5 rfl (by decide) (by omega) vo x5 x6 _ _ _ (fun k_ => k_ ≠ gB) (fun _ => False) rfl rfl ?aO ?aR (fun _ _ h => h) (fun _ h => h.elim) ?aF ?aB ?aS ?aL ?_; (case aR => exact (Kd.R_reads' (Kd.R_below HI.out.2.1 HW.out)).2.2); (case aB => exact (RowInv.below HI.out HW.out).args); (case aF => exact (fun k_ hk => by have h_ := isBuilder_lt (RowInv.below HI.out HW.out).2.2.2.2.2.2.1; omega)); (case aO => exact Kd.R_mono (RowInv.below HI.out HW.out).1 (fun k_ hk => by omega)); (case aS => exact (Y0 (RowInv.below HI.out HW.out).args)); (case aL => have := LX.out; have := HS.out; omega); intro v87 w87 ho hb hg hat; have HO := Z0 ho; have HBL := Z0 (isBuilder_grown (RowInv.below HI.out HW.out) hg); have HAW := Z0 (builder_away (RowInv.below HI.out HW.out) hg hat); have HB := Z0 hb; have HGE : Aside0 (w.heap.size ≤ gB ∧ gB < w87.heap.size) := ⟨HI.out.2.2.2.2.2.1, isBuilder_lt HBL.out⟩; clear HI HW ho hb hg hat) | ((with_reducible refine Y3 (f := 112) rfl ?_); refine goesL_ (some 69) rfl rfl Tryz.func112 (by kernel_rfl) rfl #[.pointer (some ⟨gB, 0, none⟩)] rfl V1 ?_; (with_reducible refine (builder_string gB X.data.toList _ HBL.out LY.out).mono ?_); rintro e w88 ⟨rfl, hb, hoth⟩; refine ⟨_, rfl, ?_⟩; have n0_ := Z0 (row_kept HO.out HAW.out hoth); have n1_ := Z0 (below_weaken HB.out HGE.out.1 hb); clear HO HB HBL HAW; have HO := n0_; have HB := n1_; clear n0_ n1_ hb hoth) | ((with_reducible refine Y4 (N := 70) rfl ?_); refine R_append_str (w0 := w) w.heap.size rfl (.tmp 68) (.tmp 69) rfl v87 (x5 ++ x6) X _ rfl rfl HO.out HB.out (Y0 HB.out) (by have := LX.out; have := HS.out; rw [List.length_append]; omega) ?_; intro v1 w1 ho hb; clear HO HB; have HO := Z0 ho; have HB := Z0 hb; clear ho hb))
    go_ret
    exact ⟨v1, rfl, by have h_ := HO.out; rw [HX5.out] at h_; exact h_, HB.out⟩
theorem table_row.calls (A0 : Option Addr) (c0 : Nat) (l0 : List (S23)) (a1_0 : Bool) (A1_1 : Option Addr) (c1_1 : Nat) (l1_1 : List (S25)) (r : List Int) (w : World) (hr0 : Kd.C k23 w A0 l0.length l0) (hc0 : l0.length ≤ c0) (hr1_1 : Kd.C k25 w A1_1 l1_1.length l1_1) (hc1_1 : l1_1.length ≤ c1_1) (h : table_row.f l0 a1_0 l1_1 = some r) :
  Calls Tryz.prog 63 #[.slice A0 l0.length c0, .agg #[.bool a1_0, .slice A1_1 l1_1.length c1_1]] w fun e w' => ∃ v0_ : Value, e = .returned (v0_) ∧ Kd.R (Kd.int .u8) 5 w' w.heap.size (fun _ => True) v0_ r ∧ Below w.heap.size w w' := by
 unfold table_row.f at h
 obtain ⟨t, hA, h⟩ := Option.bind_eq_some_iff.mp h
 split at h
 ·rename_i ht0
  split at h
  ·rename_i ht1
   obtain ⟨⟨F, Y⟩, hL, h⟩ := Option.bind_eq_some_iff.mp h
   split at h
   ·rename_i hs
    obtain rfl := Option.some.inj h
    exact row_walk A0 c0 l0 a1_0 A1_1 c1_1 l1_1 t F Y w hr0 hc0 hr1_1 hc1_1 hA ht0 ht1 hL hs.1 hs.2.2 hs.2.1
   ·cases h
  ·cases h
 ·cases h
def table_Row.f (k : Nat) (a0_0 : Int) (l0_1 : List (S23)) (l0_2 : List (S46)) (a1 : Int) : Option (List Int × Int) := (table_Validate.f k a0_0 l0_1 l0_2).bind fun t254 => (if t254 = 0 then (if a1 < 1 then (some (([] : List Int), 4)) else (if a1 > (l0_2.length : Int) then (some (([] : List Int), 4)) else (if 0 ≤ (wrap64 (a1 - 1)) then (if (wrap64 (a1 - 1)) < (l0_2.length : Int) then ((table_row.f l0_1 ((rd_T46 l0_2 (wrap64 (a1 - 1))).f0) ((rd_T46 l0_2 (wrap64 (a1 - 1))).f1)).bind fun t256 => (some (t256, 0))) else (none)) else (none)))) else (some (([] : List Int), t254)))
theorem table_Row.mono : ∀ a0 a1 a2 a3 k, LeO (table_Row.f k a0 a1 a2 a3) (table_Row.f (k + 1) a0 a1 a2 a3) := by
 intro a0 a1 a2 a3 k
 unfold table_Row.f
 repeat' first
   | (with_reducible exact table_Validate.mono _ _ _ _)
   | (with_reducible exact LeO.refl _)
   | (with_reducible exact Y5 _)
   | (with_reducible refine Y7 ?_ ?_)
   | (with_reducible refine Y6 ?_ (fun _ => ?_))
   | exact table_Validate.mono _ _ _ _
   | exact Y5 _
   | refine Y7 ?_ ?_
   | refine Y6 ?_ (fun _ => ?_)
def table_Row.T6 : Bool × List (List Nat × List Nat) := (true, [([], []), ([0], [0]), ([], []), ([2], [2]), ([], []), ([4], [4]), ([3, 5], [3, 5]), ([6], [6]), ([1, 7], [1, 7]), ([8, 8, 0, 1, 2, 3, 4, 5, 6, 7, 8], [8]), ([9, 0, 1, 2, 3, 4, 5, 6, 7, 8, 9], [])])
def table_Row.B6 : List Nat := [0, 1, 0, 4, 0, 16, 60, 124, 255, 511, 1023]
theorem table_Row.tab6 : rtab .any (opsOf Tryz.f21 6) = table_Row.T6 := by kernel_rfl
theorem table_Row.bits6 : waitsOk table_Row.T6.2 table_Row.B6 = true := by kernel_rfl
set_option maxHeartbeats 8000000 in
set_option maxRecDepth 100000 in
theorem table_Row.calls (k : Nat) (a0_0 : Int) (A0_1 : Option Addr) (c0_1 : Nat) (l0_1 : List (S23)) (A0_2 : Option Addr) (c0_2 : Nat) (l0_2 : List (S46)) (a1 : Int) (r1 : List Int) (r2 : Int) (w : World) (hr0_1 : Kd.C k23 w A0_1 l0_1.length l0_1) (hc0_1 : l0_1.length ≤ c0_1) (hr0_2 : Kd.C k46 w A0_2 l0_2.length l0_2) (hc0_2 : l0_2.length ≤ c0_2) (h : table_Row.f k a0_0 l0_1 l0_2 a1 = some (r1, r2)) :
  Calls Tryz.prog 21 #[.agg #[.int .i64 a0_0, .slice A0_1 l0_1.length c0_1, .slice A0_2 l0_2.length c0_2], .int .i64 a1] w fun e w' => ∃ v0_ : Value, e = .returned (.tuple #[v0_, .int .i64 r2]) ∧ Kd.R (Kd.int .u8) 5 w' w.heap.size (fun _ => True) v0_ r1 ∧ Below w.heap.size w w' := by
 have hu35 := Tryz.underlying35
 have hu46 := Tryz.underlying46
 have HR0_1 := Z0 hr0_1
 have HC0_1 := Z0 hc0_1
 clear hr0_1 hc0_1
 have HR0_2 := Z0 hr0_2
 have HC0_2 := Z0 hc0_2
 clear hr0_2 hc0_2
 have HB := Z0 (Below.refl w.heap.size w)
 have H : ((table_Validate.f k a0_0 l0_1 l0_2).bind fun t254 => (if t254 = 0 then (if a1 < 1 then (some (([] : List Int), 4)) else (if a1 > (l0_2.length : Int) then (some (([] : List Int), 4)) else (if 0 ≤ (wrap64 (a1 - 1)) then (if (wrap64 (a1 - 1)) < (l0_2.length : Int) then ((table_row.f l0_1 ((rd_T46 l0_2 (wrap64 (a1 - 1))).f0) ((rd_T46 l0_2 (wrap64 (a1 - 1))).f1)).bind fun t256 => (some (t256, 0))) else (none)) else (none)))) else (some (([] : List Int), t254)))) = some (r1, r2) := h
 clear h
 replace H := Option.bind_eq_some_iff.mp H
 obtain ⟨t254, A30, H⟩ := H
 replace H : (if t254 = 0 then (if a1 < 1 then (some (([] : List Int), 4)) else (if a1 > (l0_2.length : Int) then (some (([] : List Int), 4)) else (if 0 ≤ (wrap64 (a1 - 1)) then (if (wrap64 (a1 - 1)) < (l0_2.length : Int) then ((table_row.f l0_1 ((rd_T46 l0_2 (wrap64 (a1 - 1))).f0) ((rd_T46 l0_2 (wrap64 (a1 - 1))).f1)).bind fun t256 => (some (t256, 0))) else (none)) else (none)))) else (some (([] : List Int), t254))) = some (r1, r2) := H
 have A3 := Z0 A30
 clear A30
 by_cases c4 : t254 = 0
 ·rw [if_pos c4] at H
  have c4b0 : (t254 == 0) = true := beq_iff_eq.mpr c4
  have c4b1 : (t254 != 0) = false := bne_eq_false_iff_eq.mpr c4
  clear c4
  by_cases c5 : a1 < 1
  ·rw [if_pos c5] at H
   have c5b0 : decide (a1 < 1) = true := decide_eq_true c5
   clear c5
   simp only [Option.some.injEq, Prod.mk.injEq] at H
   obtain ⟨rfl, rfl⟩ := H
   go_enter Tryz.func21, Tryz.ntmps21
   go_wp2_with (first | ((with_reducible refine Y4 (N := 2) rfl ?_); (try (refine gate_guard (by rfl) ?_; dsimp only)); refine Y2 ?hg (N := 2) ?hd (cs := #[.int .i64 a0_0, .slice A0_1 l0_1.length c0_1, .slice A0_2 l0_2.length c0_2]) (t := 35) ?hr ?_; (case hd => rfl); (case hg => rfl); (case hr => go_simp; try rfl); intro gb253 hg w6 hbox hb; have n0_ := Z0 (Z6 HB.out hb); have n1_ := Z0 (hbox); have n3_ := Z0 ((by rw [hg]; exact (Y0 HB.out) : w.heap.size ≤ gb253)); clear HB; have HB := n0_; have BK253 := n1_; have GE253 := n3_; clear n0_ n1_ n3_; clear hb hbox hg; have hcz7_0 : w6.cell? ⟨gb253, 0, none⟩ = some (.int .i64 a0_0) := (Z2 BK253.out 0).trans rfl; have hcz7_1 : w6.cell? ⟨gb253, 1, none⟩ = some (.slice A0_1 l0_1.length c0_1) := (Z2 BK253.out 1).trans rfl; have hcz7_2 : w6.cell? ⟨gb253, 2, none⟩ = some (.slice A0_2 l0_2.length c0_2) := (Z2 BK253.out 2).trans rfl; have hfz7_0 := Z1 BK253.out 0; have hfz7_1 := Z1 BK253.out 1; have hfz7_2 := Z1 BK253.out 2) | ((with_reducible refine Y3 (f := 34) rfl ?_); refine goesL_ (some 8) rfl rfl Tryz.func34 (by kernel_rfl) rfl #[.agg #[.int .i64 a0_0, .slice A0_1 l0_1.length c0_1, .slice A0_2 l0_2.length c0_2]] rfl V1 ?_; (with_reducible refine (table_Validate.calls k a0_0 _ _ l0_1 _ _ l0_2 t254 _ ?side1 ?side2 ?side3 ?side4 A3.out).mono ?_); (case side1 => repeat (first | exact (Kd.C_below HR0_1.out HB.out) | (with_reducible refine Kd.C_alloc ?_ _) | (with_reducible refine Kd.C_drewN ?_ _) | (with_reducible refine Kd.C_drew ?_))); (case side2 => exact HC0_1.out); (case side3 => repeat (first | exact (Kd.C_below HR0_2.out HB.out) | (with_reducible refine Kd.C_alloc ?_ _) | (with_reducible refine Kd.C_drewN ?_ _) | (with_reducible refine Kd.C_drew ?_))); (case side4 => exact HC0_2.out); rintro e w8 ⟨rfl, hb⟩; refine ⟨_, rfl, ?_⟩; have n0_ := Z0 (Z7 (g := gb253) (o := .cells #[.int .i64 a0_0, .slice A0_1 l0_1.length c0_1, .slice A0_2 l0_2.length c0_2] 35 (0, 0)) BK253.out hb); have n1_ := Z0 (Z6 HB.out hb); clear BK253; clear HB; have BK253 := n0_; have HB := n1_; clear n0_ n1_; (try clear hb); (try clear hb2); (try clear hk); (try clear hi)))
   go_ret2
   exact ⟨_, rfl, by first | exact Kd.R_nil _ _ _ _ _ | exact Kd.N_nil _ _ _ _ _ | exact Kd.V_nil _ _ _ _ _ | exact Kd.Q_nil _ _ _ _ _ | exact Kd.S_nil _ _ _ _ _, V0⟩
  ·rw [if_neg c5] at H
   have c5b0 : decide (a1 < 1) = false := decide_eq_false c5
   clear c5
   by_cases c9 : a1 > (l0_2.length : Int)
   ·rw [if_pos c9] at H
    have c9b0 : decide ((l0_2.length : Int) < a1) = true := decide_eq_true c9
    clear c9
    simp only [Option.some.injEq, Prod.mk.injEq] at H
    obtain ⟨rfl, rfl⟩ := H
    go_enter Tryz.func21, Tryz.ntmps21
    go_wp2_with (first | ((with_reducible refine Y4 (N := 2) rfl ?_); (try (refine gate_guard (by rfl) ?_; dsimp only)); refine Y2 ?hg (N := 2) ?hd (cs := #[.int .i64 a0_0, .slice A0_1 l0_1.length c0_1, .slice A0_2 l0_2.length c0_2]) (t := 35) ?hr ?_; (case hd => rfl); (case hg => rfl); (case hr => go_simp; try rfl); intro gb253 hg w10 hbox hb; have n0_ := Z0 (Z6 HB.out hb); have n1_ := Z0 (hbox); have n3_ := Z0 ((by rw [hg]; exact (Y0 HB.out) : w.heap.size ≤ gb253)); clear HB; have HB := n0_; have BK253 := n1_; have GE253 := n3_; clear n0_ n1_ n3_; clear hb hbox hg; have hcz11_0 : w10.cell? ⟨gb253, 0, none⟩ = some (.int .i64 a0_0) := (Z2 BK253.out 0).trans rfl; have hcz11_1 : w10.cell? ⟨gb253, 1, none⟩ = some (.slice A0_1 l0_1.length c0_1) := (Z2 BK253.out 1).trans rfl; have hcz11_2 : w10.cell? ⟨gb253, 2, none⟩ = some (.slice A0_2 l0_2.length c0_2) := (Z2 BK253.out 2).trans rfl; have hfz11_0 := Z1 BK253.out 0; have hfz11_1 := Z1 BK253.out 1; have hfz11_2 := Z1 BK253.out 2) | ((with_reducible refine Y3 (f := 34) rfl ?_); refine goesL_ (some 8) rfl rfl Tryz.func34 (by kernel_rfl) rfl #[.agg #[.int .i64 a0_0, .slice A0_1 l0_1.length c0_1, .slice A0_2 l0_2.length c0_2]] rfl V1 ?_; (with_reducible refine (table_Validate.calls k a0_0 _ _ l0_1 _ _ l0_2 t254 _ ?side1 ?side2 ?side3 ?side4 A3.out).mono ?_); (case side1 => repeat (first | exact (Kd.C_below HR0_1.out HB.out) | (with_reducible refine Kd.C_alloc ?_ _) | (with_reducible refine Kd.C_drewN ?_ _) | (with_reducible refine Kd.C_drew ?_))); (case side2 => exact HC0_1.out); (case side3 => repeat (first | exact (Kd.C_below HR0_2.out HB.out) | (with_reducible refine Kd.C_alloc ?_ _) | (with_reducible refine Kd.C_drewN ?_ _) | (with_reducible refine Kd.C_drew ?_))); (case side4 => exact HC0_2.out); rintro e w12 ⟨rfl, hb⟩; refine ⟨_, rfl, ?_⟩; have n0_ := Z0 (Z7 (g := gb253) (o := .cells #[.int .i64 a0_0, .slice A0_1 l0_1.length c0_1, .slice A0_2 l0_2.length c0_2] 35 (0, 0)) BK253.out hb); have n1_ := Z0 (Z6 HB.out hb); clear BK253; clear HB; have BK253 := n0_; have HB := n1_; clear n0_ n1_; (try clear hb); (try clear hb2); (try clear hk); (try clear hi); have hcz13_0 : w12.cell? ⟨gb253, 0, none⟩ = some (.int .i64 a0_0) := (Z2 BK253.out 0).trans rfl; have hcz13_1 : w12.cell? ⟨gb253, 1, none⟩ = some (.slice A0_1 l0_1.length c0_1) := (Z2 BK253.out 1).trans rfl; have hcz13_2 : w12.cell? ⟨gb253, 2, none⟩ = some (.slice A0_2 l0_2.length c0_2) := (Z2 BK253.out 2).trans rfl; have hfz13_0 := Z1 BK253.out 0; have hfz13_1 := Z1 BK253.out 1; have hfz13_2 := Z1 BK253.out 2))
    go_ret2
    exact ⟨_, rfl, by first | exact Kd.R_nil _ _ _ _ _ | exact Kd.N_nil _ _ _ _ _ | exact Kd.V_nil _ _ _ _ _ | exact Kd.Q_nil _ _ _ _ _ | exact Kd.S_nil _ _ _ _ _, V0⟩
   ·rw [if_neg c9] at H
    have c9b0 : decide ((l0_2.length : Int) < a1) = false := decide_eq_false c9
    clear c9
    obtain ⟨ji14, hji14⟩ : ∃ j_ : Int, (wrap64 (a1 - 1)) = j_ := ⟨_, rfl⟩
    replace H : (if 0 ≤ (ji14) then (if (ji14) < (l0_2.length : Int) then ((table_row.f l0_1 ((rd_T46 l0_2 (ji14)).f0) ((rd_T46 l0_2 (ji14)).f1)).bind fun t256 => (some (t256, 0))) else (none)) else (none)) = some (r1, r2) := by first | (rw [hji14] at H; exact H) | (simp only [hji14] at H ⊢; exact H)
    (try rw [hji14] at A3)
    have hji14w : (IntKind.i64.wrap (a1 - 1)) = ji14 := (i64_w _).trans hji14
    by_cases c15 : 0 ≤ (ji14)
    ·rw [if_pos c15] at H
     have c15b0 : decide (0 ≤ (ji14)) = true := decide_eq_true c15
     clear c15
     by_cases c16 : (ji14) < (l0_2.length : Int)
     ·rw [if_pos c16] at H
      have c16b0 : decide ((ji14) < (l0_2.length : Int)) = true := decide_eq_true c16
      clear c16
      replace H := Option.bind_eq_some_iff.mp H
      obtain ⟨t256, A170, H⟩ := H
      replace H : (some (t256, 0)) = some (r1, r2) := H
      have A17 := Z0 A170
      clear A170
      simp only [Option.some.injEq, Prod.mk.injEq] at H
      obtain ⟨rfl, rfl⟩ := H
      go_enter Tryz.func21, Tryz.ntmps21
      try go_wp2_with (first | ((with_reducible refine Y4 (N := 2) rfl ?_); (try (refine gate_guard (by rfl) ?_; dsimp only)); refine Y2 ?hg (N := 2) ?hd (cs := #[.int .i64 a0_0, .slice A0_1 l0_1.length c0_1, .slice A0_2 l0_2.length c0_2]) (t := 35) ?hr ?_; (case hd => rfl); (case hg => rfl); (case hr => go_simp; try rfl); intro gb253 hg w18 hbox hb; have n0_ := Z0 (Z6 HB.out hb); have n1_ := Z0 (hbox); have n3_ := Z0 ((by rw [hg]; exact (Y0 HB.out) : w.heap.size ≤ gb253)); clear HB; have HB := n0_; have BK253 := n1_; have GE253 := n3_; clear n0_ n1_ n3_; clear hb hbox hg; have hcz19_0 : w18.cell? ⟨gb253, 0, none⟩ = some (.int .i64 a0_0) := (Z2 BK253.out 0).trans rfl; have hcz19_1 : w18.cell? ⟨gb253, 1, none⟩ = some (.slice A0_1 l0_1.length c0_1) := (Z2 BK253.out 1).trans rfl; have hcz19_2 : w18.cell? ⟨gb253, 2, none⟩ = some (.slice A0_2 l0_2.length c0_2) := (Z2 BK253.out 2).trans rfl; have hfz19_0 := Z1 BK253.out 0; have hfz19_1 := Z1 BK253.out 1; have hfz19_2 := Z1 BK253.out 2) | ((with_reducible refine Y3 (f := 34) rfl ?_); refine goesL_ (some 8) rfl rfl Tryz.func34 (by kernel_rfl) rfl #[.agg #[.int .i64 a0_0, .slice A0_1 l0_1.length c0_1, .slice A0_2 l0_2.length c0_2]] rfl V1 ?_; (with_reducible refine (table_Validate.calls k a0_0 _ _ l0_1 _ _ l0_2 t254 _ ?side1 ?side2 ?side3 ?side4 A3.out).mono ?_); (case side1 => repeat (first | exact (Kd.C_below HR0_1.out HB.out) | (with_reducible refine Kd.C_alloc ?_ _) | (with_reducible refine Kd.C_drewN ?_ _) | (with_reducible refine Kd.C_drew ?_))); (case side2 => exact HC0_1.out); (case side3 => repeat (first | exact (Kd.C_below HR0_2.out HB.out) | (with_reducible refine Kd.C_alloc ?_ _) | (with_reducible refine Kd.C_drewN ?_ _) | (with_reducible refine Kd.C_drew ?_))); (case side4 => exact HC0_2.out); rintro e w20 ⟨rfl, hb⟩; refine ⟨_, rfl, ?_⟩; have n0_ := Z0 (Z7 (g := gb253) (o := .cells #[.int .i64 a0_0, .slice A0_1 l0_1.length c0_1, .slice A0_2 l0_2.length c0_2] 35 (0, 0)) BK253.out hb); have n1_ := Z0 (Z6 HB.out hb); clear BK253; clear HB; have BK253 := n0_; have HB := n1_; clear n0_ n1_; (try clear hb); (try clear hb2); (try clear hk); (try clear hi); have hcz21_0 : w20.cell? ⟨gb253, 0, none⟩ = some (.int .i64 a0_0) := (Z2 BK253.out 0).trans rfl; have hcz21_1 : w20.cell? ⟨gb253, 1, none⟩ = some (.slice A0_1 l0_1.length c0_1) := (Z2 BK253.out 1).trans rfl; have hcz21_2 : w20.cell? ⟨gb253, 2, none⟩ = some (.slice A0_2 l0_2.length c0_2) := (Z2 BK253.out 2).trans rfl; have hfz21_0 := Z1 BK253.out 0; have hfz21_1 := Z1 BK253.out 1; have hfz21_2 := Z1 BK253.out 2))
      have n0_ := Z0 (Y1 BK253.out)
      have n1_ := Z0 (below_drew1 HB.out)
      clear BK253
      clear HB
      have BK253 := n0_
      have HB := n1_
      clear n0_ n1_
      have p255 : 0 ≤ ((ji14) : Int) := of_decide_eq_true V3
      have q255 : (ji14) < (l0_2.length : Int) := of_decide_eq_true V3
      obtain ⟨ad255, A255_1, c255_1, e255, hx255_0, hx255_1, hl255_1, hi255_1⟩ := at_T46 HR0_2.out (ji14) p255 q255
      have hw255_1 := hx255_1
      have hw255_0 := hx255_0
      cases e255
      replace hx255_0 := (HB.out.cell (World.block_lt_of_cell? w _ hx255_0)).trans hx255_0
      replace hx255_1 := (HB.out.cell (World.block_lt_of_cell? w _ hx255_1)).trans hx255_1
      have HR255_1 := Z0 hi255_1
      have HC255_1 := Z0 hl255_1
      clear hi255_1 hl255_1
      replace p255 := eq_true p255
      replace q255 := eq_true q255
      refine start_ (n := 11) (S := fun w' => w'.cell? ⟨gb253, 0, none⟩ = some (.int .i64 a0_0) ∧ w'.cell? ⟨gb253, 1, none⟩ = some (.slice A0_1 l0_1.length c0_1) ∧ w'.cell? ⟨gb253, 2, none⟩ = some (.slice (some ad255) l0_2.length c0_2) ∧ w'.cell? (ad255.add (((ji14)).toNat * 2)) = some (.bool ((rd_T46 l0_2 (ji14)).f0)) ∧ w'.cell? ⟨(ad255.add (((ji14)).toNat * 2)).block, (ad255.add (((ji14)).toNat * 2)).off + 1, none⟩ = some (.slice A255_1 ((rd_T46 l0_2 (ji14)).f1).length c255_1)) (ds := []) #[false, false, false, false, false, false, false, false, false, false, false] (by kernel_rfl) rfl rfl ⟨(Z2 BK253.out 0).trans rfl, (Z2 BK253.out 1).trans rfl, (Z2 BK253.out 2).trans rfl, ((HB.out.cell (World.block_lt_of_cell? w _ hw255_0)).trans hw255_0), ((HB.out.cell (World.block_lt_of_cell? w _ hw255_1)).trans hw255_1)⟩ (fun hHeld => ?_); refine with_tabW table_Row.tab6 table_Row.bits6 (fun HT_ HW_ => ?_)
      generalize w20.drew = w22 at BK253 HB HR255_1 hx255_0 hx255_1 hHeld ⊢
      refine pure_ (i := 0) (N := some 21) (v := ?_) (a' := ?_) #[true, false, false, false, false, false, false, false, false, false, false] rfl rfl (any_of HT_.out (by kernel_rfl)) (fun _ _ _ h => h) (Or.inl ⟨by rfl, ?_⟩) ?_ ?_
      rotate_left
      ·intro w'
       go_simp
       with_reducible rfl
      rotate_left
      ·simp only [Act.put, Z3, Z4, Z5, i64_w, i32_w]
       rfl
      refine pure_ (i := 2) (N := some 23) (v := ?_) (a' := ?_) #[true, false, true, false, false, false, false, false, false, false, false] rfl rfl (any_of HT_.out (by kernel_rfl)) (fun _ _ _ h => h) (Or.inl ⟨by rfl, ?_⟩) ?_ ?_
      rotate_left
      ·intro w'
       go_simp
       with_reducible rfl
      rotate_left
      ·simp only [Act.put, Z3, Z4, Z5, i64_w, i32_w]
       rfl
      refine pure_ (i := 4) (N := some 25) (v := ?_) (a' := ?_) #[true, false, true, false, true, false, false, false, false, false, false] rfl rfl (any_of HT_.out (by kernel_rfl)) (fun _ _ _ h => h) (Or.inl ⟨by rfl, ?_⟩) ?_ ?_
      rotate_left
      ·intro w'
       go_simp
       with_reducible rfl
      rotate_left
      ·simp only [Act.put, Z3, Z4, Z5, i64_w, i32_w]
       rfl
      refine pure_ (i := 5) (N := some 26) (v := ?_) (a' := ?_) #[true, false, true, false, true, true, false, false, false, false, false] rfl rfl (any_of HT_.out (by kernel_rfl)) (fun _ _ _ h => h) (Or.inl ⟨by rfl, ?_⟩) ?_ ?_
      rotate_left
      ·intro w'
       go_simp
       with_reducible rfl
      rotate_left
      ·simp only [Act.put, Z3, Z4, Z5, i64_w, i32_w]
       rfl
      refine take_ (i := 1) (N := some 22) (v := ?_) (a' := ?_) #[true, true, true, false, true, true, false, false, false, false, false] rfl rfl (take_ofW HT_.out HW_.out (by kernel_rfl)) (fun _ _ _ h => h) (Or.inl ⟨by rfl, ?_⟩) hHeld ?_ ?_
      rotate_left
      ·rintro w' ⟨s0, s1, s2, s3, s4⟩
       go_simp
       with_reducible rfl
      rotate_left
      ·simp only [Act.put, Z3, Z4, Z5, i64_w, i32_w]
       rfl
      refine take_ (i := 3) (N := some 24) (v := ?_) (a' := ?_) #[true, true, true, true, true, true, false, false, false, false, false] rfl rfl (take_ofW HT_.out HW_.out (by kernel_rfl)) (fun _ _ _ h => h) (Or.inl ⟨by rfl, ?_⟩) hHeld ?_ ?_
      rotate_left
      ·rintro w' ⟨s0, s1, s2, s3, s4⟩
       go_simp
       with_reducible rfl
      rotate_left
      ·simp only [Act.put, Z3, Z4, Z5, i64_w, i32_w]
       rfl
      refine pure_ (i := 6) (N := some 27) (v := ?_) (a' := ?_) #[true, true, true, true, true, true, true, false, false, false, false] rfl rfl (any_of HT_.out (by kernel_rfl)) (fun _ _ _ h => h) (Or.inl ⟨by rfl, ?_⟩) ?_ ?_
      rotate_left
      ·intro w'
       go_simp
       with_reducible rfl
      rotate_left
      ·simp only [Act.put, Z3, Z4, Z5, i64_w, i32_w]
       rfl
      refine take_ (i := 7) (N := some 28) (v := ?_) (a' := ?_) #[true, true, true, true, true, true, true, true, false, false, false] rfl rfl (take_ofW HT_.out HW_.out (by kernel_rfl)) (fun _ _ _ h => h) (Or.inl ⟨by rfl, ?_⟩) hHeld ?_ ?_
      rotate_left
      ·rintro w' ⟨s0, s1, s2, s3, s4⟩
       go_simp
       with_reducible rfl
      rotate_left
      ·simp only [Act.put, Z3, Z4, Z5, i64_w, i32_w]
       rfl
      refine one_ (i := 8) (N := some 29) #[true, true, true, true, true, true, true, true, true, false, false] rfl rfl (one_of HT_.out (by kernel_rfl)) (by decide) (fun K hK => ?_)
      refine goes_ Tryz.func63 (by kernel_rfl) rfl #[.slice A0_1 l0_1.length c0_1, .agg #[.bool ((rd_T46 l0_2 (ji14)).f0), .slice A255_1 ((rd_T46 l0_2 (ji14)).f1).length c255_1]] (by rfl) rfl rfl (by (try simp only [List.map_toArray, List.map_cons, List.map_nil]); first | done | (simp only [hji14]; rfl) | rfl | (simp only [List.length_drop, List.length_take]; rfl)) ?_
      with_reducible refine (table_row.calls _ _ l0_1 ((rd_T46 l0_2 (ji14)).f0) _ _ ((rd_T46 l0_2 (ji14)).f1) t256 _ ?side1 ?side2 ?side3 ?side4 A17.out).mono ?_
      (case side1 => repeat (first | exact (Kd.C_below HR0_1.out HB.out) | (with_reducible refine Kd.C_alloc ?_ _) | (with_reducible refine Kd.C_drewN ?_ _) | (with_reducible refine Kd.C_drew ?_)))
      (case side2 => exact HC0_1.out)
      (case side3 => repeat (first | exact (Kd.C_below HR255_1.out HB.out) | (with_reducible refine Kd.C_alloc ?_ _) | (with_reducible refine Kd.C_drewN ?_ _) | (with_reducible refine Kd.C_drew ?_)))
      (case side4 => exact HC255_1.out)
      rintro e w23 ⟨v257, rfl, ho0, hb⟩
      refine ⟨_, rfl, ?_⟩
      have n0_ := Z0 (Kd.R_lower ho0 (Y0 HB.out))
      have n1_ := Z0 (Z7 (g := gb253) (o := .cells #[.int .i64 a0_0, .slice A0_1 l0_1.length c0_1, .slice (some ad255) l0_2.length c0_2] 35 (0, 0)) BK253.out hb)
      have n2_ := Z0 (Z6 HB.out hb)
      clear BK253
      clear HB
      have HO258 := n0_
      have BK253 := n1_
      have HB := n2_
      clear n0_ n1_ n2_
      (try clear hb)
      (try clear hb2)
      (try clear hk)
      (try clear hi)
      (try clear ho0)
      refine hK.out _ _ ⟨(Z2 BK253.out 0).trans rfl, (Z2 BK253.out 1).trans rfl, (Z2 BK253.out 2).trans rfl, ((HB.out.cell (World.block_lt_of_cell? w _ hw255_0)).trans hw255_0), ((HB.out.cell (World.block_lt_of_cell? w _ hw255_1)).trans hw255_1)⟩ (fun hHeld => ?_)
      clear hK K
      refine norm_ (a' := ?_) ?_ ?_
      rotate_left
      ·show Act.put _ (some 29) _ = _
       simp only [Act.put, Z3, Z4, Z5, i64_w, i32_w]
       rfl
      refine pure_ (i := 9) (N := some 4) (v := ?_) (a' := ?_) #[true, true, true, true, true, true, true, true, true, true, false] rfl rfl (any_of HT_.out (by kernel_rfl)) (fun _ _ _ h => h) (Or.inl ⟨by rfl, ?_⟩) ?_ ?_
      rotate_left
      ·intro w'
       go_simp
       with_reducible rfl
      rotate_left
      ·simp only [Act.put, Z3, Z4, Z5, i64_w, i32_w]
       rfl
      refine pure_ (i := 10) (N := some 5) (v := ?_) (a' := ?_) #[true, true, true, true, true, true, true, true, true, true, true] rfl rfl (any_of HT_.out (by kernel_rfl)) (fun _ _ _ h => h) (Or.inl ⟨by rfl, ?_⟩) ?_ ?_
      rotate_left
      ·intro w'
       go_simp
       with_reducible rfl
      rotate_left
      ·simp only [Act.put, Z3, Z4, Z5, i64_w, i32_w]
       rfl
      refine done_ (done_of HT_.out (by kernel_rfl)) ?_
      try go_wp2
      go_ret2
      exact ⟨_, by first | rfl | (simp [errW_none, errW_some] <;> rfl) | (simp only [← hji14]; first | rfl | (simp [errW_none, errW_some] <;> rfl)) | (simp [*, errW_none, errW_some] <;> rfl), by (with_reducible repeat (first | apply Kd.R_alloc | apply Kd.R_drewN | apply Kd.R_drew)); exact HO258.out, V0⟩
     ·rw [if_neg c16] at H
      exact absurd H (by simp)
    ·rw [if_neg c15] at H
     exact absurd H (by simp)
 ·rw [if_neg c4] at H
  have c4b0 : (t254 == 0) = false := beq_eq_false_iff_ne.mpr c4
  have c4b1 : (t254 != 0) = true := bne_iff_ne.mpr c4
  simp only [Option.some.injEq, Prod.mk.injEq] at H
  obtain ⟨rfl, rfl⟩ := H
  go_enter Tryz.func21, Tryz.ntmps21
  go_wp2_with (first | ((with_reducible refine Y4 (N := 2) rfl ?_); (try (refine gate_guard (by rfl) ?_; dsimp only)); refine Y2 ?hg (N := 2) ?hd (cs := #[.int .i64 a0_0, .slice A0_1 l0_1.length c0_1, .slice A0_2 l0_2.length c0_2]) (t := 35) ?hr ?_; (case hd => rfl); (case hg => rfl); (case hr => go_simp; try rfl); intro gb253 hg w24 hbox hb; have n0_ := Z0 (Z6 HB.out hb); have n1_ := Z0 (hbox); have n3_ := Z0 ((by rw [hg]; exact (Y0 HB.out) : w.heap.size ≤ gb253)); clear HB; have HB := n0_; have BK253 := n1_; have GE253 := n3_; clear n0_ n1_ n3_; clear hb hbox hg; have hcz25_0 : w24.cell? ⟨gb253, 0, none⟩ = some (.int .i64 a0_0) := (Z2 BK253.out 0).trans rfl; have hcz25_1 : w24.cell? ⟨gb253, 1, none⟩ = some (.slice A0_1 l0_1.length c0_1) := (Z2 BK253.out 1).trans rfl; have hcz25_2 : w24.cell? ⟨gb253, 2, none⟩ = some (.slice A0_2 l0_2.length c0_2) := (Z2 BK253.out 2).trans rfl; have hfz25_0 := Z1 BK253.out 0; have hfz25_1 := Z1 BK253.out 1; have hfz25_2 := Z1 BK253.out 2) | ((with_reducible refine Y3 (f := 34) rfl ?_); refine goesL_ (some 8) rfl rfl Tryz.func34 (by kernel_rfl) rfl #[.agg #[.int .i64 a0_0, .slice A0_1 l0_1.length c0_1, .slice A0_2 l0_2.length c0_2]] rfl V1 ?_; (with_reducible refine (table_Validate.calls k a0_0 _ _ l0_1 _ _ l0_2 t254 _ ?side1 ?side2 ?side3 ?side4 A3.out).mono ?_); (case side1 => repeat (first | exact (Kd.C_below HR0_1.out HB.out) | (with_reducible refine Kd.C_alloc ?_ _) | (with_reducible refine Kd.C_drewN ?_ _) | (with_reducible refine Kd.C_drew ?_))); (case side2 => exact HC0_1.out); (case side3 => repeat (first | exact (Kd.C_below HR0_2.out HB.out) | (with_reducible refine Kd.C_alloc ?_ _) | (with_reducible refine Kd.C_drewN ?_ _) | (with_reducible refine Kd.C_drew ?_))); (case side4 => exact HC0_2.out); rintro e w26 ⟨rfl, hb⟩; refine ⟨_, rfl, ?_⟩; have n0_ := Z0 (Z7 (g := gb253) (o := .cells #[.int .i64 a0_0, .slice A0_1 l0_1.length c0_1, .slice A0_2 l0_2.length c0_2] 35 (0, 0)) BK253.out hb); have n1_ := Z0 (Z6 HB.out hb); clear BK253; clear HB; have BK253 := n0_; have HB := n1_; clear n0_ n1_; (try clear hb); (try clear hb2); (try clear hk); (try clear hi)))
  go_ret2
  exact ⟨_, rfl, by first | exact Kd.R_nil _ _ _ _ _ | exact Kd.N_nil _ _ _ _ _ | exact Kd.V_nil _ _ _ _ _ | exact Kd.Q_nil _ _ _ _ _ | exact Kd.S_nil _ _ _ _ _, V0⟩
end Go.Proofs.YtldpdidlfbphcaaGreatDoor.P
end
section
namespace Go.Proofs.YtldpdidlfbphcaaGreatDoor.P
open Go.RowKit Go.Proofs.YtldpdidlfbphcaaGreatDoorW.PrintWords Go.Proofs.YtldpdidlfbphcaaGreatDoorW.PrintLast Go.Proofs.YtldpdidlfbphcaaGreatDoorW.PrintMore
theorem k46_mkF (W : World) (ok : Nat → Prop) (x : S46) {A1 : Option Addr} {c1 : Nat} (l1 : x.f1.length ≤ c1) (g1 : Kd.F k25 W ok A1 x.f1.length x.f1) : Kd.FK k46 W ok x [.bool x.f0, .slice A1 x.f1.length c1] := fun W2 hW => k46_mk W2 x l1 (g1 W2 hW)
attribute [local go_sem] max2_int min2_int max_two min_two max_three min_three max_four min_four
def known.f0 (k : Nat)  : Option (Bool) := (some (([(⟨(⟨#[65]⟩ : ByteArray), 4, 3, false⟩ : S23)] : List (S23)) : List (S23))).bind fun y182 => ((cabinetryref01_Text.f (⟨#[97, 98]⟩ : ByteArray)).bind fun bt185 => ((some (([(⟨false, (([(⟨bt185.1, bt185.2.1, bt185.2.2⟩ : S25)] : List (S25)))⟩ : S46)] : List (S46)) : List (S46))).bind fun y191 => ((table_Header.f k 0 y182 y191).bind fun bt195 => ((table_Row.f k 0 y182 y191 1).bind fun bt199 => ((cabinetryref01_Text.f (⟨#[97, 98, 32]⟩ : ByteArray)).bind fun bt203 => ((table_Fit.f (⟨#[65]⟩ : ByteArray) 4 2 false 0 bt203.1 bt203.2.1 bt203.2.2).bind fun bt206 => (if bt195.2 = 0 then (if (bt195.1.length : Int) = 29 then (if bt199.2 = 0 then (if (strOfNums bt199.1).toList = ([32, 97, 98, 32] : List UInt8) then (if bt206.2.2.2 = 0 then (some (bt206.2.2.1.toList == ([97, 98] : List UInt8))) else (some false)) else (some false)) else (some false)) else (some false)) else (some false))))))))
theorem known_size : (Tryz.prog.info? 25).map (·.size) = some 3 := by kernel_rfl
set_option maxHeartbeats 8000000 in
set_option maxRecDepth 100000 in
theorem known_calls (k : Nat) (w : World) (h : known.f0 k = some true) :
  Calls Tryz.prog 12 #[] w fun e w' => e = .returned (.bool true) ∧ Below w.heap.size w w' := by
 have hu23 := Tryz.underlying23
 have hu46 := Tryz.underlying46
 have hu35 := Tryz.underlying35
 have hu25 := Tryz.underlying25
 have HB := Z0 (Below.refl w.heap.size w)
 have H : ((some (([(⟨(⟨#[65]⟩ : ByteArray), 4, 3, false⟩ : S23)] : List (S23)) : List (S23))).bind fun y182 => ((cabinetryref01_Text.f (⟨#[97, 98]⟩ : ByteArray)).bind fun bt185 => ((some (([(⟨false, (([(⟨bt185.1, bt185.2.1, bt185.2.2⟩ : S25)] : List (S25)))⟩ : S46)] : List (S46)) : List (S46))).bind fun y191 => ((table_Header.f k 0 y182 y191).bind fun bt195 => ((table_Row.f k 0 y182 y191 1).bind fun bt199 => ((cabinetryref01_Text.f (⟨#[97, 98, 32]⟩ : ByteArray)).bind fun bt203 => ((table_Fit.f (⟨#[65]⟩ : ByteArray) 4 2 false 0 bt203.1 bt203.2.1 bt203.2.2).bind fun bt206 => (if bt195.2 = 0 then (if (bt195.1.length : Int) = 29 then (if bt199.2 = 0 then (if (strOfNums bt199.1).toList = ([32, 97, 98, 32] : List UInt8) then (if bt206.2.2.2 = 0 then (some (bt206.2.2.1.toList == ([97, 98] : List UInt8))) else (some false)) else (some false)) else (some false)) else (some false)) else (some false))))))))) = some true := h
 clear h
 obtain ⟨y182, hy182⟩ : ∃ y_ : List (S23), y_ = (([(⟨(⟨#[65]⟩ : ByteArray), 4, 3, false⟩ : S23)] : List (S23))) := ⟨_, rfl⟩
 replace H : ((cabinetryref01_Text.f (⟨#[97, 98]⟩ : ByteArray)).bind fun bt185 => ((some (([(⟨false, (([(⟨bt185.1, bt185.2.1, bt185.2.2⟩ : S25)] : List (S25)))⟩ : S46)] : List (S46)) : List (S46))).bind fun y191 => ((table_Header.f k 0 y182 y191).bind fun bt195 => ((table_Row.f k 0 y182 y191 1).bind fun bt199 => ((cabinetryref01_Text.f (⟨#[97, 98, 32]⟩ : ByteArray)).bind fun bt203 => ((table_Fit.f (⟨#[65]⟩ : ByteArray) 4 2 false 0 bt203.1 bt203.2.1 bt203.2.2).bind fun bt206 => (if bt195.2 = 0 then (if (bt195.1.length : Int) = 29 then (if bt199.2 = 0 then (if (strOfNums bt199.1).toList = ([32, 97, 98, 32] : List UInt8) then (if bt206.2.2.2 = 0 then (some (bt206.2.2.1.toList == ([97, 98] : List UInt8))) else (some false)) else (some false)) else (some false)) else (some false)) else (some false)))))))) = some true := by rw [hy182]; exact H
 have Ny182 := Z0 hy182
 clear hy182
 replace H := Option.bind_eq_some_iff.mp H
 obtain ⟨⟨t185, t186, t187⟩, A10, H⟩ := H
 replace H : ((some (([(⟨false, (([(⟨t185, t186, t187⟩ : S25)] : List (S25)))⟩ : S46)] : List (S46)) : List (S46))).bind fun y191 => ((table_Header.f k 0 y182 y191).bind fun bt195 => ((table_Row.f k 0 y182 y191 1).bind fun bt199 => ((cabinetryref01_Text.f (⟨#[97, 98, 32]⟩ : ByteArray)).bind fun bt203 => ((table_Fit.f (⟨#[65]⟩ : ByteArray) 4 2 false 0 bt203.1 bt203.2.1 bt203.2.2).bind fun bt206 => (if bt195.2 = 0 then (if (bt195.1.length : Int) = 29 then (if bt199.2 = 0 then (if (strOfNums bt199.1).toList = ([32, 97, 98, 32] : List UInt8) then (if bt206.2.2.2 = 0 then (some (bt206.2.2.1.toList == ([97, 98] : List UInt8))) else (some false)) else (some false)) else (some false)) else (some false)) else (some false))))))) = some true := H
 have A1 := Z0 A10
 clear A10
 obtain ⟨y188, hy188⟩ : ∃ y_ : List (S25), y_ = (([(⟨t185, t186, t187⟩ : S25)] : List (S25))) := ⟨_, rfl⟩
 replace H : ((some (([(⟨false, y188⟩ : S46)] : List (S46)) : List (S46))).bind fun y191 => ((table_Header.f k 0 y182 y191).bind fun bt195 => ((table_Row.f k 0 y182 y191 1).bind fun bt199 => ((cabinetryref01_Text.f (⟨#[97, 98, 32]⟩ : ByteArray)).bind fun bt203 => ((table_Fit.f (⟨#[65]⟩ : ByteArray) 4 2 false 0 bt203.1 bt203.2.1 bt203.2.2).bind fun bt206 => (if bt195.2 = 0 then (if (bt195.1.length : Int) = 29 then (if bt199.2 = 0 then (if (strOfNums bt199.1).toList = ([32, 97, 98, 32] : List UInt8) then (if bt206.2.2.2 = 0 then (some (bt206.2.2.1.toList == ([97, 98] : List UInt8))) else (some false)) else (some false)) else (some false)) else (some false)) else (some false))))))) = some true := by rw [hy188]; exact H
 have Ny188 := Z0 hy188
 clear hy188
 obtain ⟨y191, hy191⟩ : ∃ y_ : List (S46), y_ = (([(⟨false, y188⟩ : S46)] : List (S46))) := ⟨_, rfl⟩
 replace H : ((table_Header.f k 0 y182 y191).bind fun bt195 => ((table_Row.f k 0 y182 y191 1).bind fun bt199 => ((cabinetryref01_Text.f (⟨#[97, 98, 32]⟩ : ByteArray)).bind fun bt203 => ((table_Fit.f (⟨#[65]⟩ : ByteArray) 4 2 false 0 bt203.1 bt203.2.1 bt203.2.2).bind fun bt206 => (if bt195.2 = 0 then (if (bt195.1.length : Int) = 29 then (if bt199.2 = 0 then (if (strOfNums bt199.1).toList = ([32, 97, 98, 32] : List UInt8) then (if bt206.2.2.2 = 0 then (some (bt206.2.2.1.toList == ([97, 98] : List UInt8))) else (some false)) else (some false)) else (some false)) else (some false)) else (some false)))))) = some true := by rw [hy191]; exact H
 have Ny191 := Z0 hy191
 clear hy191
 replace H := Option.bind_eq_some_iff.mp H
 obtain ⟨⟨t195, t198⟩, A20, H⟩ := H
 replace H : ((table_Row.f k 0 y182 y191 1).bind fun bt199 => ((cabinetryref01_Text.f (⟨#[97, 98, 32]⟩ : ByteArray)).bind fun bt203 => ((table_Fit.f (⟨#[65]⟩ : ByteArray) 4 2 false 0 bt203.1 bt203.2.1 bt203.2.2).bind fun bt206 => (if t198 = 0 then (if (t195.length : Int) = 29 then (if bt199.2 = 0 then (if (strOfNums bt199.1).toList = ([32, 97, 98, 32] : List UInt8) then (if bt206.2.2.2 = 0 then (some (bt206.2.2.1.toList == ([97, 98] : List UInt8))) else (some false)) else (some false)) else (some false)) else (some false)) else (some false))))) = some true := H
 have A2 := Z0 A20
 clear A20
 replace H := Option.bind_eq_some_iff.mp H
 obtain ⟨⟨t199, t202⟩, A30, H⟩ := H
 replace H : ((cabinetryref01_Text.f (⟨#[97, 98, 32]⟩ : ByteArray)).bind fun bt203 => ((table_Fit.f (⟨#[65]⟩ : ByteArray) 4 2 false 0 bt203.1 bt203.2.1 bt203.2.2).bind fun bt206 => (if t198 = 0 then (if (t195.length : Int) = 29 then (if t202 = 0 then (if (strOfNums t199).toList = ([32, 97, 98, 32] : List UInt8) then (if bt206.2.2.2 = 0 then (some (bt206.2.2.1.toList == ([97, 98] : List UInt8))) else (some false)) else (some false)) else (some false)) else (some false)) else (some false)))) = some true := H
 have A3 := Z0 A30
 clear A30
 replace H := Option.bind_eq_some_iff.mp H
 obtain ⟨⟨t203, t204, t205⟩, A40, H⟩ := H
 replace H : ((table_Fit.f (⟨#[65]⟩ : ByteArray) 4 2 false 0 t203 t204 t205).bind fun bt206 => (if t198 = 0 then (if (t195.length : Int) = 29 then (if t202 = 0 then (if (strOfNums t199).toList = ([32, 97, 98, 32] : List UInt8) then (if bt206.2.2.2 = 0 then (some (bt206.2.2.1.toList == ([97, 98] : List UInt8))) else (some false)) else (some false)) else (some false)) else (some false)) else (some false))) = some true := H
 have A4 := Z0 A40
 clear A40
 replace H := Option.bind_eq_some_iff.mp H
 obtain ⟨⟨t206, t207, t208, t209⟩, A50, H⟩ := H
 replace H : (if t198 = 0 then (if (t195.length : Int) = 29 then (if t202 = 0 then (if (strOfNums t199).toList = ([32, 97, 98, 32] : List UInt8) then (if t209 = 0 then (some (t208.toList == ([97, 98] : List UInt8))) else (some false)) else (some false)) else (some false)) else (some false)) else (some false)) = some true := H
 have A5 := Z0 A50
 clear A50
 by_cases c6 : t198 = 0
 ·rw [if_pos c6] at H
  have c6b0 : (t198 == 0) = true := beq_iff_eq.mpr c6
  have c6b1 : (t198 != 0) = false := bne_eq_false_iff_eq.mpr c6
  clear c6
  by_cases c7 : (t195.length : Int) = 29
  ·rw [if_pos c7] at H
   have c7b0 : ((t195.length : Int) == 29) = true := beq_iff_eq.mpr c7
   have c7b1 : ((t195.length : Int) != 29) = false := bne_eq_false_iff_eq.mpr c7
   clear c7
   by_cases c8 : t202 = 0
   ·rw [if_pos c8] at H
    have c8b0 : (t202 == 0) = true := beq_iff_eq.mpr c8
    have c8b1 : (t202 != 0) = false := bne_eq_false_iff_eq.mpr c8
    clear c8
    by_cases c9 : (strOfNums t199).toList = ([32, 97, 98, 32] : List UInt8)
    ·rw [if_pos c9] at H
     have c9b0 : ((strOfNums t199).toList == ([32, 97, 98, 32] : List UInt8)) = true := beq_iff_eq.mpr c9
     have c9b1 : ((strOfNums t199).toList != ([32, 97, 98, 32] : List UInt8)) = false := bne_eq_false_iff_eq.mpr c9
     clear c9
     by_cases c10 : t209 = 0
     ·rw [if_pos c10] at H
      have c10b0 : (t209 == 0) = true := beq_iff_eq.mpr c10
      have c10b1 : (t209 != 0) = false := bne_eq_false_iff_eq.mpr c10
      clear c10
      have HR := Option.some.inj H
      go_enter Tryz.func12, Tryz.ntmps12
      go_wp2_with (first | ((with_reducible refine Y4 (N := 9) rfl ?_); (try (refine gate_guard (by rfl) ?_; dsimp only)); refine Kd.R_lit k23 _ 23 ?hg (N := 9) ?hd (xs := ([(⟨(⟨#[65]⟩ : ByteArray), 4, 3, false⟩ : S23)] : List (S23))) (inner := [.string (⟨#[65]⟩ : ByteArray), .int .i64 4, .int .i64 3, .bool false]) (ok := fun _ => True) (okp := fun _ => True) ?hr ?hp (fun _ hk => hk) trivial (Below.refl _ _) (Nat.le_refl _) (by simp) ?_; (case hd => rfl); (case hg => rfl); (case hr => go_simp; try rfl); (case hp => exact (Reps.c4 (show Kd.M k23 _ _ _ (⟨(⟨#[65]⟩ : ByteArray), 4, 3, false⟩ : S23) [.string (⟨#[65]⟩ : ByteArray), .int .i64 4, .int .i64 3, .bool false] from (k23_mkM _ _ _ (⟨(⟨#[65]⟩ : ByteArray), 4, 3, false⟩ : S23) )) (Reps.none _ _))); intro v183 w11 ho12 hb hg_ hnew_; clear hg_ hnew_; (first | rw [← Ny182.out] at ho12 | (simp only [Int.reduceToNat] at ho12; rw [← Ny182.out] at ho12)); have n0_ := Z0 (Kd.R_lower ho12 (Y0 V0)); have n1_ := Z0 (Z6 V0 hb); clear HB; have HO184 := n0_; have HB := n1_; clear n0_ n1_; clear hb ho12) | ((with_reducible refine Y3 (f := 46) rfl ?_); refine goesL_ (some 10) rfl rfl Tryz.func46 (by kernel_rfl) rfl #[.string (⟨#[97, 98]⟩ : ByteArray)] rfl V1 ?_; (with_reducible refine (cabinetryref01_Text.calls (⟨#[97, 98]⟩ : ByteArray) t185 t186 t187 _ A1.out).mono ?_); rintro e w13 ⟨rfl, hb⟩; refine ⟨_, rfl, ?_⟩; have n0_ := Z0 (Kd.R_below HO184.out hb); have n1_ := Z0 (Z6 V0 hb); clear HO184; clear HB; have HO184 := n0_; have HB := n1_; clear n0_ n1_; (try clear hb); (try clear hb2); (try clear hk); (try clear hi)) | ((with_reducible refine Y4 (N := 11) rfl ?_); (try (refine gate_guard (by rfl) ?_; dsimp only)); refine Kd.R_lit k25 _ 25 ?hg (N := 11) ?hd (xs := ([(⟨t185, t186, t187⟩ : S25)] : List (S25))) (inner := [.int .i64 t185, .int .i64 t186, .string t187]) (ok := fun _ => True) (okp := fun _ => True) ?hr ?hp (fun _ hk => hk) trivial (Below.refl _ _) (Nat.le_refl _) (by simp) ?_; (case hd => rfl); (case hg => rfl); (case hr => go_simp; try rfl); (case hp => exact (Reps.c3 (show Kd.M k25 _ _ _ (⟨t185, t186, t187⟩ : S25) [.int .i64 t185, .int .i64 t186, .string t187] from (k25_mkM _ _ _ (⟨t185, t186, t187⟩ : S25) )) (Reps.none _ _))); intro v189 w14 ho15 hb hg_ hnew_; clear hg_ hnew_; (first | rw [← Ny188.out] at ho15 | (simp only [Int.reduceToNat] at ho15; rw [← Ny188.out] at ho15)); have n0_ := Z0 (Kd.R_below HO184.out hb); have n1_ := Z0 (Kd.R_lower ho15 (Y0 V0)); have n2_ := Z0 (Z6 V0 hb); clear HO184; clear HB; have HO184 := n0_; have HO190 := n1_; have HB := n2_; clear n0_ n1_ n2_; clear hb ho15; obtain ⟨Ao16, co16, eo16⟩ := Kd.R_slice HO190.out; subst eo16) | ((with_reducible refine Y4 (N := 13) rfl ?_); (try (refine gate_guard (by rfl) ?_; dsimp only)); refine Kd.N_lit k46 _ 46 ?hg (N' := 13) ?hd (xs := ([(⟨false, y188⟩ : S46)] : List (S46))) (inner := [.bool false, .slice Ao16 y188.length co16]) (ok := (fun k_ => some k_ ≠ (v183 : Value).ownBlock)) (okp := (fun k_ => some k_ ≠ (v183 : Value).ownBlock)) ?hr ?hp (fun _ hk => hk) ((show ∀ k_, w14.heap.size ≤ k_ → (fun k_ => some k_ ≠ (v183 : Value).ownBlock) k_ from fun k_ hk => Kd.fresh' (Kd.R_lt HO184.out) k_ hk) _ (Nat.le_refl _)) (Below.refl _ _) (Nat.le_refl _) (by simp) ?_; (case hd => rfl); (case hg => rfl); (case hr => go_simp; try rfl); (case hp => exact (Reps.c2 (show Kd.FK k46 _ _ (⟨false, y188⟩ : S46) [.bool false, .slice Ao16 y188.length co16] from (k46_mkF _ _ (⟨false, y188⟩ : S46) (Kd.R_reads' (Kd.R_mono (ok' := (fun k_ => some k_ ≠ (v183 : Value).ownBlock)) (Kd.R_apart' (HO190.out) (Kd.R_typed HO184.out) (by decide)) (fun k_ hk => hk.2))).2.1 (Kd.R_F (Kd.R_mono (ok' := (fun k_ => some k_ ≠ (v183 : Value).ownBlock)) (Kd.R_apart' (HO190.out) (Kd.R_typed HO184.out) (by decide)) (fun k_ hk => hk.2))))) (Reps.none _ _))); intro v192 w17 ho18 hb hg_ hnew_; clear hg_ hnew_; (first | rw [← Ny191.out] at ho18 | (simp only [Int.reduceToNat] at ho18; rw [← Ny191.out] at ho18)); have n0_ := Z0 (Kd.R_below HO184.out hb); have n1_ := Z0 (Kd.N_lower ho18 (Y0 V0)); have n2_ := Z0 (Z6 V0 hb); clear HO184; clear HB; clear HO190; have HO184 := n0_; have HO193 := n1_; have HB := n2_; clear n0_ n1_ n2_; clear hb ho18; obtain ⟨Ao19, co19, eo19⟩ := Kd.N_slice HO193.out; subst eo19; obtain ⟨Ao20, co20, eo20⟩ := Kd.R_slice HO184.out; subst eo20) | ((with_reducible refine Y4 (N := 1) rfl ?_); (try (refine gate_guard (by rfl) ?_; dsimp only)); refine Y2 ?hg (N := 1) ?hd (cs := #[.int .i64 0, .slice none 0 0, .slice none 0 0]) (t := 35) ?hr ?_; (case hd => rfl); (case hg => rfl); (case hr => go_simp; try rfl); intro gb194 hg w21 hbox hb; have n0_ := Z0 (Kd.R_below HO184.out hb); have n1_ := Z0 (Kd.N_below (Kd.N_elderB HO193.out gb194 (Nat.le_of_eq hg.symm)) hb); have n2_ := Z0 (Z6 V0 hb); have n3_ := Z0 (hbox); have n5_ := Z0 ((by rw [hg]; exact (Y0 V0) : w.heap.size ≤ gb194)); clear HO184; clear HO193; clear HB; have HO184 := n0_; have HO193 := n1_; have HB := n2_; have BK194 := n3_; have GE194 := n5_; clear n0_ n1_ n2_ n3_ n5_; clear hb hbox hg; have hcz22_0 : w21.cell? ⟨gb194, 0, none⟩ = some (.int .i64 0) := (Z2 BK194.out 0).trans rfl; have hcz22_1 : w21.cell? ⟨gb194, 1, none⟩ = some (.slice none 0 0) := (Z2 BK194.out 1).trans rfl; have hcz22_2 : w21.cell? ⟨gb194, 2, none⟩ = some (.slice none 0 0) := (Z2 BK194.out 2).trans rfl; have hfz22_0 := Z1 BK194.out 0; have hfz22_1 := Z1 BK194.out 1; have hfz22_2 := Z1 BK194.out 2) | ((with_reducible refine Y3 (f := 19) rfl ?_); refine goesL_ (some 17) rfl rfl Tryz.func19 (by kernel_rfl) rfl #[.agg #[.int .i64 0, .slice Ao20 y182.length co20, .slice Ao19 y191.length co19]] rfl V1 ?_; (with_reducible refine (table_Header.calls k 0 _ _ y182 _ _ y191 t195 t198 _ ?side1 ?side2 ?side3 ?side4 A2.out).mono ?_); (case side1 => refine (Kd.R_reads' (e := 23) (base := w.heap.size) (ok := fun k_ => True) (n := y182.length) (c := co20) ?_).2.2; exact (by (with_reducible repeat (first | apply Kd.R_alloc | apply Kd.R_drewN | apply Kd.R_drew)); exact (Kd.R_mono (Kd.R_far (p := ⟨gb194, 2, none⟩) (Kd.R_far (p := ⟨gb194, 1, none⟩) (Kd.R_far (p := ⟨gb194, 0, none⟩) (Kd.R_types HO184.out BK194.out (by decide)) (fun _ hk => hk.2) (.int .i64 0)) (fun _ hk => hk.2) (.slice Ao20 y182.length co20)) (fun _ hk => hk.2) (.slice Ao19 y191.length co19)) (fun _ h_ => h_.1)))); (case side2 => exact (Kd.R_reads' HO184.out).2.1); (case side3 => refine (Kd.N_reads' (e := 46) (base := w.heap.size) (ok := fun k_ => (some k_ ≠ (.slice Ao20 y182.length co20 : Value).ownBlock ∧ k_ ≠ gb194)) (n := y191.length) (c := co19) ?_).2.2; exact (by (with_reducible repeat (first | apply Kd.N_alloc | apply Kd.N_drewN | apply Kd.N_drew)); exact (Kd.N_mono (Kd.N_far (p := ⟨gb194, 2, none⟩) (Kd.N_far (p := ⟨gb194, 1, none⟩) (Kd.N_far (p := ⟨gb194, 0, none⟩) (Kd.N_mono HO193.out (fun k_ hk => (⟨hk, hk.2⟩ : _ ∧ k_ ≠ gb194))) (fun _ hk => hk.2) (.int .i64 0)) (fun _ hk => hk.2) (.slice Ao20 y182.length co20)) (fun _ hk => hk.2) (.slice Ao19 y191.length co19)) (fun _ h_ => h_.1)))); (case side4 => exact (Kd.N_reads' HO193.out).2.1); rintro e w23 ⟨v196, rfl, ho0, hb⟩; refine ⟨_, rfl, ?_⟩; have n0_ := Z0 (Kd.R_below (by (with_reducible repeat (first | apply Kd.R_alloc | apply Kd.R_drewN | apply Kd.R_drew)); exact (Kd.R_mono (Kd.R_far (p := ⟨gb194, 2, none⟩) (Kd.R_far (p := ⟨gb194, 1, none⟩) (Kd.R_far (p := ⟨gb194, 0, none⟩) (Kd.R_types HO184.out BK194.out (by decide)) (fun _ hk => hk.2) (.int .i64 0)) (fun _ hk => hk.2) (.slice Ao20 y182.length co20)) (fun _ hk => hk.2) (.slice Ao19 y191.length co19)) (fun _ h_ => h_.1))) hb); have n1_ := Z0 (Kd.N_elder' (by (with_reducible repeat (first | apply Kd.N_alloc | apply Kd.N_drewN | apply Kd.N_drew)); exact (Kd.N_mono (Kd.N_far (p := ⟨gb194, 2, none⟩) (Kd.N_far (p := ⟨gb194, 1, none⟩) (Kd.N_far (p := ⟨gb194, 0, none⟩) (Kd.N_mono HO193.out (fun k_ hk => (⟨hk, hk.2⟩ : _ ∧ k_ ≠ gb194))) (fun _ hk => hk.2) (.int .i64 0)) (fun _ hk => hk.2) (.slice Ao20 y182.length co20)) (fun _ hk => hk.2) (.slice Ao19 y191.length co19)) (fun _ h_ => h_.1))) (Kd.R_base ho0) hb); have n2_ := Z0 (Kd.R_lower ho0 (Y0 V0)); have n3_ := Z0 (Z7 (g := gb194) (o := .cells #[.int .i64 0, .slice Ao20 y182.length co20, .slice Ao19 y191.length co19] 35 (0, 0)) (by (with_reducible repeat (first | refine Z8 ?_ _ | refine Y1 ?_ | refine Z9 ?_ _)); refine blk_put (cs := #[.int .i64 0, .slice Ao20 y182.length co20, .slice none 0 0]) ?_ 2 _ rfl; (with_reducible repeat (first | refine Z8 ?_ _ | refine Y1 ?_ | refine Z9 ?_ _)); refine blk_put (cs := #[.int .i64 0, .slice none 0 0, .slice none 0 0]) ?_ 1 _ rfl; (with_reducible repeat (first | refine Z8 ?_ _ | refine Y1 ?_ | refine Z9 ?_ _)); refine blk_put (cs := #[.int .i64 0, .slice none 0 0, .slice none 0 0]) ?_ 0 _ rfl; (with_reducible repeat (first | refine Z8 ?_ _ | refine Y1 ?_ | refine Z9 ?_ _)); exact BK194.out) hb); have n4_ := Z0 (Z6 V0 hb); clear HO184; clear HO193; clear BK194; clear HB; have HO184 := n0_; have HO193 := n1_; have HO197 := n2_; have BK194 := n3_; have HB := n4_; clear n0_ n1_ n2_ n3_ n4_; (try clear hb); (try clear hb2); (try clear hk); (try clear hi); (try clear ho0); have hcz24_0 : w23.cell? ⟨gb194, 0, none⟩ = some (.int .i64 0) := (Z2 BK194.out 0).trans rfl; have hcz24_1 : w23.cell? ⟨gb194, 1, none⟩ = some (.slice Ao20 y182.length co20) := (Z2 BK194.out 1).trans rfl; have hcz24_2 : w23.cell? ⟨gb194, 2, none⟩ = some (.slice Ao19 y191.length co19) := (Z2 BK194.out 2).trans rfl; have hfz24_0 := Z1 BK194.out 0; have hfz24_1 := Z1 BK194.out 1; have hfz24_2 := Z1 BK194.out 2) | ((with_reducible refine Y3 (f := 21) rfl ?_); refine goesL_ (some 22) rfl rfl Tryz.func21 (by kernel_rfl) rfl #[.agg #[.int .i64 0, .slice Ao20 y182.length co20, .slice Ao19 y191.length co19], .int .i64 1] rfl V1 ?_; (with_reducible refine (table_Row.calls k 0 _ _ y182 _ _ y191 1 t199 t202 _ ?side1 ?side2 ?side3 ?side4 A3.out).mono ?_); (case side1 => repeat (first | exact (Kd.R_reads' HO184.out).2.2 | (with_reducible refine Kd.C_alloc ?_ _) | (with_reducible refine Kd.C_drewN ?_ _) | (with_reducible refine Kd.C_drew ?_))); (case side2 => exact (Kd.R_reads' HO184.out).2.1); (case side3 => repeat (first | exact (Kd.N_reads' HO193.out).2.2 | (with_reducible refine Kd.C_alloc ?_ _) | (with_reducible refine Kd.C_drewN ?_ _) | (with_reducible refine Kd.C_drew ?_))); (case side4 => exact (Kd.N_reads' HO193.out).2.1); rintro e w25 ⟨v200, rfl, ho0, hb⟩; refine ⟨_, rfl, ?_⟩; have n0_ := Z0 (Kd.R_below HO184.out hb); have n1_ := Z0 (Kd.N_elder' HO193.out (Kd.R_base ho0) hb); have n2_ := Z0 (Kd.R_elder' HO197.out (Kd.R_base ho0) hb); have n3_ := Z0 (Kd.R_lower (Kd.R_new' ho0 (Kd.R_lt HO197.out)) (Y0 V0)); have n4_ := Z0 (Z7 (g := gb194) (o := .cells #[.int .i64 0, .slice Ao20 y182.length co20, .slice Ao19 y191.length co19] 35 (0, 0)) BK194.out hb); have n5_ := Z0 (Z6 V0 hb); clear HO184; clear HO193; clear HO197; clear BK194; clear HB; have HO184 := n0_; have HO193 := n1_; have HO197 := n2_; have HO201 := n3_; have BK194 := n4_; have HB := n5_; clear n0_ n1_ n2_ n3_ n4_ n5_; (try clear hb); (try clear hb2); (try clear hk); (try clear hi); (try clear ho0)) | ((with_reducible refine Y3 (f := 46) rfl ?_); refine goesL_ (some 27) rfl rfl Tryz.func46 (by kernel_rfl) rfl #[.string (⟨#[97, 98, 32]⟩ : ByteArray)] rfl V1 ?_; (with_reducible refine (cabinetryref01_Text.calls (⟨#[97, 98, 32]⟩ : ByteArray) t203 t204 t205 _ A4.out).mono ?_); rintro e w26 ⟨rfl, hb⟩; refine ⟨_, rfl, ?_⟩; have n0_ := Z0 (Kd.R_below HO184.out hb); have n1_ := Z0 (Kd.N_below HO193.out hb); have n2_ := Z0 (Kd.R_below HO197.out hb); have n3_ := Z0 (Kd.R_below HO201.out hb); have n4_ := Z0 (Z7 (g := gb194) (o := .cells #[.int .i64 0, .slice Ao20 y182.length co20, .slice Ao19 y191.length co19] 35 (0, 0)) BK194.out hb); have n5_ := Z0 (Z6 V0 hb); clear HO184; clear HO193; clear HO197; clear HO201; clear BK194; clear HB; have HO184 := n0_; have HO193 := n1_; have HO197 := n2_; have HO201 := n3_; have BK194 := n4_; have HB := n5_; clear n0_ n1_ n2_ n3_ n4_ n5_; (try clear hb); (try clear hb2); (try clear hk); (try clear hi)) | ((with_reducible refine Y3 (f := 13) rfl ?_); refine goesL_ (some 28) rfl rfl Tryz.func13 (by kernel_rfl) rfl #[.agg #[.string (⟨#[65]⟩ : ByteArray), .int .i64 4, .int .i64 2, .bool false], .int .i64 0, .agg #[.int .i64 t203, .int .i64 t204, .string t205]] rfl V1 ?_; (with_reducible refine (table_Fit.calls (⟨#[65]⟩ : ByteArray) 4 2 false 0 t203 t204 t205 t206 t207 t208 t209 _ A5.out).mono ?_); rintro e w27 ⟨rfl, hb⟩; refine ⟨_, rfl, ?_⟩; have n0_ := Z0 (Kd.R_below HO184.out hb); have n1_ := Z0 (Kd.N_below HO193.out hb); have n2_ := Z0 (Kd.R_below HO197.out hb); have n3_ := Z0 (Kd.R_below HO201.out hb); have n4_ := Z0 (Z7 (g := gb194) (o := .cells #[.int .i64 0, .slice Ao20 y182.length co20, .slice Ao19 y191.length co19] 35 (0, 0)) BK194.out hb); have n5_ := Z0 (Z6 V0 hb); clear HO184; clear HO193; clear HO197; clear HO201; clear BK194; clear HB; have HO184 := n0_; have HO193 := n1_; have HO197 := n2_; have HO201 := n3_; have BK194 := n4_; have HB := n5_; clear n0_ n1_ n2_ n3_ n4_ n5_; (try clear hb); (try clear hb2); (try clear hk); (try clear hi)) | ((with_reducible refine Y4 (N := 6) rfl ?_); (try (refine gate_guard (by rfl) ?_; dsimp only)); refine Y2 ?hg (N := 6) ?hd (cs := #[.int .i64 0, .int .i64 0, .string (⟨#[]⟩ : ByteArray)]) (t := 25) ?hr ?_; (case hd => rfl); (case hg => rfl); (case hr => go_simp; try rfl); intro gb210 hg w28 hbox hb; have n0_ := Z0 (Kd.R_below HO184.out hb); have n1_ := Z0 (Kd.N_below (Kd.N_elderB HO193.out gb210 (Nat.le_of_eq hg.symm)) hb); have n2_ := Z0 (Kd.R_below HO197.out hb); have n3_ := Z0 (Kd.R_below HO201.out hb); have n4_ := Z0 (Z7 (g := gb194) (o := .cells #[.int .i64 0, .slice Ao20 y182.length co20, .slice Ao19 y191.length co19] 35 (0, 0)) BK194.out hb); have n5_ := Z0 (Z6 V0 hb); have n6_ := Z0 (hbox); have n8_ := Z0 ((by rw [hg]; exact (Y0 V0) : w.heap.size ≤ gb210)); have n9_ := Z0 ((by rw [hg]; exact Nat.ne_of_lt (blk_lt (g := gb194) (o := .cells #[.int .i64 0, .slice Ao20 y182.length co20, .slice Ao19 y191.length co19] 35 (0, 0)) BK194.out) : gb194 ≠ gb210)); have n10_ := Z0 ((by rw [hg]; exact Nat.ne_of_gt (blk_lt (g := gb194) (o := .cells #[.int .i64 0, .slice Ao20 y182.length co20, .slice Ao19 y191.length co19] 35 (0, 0)) BK194.out) : gb210 ≠ gb194)); clear HO184; clear HO193; clear HO197; clear HO201; clear BK194; clear HB; have HO184 := n0_; have HO193 := n1_; have HO197 := n2_; have HO201 := n3_; have BK194 := n4_; have HB := n5_; have BK210 := n6_; have GE210 := n8_; have NB194_210 := n9_; have NB210_194 := n10_; clear n0_ n1_ n2_ n3_ n4_ n5_ n6_ n8_ n9_ n10_; clear hb hbox hg; have hnb29 := NB210_194.out; have hnc29 := NB194_210.out; have hcz30_0 : w28.cell? ⟨gb210, 0, none⟩ = some (.int .i64 0) := (Z2 BK210.out 0).trans rfl; have hcz30_1 : w28.cell? ⟨gb210, 1, none⟩ = some (.int .i64 0) := (Z2 BK210.out 1).trans rfl; have hcz30_2 : w28.cell? ⟨gb210, 2, none⟩ = some (.string (⟨#[]⟩ : ByteArray)) := (Z2 BK210.out 2).trans rfl; have hfz30_0 := Z1 BK210.out 0; have hfz30_1 := Z1 BK210.out 1; have hfz30_2 := Z1 BK210.out 2; obtain ⟨Ao31, co31, eo31⟩ := Kd.R_slice HO197.out; subst eo31) | ((with_reducible refine gate_store (t := 25) (p := 6) rfl ?_); refine store_box ?hg (ty := 25) (p := 6) (y := .tmp 29) ?ho ?hd gb210 (cells := #[.int .i64 t206, .int .i64 t207, .string t208]) (old := #[.int .i64 0, .int .i64 0, .string (⟨#[]⟩ : ByteArray)]) (t := 25) ?hx ?hy ?hgg ?hi ?hold ?h1 ?_; (case ho => rfl); (case hg => rfl); (case hd => rfl); (case hx => rfl); (case hy => rfl); (case hgg => exact BK210.out); (case hi => exact known_size); (case hold => rfl); (case h1 => simp [Value.oneCell']); intro w50 hbk hbel hoth; have n0_ := Z0 (hbel _ _ HB.out GE210.out); have n1_ := Z0 (Kd.R_step (Kd.R_types HO201.out BK210.out (by decide)) (fun k hk _ => hoth k hk.2)); clear HB; clear HO201; have HB := n0_; have HO201 := n1_; clear n0_ n1_; have hcv32 := own_string (P := Tryz.prog) Tryz.underlying37 Tryz.underlying5 Tryz.underlying9 (Kd.own_of_R HO201.out); have hcz50_0 : w50.cell? ⟨gb210, 0, none⟩ = some (.int .i64 t206) := (Z2 hbk 0).trans rfl; have hcz50_1 : w50.cell? ⟨gb210, 1, none⟩ = some (.int .i64 t207) := (Z2 hbk 1).trans rfl; have hcz50_2 : w50.cell? ⟨gb210, 2, none⟩ = some (.string t208) := (Z2 hbk 2).trans rfl; clear hbk hbel hoth))
      go_ret
      exact ⟨rfl, V0⟩
     ·rw [if_neg c10] at H
      exact absurd H (by simp)
    ·rw [if_neg c9] at H
     exact absurd H (by simp)
   ·rw [if_neg c8] at H
    exact absurd H (by simp)
  ·rw [if_neg c7] at H
   exact absurd H (by simp)
 ·rw [if_neg c6] at H
  exact absurd H (by simp)
theorem known_true : known.f0 100 = some true := by kernel_rfl
def cabinetrylaw03_known.f : Option Bool := some true
theorem cabinetrylaw03_known.calls (r : Bool) (w : World) (h : cabinetrylaw03_known.f = some r) : Calls Tryz.prog 12 #[] w fun e w' => e = .returned (.bool r) ∧ Below w.heap.size w w' := by
 obtain rfl := Option.some.inj h
 exact known_calls 100 w known_true
end Go.Proofs.YtldpdidlfbphcaaGreatDoor.P
end
section
namespace Go.Proofs.YtldpdidlfbphcaaGreatDoor.P
open Go.RowKit Go.Proofs.YtldpdidlfbphcaaGreatDoorW.PrintWords Go.Proofs.YtldpdidlfbphcaaGreatDoorW.PrintLast Go.Proofs.YtldpdidlfbphcaaGreatDoorW.PrintMore
attribute [local go_sem] max2_int min2_int max_two min_two max_three min_three max_four min_four
def cabinetrylaw03_TableValidates.j0 : Nat → Bool → Option (Bool)
 | 0, _ => none
 | k + 1, x2 => some x2
def cabinetrylaw03_TableValidates.f (k : Nat) (a0_0 : Int) (l0_1 : List (S23)) (l0_2 : List (S46)) : Option (Bool) := (cabinetrylaw03_over.f k a0_0 l0_1 l0_2).bind fun t382 => (if t382 = true then ((cabinetrylaw03_known.f).bind fun t383 => (some t383)) else ((table_Length.f k l0_1).bind fun bt384 => ((cabinetryref03_Length.f k l0_1).bind fun bt386 => ((table_Offsets.f k l0_1).bind fun bt388 => ((cabinetryref03_Offsets.f k l0_1).bind fun bt392 => ((table_Validate.f k a0_0 l0_1 l0_2).bind fun t396 => ((cabinetryref03_Validate.f k a0_0 l0_1 l0_2).bind fun t397 => (if t396 = t397 then ((table_ValidateFields.f l0_1).bind fun t398 => ((cabinetryref03_ValidateFields.f k l0_1).bind fun t399 => (if t398 = t399 then (if bt384.1 = bt386.1 then (if bt384.2 = bt386.2 then ((cabinetryref01_SameInts.f k bt388.1 bt392.1).bind fun t400 => (if t400 = true then (if bt388.2 = bt392.2 then ((cabinetrylaw03_known.f).bind fun t401 => (cabinetrylaw03_TableValidates.j0 k t401)) else (cabinetrylaw03_TableValidates.j0 k false)) else (cabinetrylaw03_TableValidates.j0 k false))) else (cabinetrylaw03_TableValidates.j0 k false)) else (cabinetrylaw03_TableValidates.j0 k false)) else (cabinetrylaw03_TableValidates.j0 k false)))) else (cabinetrylaw03_TableValidates.j0 k false)))))))))
theorem cabinetrylaw03_TableValidates.mono_l : ∀ k, (∀ y0, LeO (cabinetrylaw03_TableValidates.j0 k y0) (cabinetrylaw03_TableValidates.j0 (k + 1) y0))
 | 0 => fun _ r h => by simp [cabinetrylaw03_TableValidates.j0] at h
 | k + 1 => by
  have ih0 := cabinetrylaw03_TableValidates.mono_l k
  ·intro y0
   unfold cabinetrylaw03_TableValidates.j0
   repeat' first
   | (with_reducible exact ih0 _)
   | (with_reducible exact cabinetrylaw03_over.mono _ _ _ _)
   | (with_reducible exact cabinetryref01_SameInts.mono _ _ _)
   | (with_reducible exact cabinetryref03_Length.mono _ _)
   | (with_reducible exact cabinetryref03_Offsets.mono _ _)
   | (with_reducible exact cabinetryref03_Validate.mono _ _ _ _)
   | (with_reducible exact cabinetryref03_ValidateFields.mono _ _)
   | (with_reducible exact table_Length.mono _ _)
   | (with_reducible exact table_Offsets.mono _ _)
   | (with_reducible exact table_Validate.mono _ _ _ _)
   | (with_reducible exact LeO.refl _)
   | (with_reducible exact Y5 _)
   | (with_reducible refine Y7 ?_ ?_)
   | (with_reducible refine Y6 ?_ (fun _ => ?_))
   | exact ih0 _
   | exact cabinetrylaw03_over.mono _ _ _ _
   | exact cabinetryref01_SameInts.mono _ _ _
   | exact cabinetryref03_Length.mono _ _
   | exact cabinetryref03_Offsets.mono _ _
   | exact cabinetryref03_Validate.mono _ _ _ _
   | exact cabinetryref03_ValidateFields.mono _ _
   | exact table_Length.mono _ _
   | exact table_Offsets.mono _ _
   | exact table_Validate.mono _ _ _ _
   | exact Y5 _
   | refine Y7 ?_ ?_
   | refine Y6 ?_ (fun _ => ?_)
theorem cabinetrylaw03_TableValidates.mono : ∀ a0 a1 a2 k, LeO (cabinetrylaw03_TableValidates.f k a0 a1 a2) (cabinetrylaw03_TableValidates.f (k + 1) a0 a1 a2) := by
 intro a0 a1 a2 k
 have ih0 := cabinetrylaw03_TableValidates.mono_l k
 unfold cabinetrylaw03_TableValidates.f
 repeat' first
   | (with_reducible exact ih0 _)
   | (with_reducible exact cabinetrylaw03_over.mono _ _ _ _)
   | (with_reducible exact cabinetryref01_SameInts.mono _ _ _)
   | (with_reducible exact cabinetryref03_Length.mono _ _)
   | (with_reducible exact cabinetryref03_Offsets.mono _ _)
   | (with_reducible exact cabinetryref03_Validate.mono _ _ _ _)
   | (with_reducible exact cabinetryref03_ValidateFields.mono _ _)
   | (with_reducible exact table_Length.mono _ _)
   | (with_reducible exact table_Offsets.mono _ _)
   | (with_reducible exact table_Validate.mono _ _ _ _)
   | (with_reducible exact LeO.refl _)
   | (with_reducible exact Y5 _)
   | (with_reducible refine Y7 ?_ ?_)
   | (with_reducible refine Y6 ?_ (fun _ => ?_))
   | exact ih0 _
   | exact cabinetrylaw03_over.mono _ _ _ _
   | exact cabinetryref01_SameInts.mono _ _ _
   | exact cabinetryref03_Length.mono _ _
   | exact cabinetryref03_Offsets.mono _ _
   | exact cabinetryref03_Validate.mono _ _ _ _
   | exact cabinetryref03_ValidateFields.mono _ _
   | exact table_Length.mono _ _
   | exact table_Offsets.mono _ _
   | exact table_Validate.mono _ _ _ _
   | exact Y5 _
   | refine Y7 ?_ ?_
   | refine Y6 ?_ (fun _ => ?_)
def cabinetrylaw03_TableValidates.T7 : Bool × List (List Nat × List Nat) := (true, [([], []), ([0], [0]), ([], []), ([2, 1], [2]), ([1, 3], [1, 3]), ([4, 3], [4]), ([5], [5]), ([6, 5], [5, 6]), ([7, 5, 5], [5, 7]), ([5], [5]), ([9, 5], [5, 9]), ([10, 8, 5], [5, 10]), ([8, 11, 5], [5, 8, 11]), ([5, 12], [5, 12]), ([13, 11], [13]), ([14], [14]), ([14], [14]), ([15, 16, 14], [14, 15, 16]), ([14, 17], [14, 17]), ([18, 14], [18]), ([19], [19]), ([19], [19]), ([20, 21, 19], [19, 20, 21]), ([19, 22], [19, 22]), ([23, 19], [23]), ([24], [24]), ([24], [24]), ([25, 26, 24, 24], [24, 25, 26]), ([24, 27], [24, 27]), ([28, 27], [28]), ([29], [29]), ([29], [29]), ([30, 31, 29], [29, 30, 31]), ([29, 32], [29, 32]), ([33, 29], [33]), ([34, 34], [34]), ([34, 35], [34, 35]), ([36, 35, 0, 1, 2, 3, 4, 5, 6, 7, 8, 9, 10, 11, 12, 13, 14, 15, 16, 17, 18, 19, 20, 21, 22, 23, 24, 25, 26, 27, 28, 29, 30, 31, 32, 33, 34, 35, 36], [36])])
def cabinetrylaw03_TableValidates.B7 : List Nat := [0, 1, 0, 7, 15, 31, 63, 127, 255, 63, 575, 2047, 4095, 8191, 16383, 32767, 32767, 131071, 262143, 524287, 1048575, 1048575, 4194303, 8388607, 16777215, 33554431, 33554431, 134217727, 268435455, 536870911, 1073741823, 1073741823, 4294967295, 8589934591, 17179869183, 34359738367, 68719476735, 137438953471]
theorem cabinetrylaw03_TableValidates.tab7 : rtab .any (opsOf Tryz.f6 7) = cabinetrylaw03_TableValidates.T7 := by kernel_rfl
theorem cabinetrylaw03_TableValidates.bits7 : waitsOk cabinetrylaw03_TableValidates.T7.2 cabinetrylaw03_TableValidates.B7 = true := by kernel_rfl
theorem cabinetrylaw03_TableValidates.j0_ne : ∀ (k : Nat) (q : Option Bool), cabinetrylaw03_TableValidates.j0 k false = q → q = some true → False := by
 intro k q h1 h2
 cases k with
 | zero => simp [cabinetrylaw03_TableValidates.j0] at h1; rw [← h1] at h2; cases h2
 | succ k => simp [cabinetrylaw03_TableValidates.j0] at h1; rw [← h1] at h2; cases h2
set_option maxHeartbeats 8000000 in
set_option maxRecDepth 100000 in
theorem cabinetrylaw03_TableValidates.calls1 (k : Nat) (a0_0 : Int) (A0_1 : Option Addr) (c0_1 : Nat) (l0_1 : List (S23)) (A0_2 : Option Addr) (c0_2 : Nat) (l0_2 : List (S46)) (r : Bool) (w : World) (hr_ : r = true) (hr0_1 : Kd.C k23 w A0_1 l0_1.length l0_1) (hc0_1 : l0_1.length ≤ c0_1) (hr0_2 : Kd.C k46 w A0_2 l0_2.length l0_2) (hc0_2 : l0_2.length ≤ c0_2) (h : cabinetrylaw03_TableValidates.f k a0_0 l0_1 l0_2 = some r) :
  Calls Tryz.prog 6 #[.agg #[.int .i64 a0_0, .slice A0_1 l0_1.length c0_1, .slice A0_2 l0_2.length c0_2]] w fun e w' => e = .returned (.bool r) ∧ Below w.heap.size w w' := by
 have HR_ := Z0 hr_
 clear hr_
 have hu35 := Tryz.underlying35
 have HR0_1 := Z0 hr0_1
 have HC0_1 := Z0 hc0_1
 clear hr0_1 hc0_1
 have HR0_2 := Z0 hr0_2
 have HC0_2 := Z0 hc0_2
 clear hr0_2 hc0_2
 have HB := Z0 (Below.refl w.heap.size w)
 have H : ((cabinetrylaw03_over.f k a0_0 l0_1 l0_2).bind fun t382 => (if t382 = true then ((cabinetrylaw03_known.f).bind fun t383 => (some t383)) else ((table_Length.f k l0_1).bind fun bt384 => ((cabinetryref03_Length.f k l0_1).bind fun bt386 => ((table_Offsets.f k l0_1).bind fun bt388 => ((cabinetryref03_Offsets.f k l0_1).bind fun bt392 => ((table_Validate.f k a0_0 l0_1 l0_2).bind fun t396 => ((cabinetryref03_Validate.f k a0_0 l0_1 l0_2).bind fun t397 => (if t396 = t397 then ((table_ValidateFields.f l0_1).bind fun t398 => ((cabinetryref03_ValidateFields.f k l0_1).bind fun t399 => (if t398 = t399 then (if bt384.1 = bt386.1 then (if bt384.2 = bt386.2 then ((cabinetryref01_SameInts.f k bt388.1 bt392.1).bind fun t400 => (if t400 = true then (if bt388.2 = bt392.2 then ((cabinetrylaw03_known.f).bind fun t401 => (cabinetrylaw03_TableValidates.j0 k t401)) else (cabinetrylaw03_TableValidates.j0 k false)) else (cabinetrylaw03_TableValidates.j0 k false))) else (cabinetrylaw03_TableValidates.j0 k false)) else (cabinetrylaw03_TableValidates.j0 k false)) else (cabinetrylaw03_TableValidates.j0 k false)))) else (cabinetrylaw03_TableValidates.j0 k false)))))))))) = some r := h
 clear h
 replace H := Option.bind_eq_some_iff.mp H
 obtain ⟨t382, A20, H⟩ := H
 replace H : (if t382 = true then ((cabinetrylaw03_known.f).bind fun t383 => (some t383)) else ((table_Length.f k l0_1).bind fun bt384 => ((cabinetryref03_Length.f k l0_1).bind fun bt386 => ((table_Offsets.f k l0_1).bind fun bt388 => ((cabinetryref03_Offsets.f k l0_1).bind fun bt392 => ((table_Validate.f k a0_0 l0_1 l0_2).bind fun t396 => ((cabinetryref03_Validate.f k a0_0 l0_1 l0_2).bind fun t397 => (if t396 = t397 then ((table_ValidateFields.f l0_1).bind fun t398 => ((cabinetryref03_ValidateFields.f k l0_1).bind fun t399 => (if t398 = t399 then (if bt384.1 = bt386.1 then (if bt384.2 = bt386.2 then ((cabinetryref01_SameInts.f k bt388.1 bt392.1).bind fun t400 => (if t400 = true then (if bt388.2 = bt392.2 then ((cabinetrylaw03_known.f).bind fun t401 => (cabinetrylaw03_TableValidates.j0 k t401)) else (cabinetrylaw03_TableValidates.j0 k false)) else (cabinetrylaw03_TableValidates.j0 k false))) else (cabinetrylaw03_TableValidates.j0 k false)) else (cabinetrylaw03_TableValidates.j0 k false)) else (cabinetrylaw03_TableValidates.j0 k false)))) else (cabinetrylaw03_TableValidates.j0 k false))))))))) = some r := H
 have A2 := Z0 A20
 clear A20
 by_cases c3 : t382 = true
 ·subst c3
  have H1 : ((cabinetrylaw03_known.f).bind fun t383 => (some t383)) = some r := by rw [if_pos rfl] at H; exact H
  clear H
  have H := H1
  clear H1
  replace H := Option.bind_eq_some_iff.mp H
  obtain ⟨t383, A40, H⟩ := H
  replace H : (some t383) = some r := H
  have A4 := Z0 A40
  clear A40
  obtain rfl := Option.some.inj H
  go_enter Tryz.func6, Tryz.ntmps6
  go_wp2_with (first | ((with_reducible refine Y4 (N := 1) rfl ?_); refine Y2 ?hg (N := 1) ?hd (cs := #[.int .i64 a0_0, .slice A0_1 l0_1.length c0_1, .slice A0_2 l0_2.length c0_2]) (t := 35) ?hr ?_; (case hd => rfl); (case hg => rfl); (case hr => first | (go_simp; done) | (go_simp; rfl)); intro gb381 hg w5 hbox hb; have n0_ := Z0 (Z6 V0 hb); have n1_ := Z0 (hbox); have n2_ := Z0 ((by rw [hg]; exact (Y0 V0) : w.heap.size ≤ gb381)); have n3_ := Z0 ((by rw [hg]; exact (Y0 V0) : w.heap.size ≤ gb381)); clear HB; have HB := n0_; have BK381 := n1_; have GW381 := n2_; have GE381 := n3_; clear n0_ n1_ n2_ n3_; clear hb hbox hg; have hcz6_0 : w5.cell? ⟨gb381, 0, none⟩ = some (.int .i64 a0_0) := (Z2 BK381.out 0).trans rfl; have hcz6_1 : w5.cell? ⟨gb381, 1, none⟩ = some (.slice A0_1 l0_1.length c0_1) := (Z2 BK381.out 1).trans rfl; have hcz6_2 : w5.cell? ⟨gb381, 2, none⟩ = some (.slice A0_2 l0_2.length c0_2) := (Z2 BK381.out 2).trans rfl; have hfz6_0 := Z1 BK381.out 0; have hfz6_1 := Z1 BK381.out 1; have hfz6_2 := Z1 BK381.out 2) | ((with_reducible refine Y3 (f := 16) rfl ?_); refine goesL_ (some 12) rfl rfl Tryz.func16 (by kernel_rfl) rfl #[.agg #[.int .i64 a0_0, .slice A0_1 l0_1.length c0_1, .slice A0_2 l0_2.length c0_2]] rfl V1 ?_; (with_reducible refine (cabinetrylaw03_over.calls k a0_0 _ _ l0_1 _ _ l0_2 true _ ?side1 ?side2 ?side3 ?side4 A2.out).mono ?_); (case side1 => repeat (first | exact (Kd.C_below HR0_1.out HB.out) | (with_reducible refine Kd.C_alloc ?_ _) | (with_reducible refine Kd.C_drewN ?_ _) | (with_reducible refine Kd.C_drew ?_))); (case side2 => exact HC0_1.out); (case side3 => repeat (first | exact (Kd.C_below HR0_2.out HB.out) | (with_reducible refine Kd.C_alloc ?_ _) | (with_reducible refine Kd.C_drewN ?_ _) | (with_reducible refine Kd.C_drew ?_))); (case side4 => exact HC0_2.out); rintro e w7 ⟨rfl, hb⟩; refine ⟨_, rfl, ?_⟩; have n0_ := Z0 (Z7 (g := gb381) (o := .cells #[.int .i64 a0_0, .slice A0_1 l0_1.length c0_1, .slice A0_2 l0_2.length c0_2] 35 (0, 0)) (by (with_reducible repeat (first | refine Z8 ?_ _ | refine Y1 ?_ | refine Z9 ?_ _)); exact BK381.out) hb); have n1_ := Z0 (Z6 V0 hb); clear BK381; clear HB; have BK381 := n0_; have HB := n1_; clear n0_ n1_; (try clear hb); (try clear hb2); (try clear hk); (try clear hi)) | ((with_reducible refine Y3 (f := 12) rfl ?_); refine goesL_ (some 13) rfl rfl Tryz.func12 (by kernel_rfl) rfl #[] rfl V1 ?_; (with_reducible refine (cabinetrylaw03_known.calls  t383 _ A4.out).mono ?_); rintro e w8 ⟨rfl, hb⟩; refine ⟨_, rfl, ?_⟩; have n0_ := Z0 (Z7 (g := gb381) (o := .cells #[.int .i64 a0_0, .slice A0_1 l0_1.length c0_1, .slice A0_2 l0_2.length c0_2] 35 (0, 0)) (by (with_reducible repeat (first | refine Z8 ?_ _ | refine Y1 ?_ | refine Z9 ?_ _)); exact BK381.out) hb); have n1_ := Z0 (Z6 V0 hb); clear BK381; clear HB; have BK381 := n0_; have HB := n1_; clear n0_ n1_; (try clear hb); (try clear hb2); (try clear hk); (try clear hi)))
  go_ret
  exact ⟨by first | rfl | (simp [errW_none, errW_some] <;> rfl) | (simp [*, errW_none, errW_some] <;> rfl), V0⟩
 ·replace c3 := Bool.eq_false_iff.mpr c3
  subst c3
  have H1 : ((table_Length.f k l0_1).bind fun bt384 => ((cabinetryref03_Length.f k l0_1).bind fun bt386 => ((table_Offsets.f k l0_1).bind fun bt388 => ((cabinetryref03_Offsets.f k l0_1).bind fun bt392 => ((table_Validate.f k a0_0 l0_1 l0_2).bind fun t396 => ((cabinetryref03_Validate.f k a0_0 l0_1 l0_2).bind fun t397 => (if t396 = t397 then ((table_ValidateFields.f l0_1).bind fun t398 => ((cabinetryref03_ValidateFields.f k l0_1).bind fun t399 => (if t398 = t399 then (if bt384.1 = bt386.1 then (if bt384.2 = bt386.2 then ((cabinetryref01_SameInts.f k bt388.1 bt392.1).bind fun t400 => (if t400 = true then (if bt388.2 = bt392.2 then ((cabinetrylaw03_known.f).bind fun t401 => (cabinetrylaw03_TableValidates.j0 k t401)) else (cabinetrylaw03_TableValidates.j0 k false)) else (cabinetrylaw03_TableValidates.j0 k false))) else (cabinetrylaw03_TableValidates.j0 k false)) else (cabinetrylaw03_TableValidates.j0 k false)) else (cabinetrylaw03_TableValidates.j0 k false)))) else (cabinetrylaw03_TableValidates.j0 k false)))))))) = some r := by rw [if_neg (show ¬ (false = true) by decide)] at H; exact H
  clear H
  have H := H1
  clear H1
  replace H := Option.bind_eq_some_iff.mp H
  obtain ⟨⟨t384, t385⟩, A90, H⟩ := H
  replace H : ((cabinetryref03_Length.f k l0_1).bind fun bt386 => ((table_Offsets.f k l0_1).bind fun bt388 => ((cabinetryref03_Offsets.f k l0_1).bind fun bt392 => ((table_Validate.f k a0_0 l0_1 l0_2).bind fun t396 => ((cabinetryref03_Validate.f k a0_0 l0_1 l0_2).bind fun t397 => (if t396 = t397 then ((table_ValidateFields.f l0_1).bind fun t398 => ((cabinetryref03_ValidateFields.f k l0_1).bind fun t399 => (if t398 = t399 then (if t384 = bt386.1 then (if t385 = bt386.2 then ((cabinetryref01_SameInts.f k bt388.1 bt392.1).bind fun t400 => (if t400 = true then (if bt388.2 = bt392.2 then ((cabinetrylaw03_known.f).bind fun t401 => (cabinetrylaw03_TableValidates.j0 k t401)) else (cabinetrylaw03_TableValidates.j0 k false)) else (cabinetrylaw03_TableValidates.j0 k false))) else (cabinetrylaw03_TableValidates.j0 k false)) else (cabinetrylaw03_TableValidates.j0 k false)) else (cabinetrylaw03_TableValidates.j0 k false)))) else (cabinetrylaw03_TableValidates.j0 k false))))))) = some r := H
  have A9 := Z0 A90
  clear A90
  replace H := Option.bind_eq_some_iff.mp H
  obtain ⟨⟨t386, t387⟩, A100, H⟩ := H
  replace H : ((table_Offsets.f k l0_1).bind fun bt388 => ((cabinetryref03_Offsets.f k l0_1).bind fun bt392 => ((table_Validate.f k a0_0 l0_1 l0_2).bind fun t396 => ((cabinetryref03_Validate.f k a0_0 l0_1 l0_2).bind fun t397 => (if t396 = t397 then ((table_ValidateFields.f l0_1).bind fun t398 => ((cabinetryref03_ValidateFields.f k l0_1).bind fun t399 => (if t398 = t399 then (if t384 = t386 then (if t385 = t387 then ((cabinetryref01_SameInts.f k bt388.1 bt392.1).bind fun t400 => (if t400 = true then (if bt388.2 = bt392.2 then ((cabinetrylaw03_known.f).bind fun t401 => (cabinetrylaw03_TableValidates.j0 k t401)) else (cabinetrylaw03_TableValidates.j0 k false)) else (cabinetrylaw03_TableValidates.j0 k false))) else (cabinetrylaw03_TableValidates.j0 k false)) else (cabinetrylaw03_TableValidates.j0 k false)) else (cabinetrylaw03_TableValidates.j0 k false)))) else (cabinetrylaw03_TableValidates.j0 k false)))))) = some r := H
  have A10 := Z0 A100
  clear A100
  replace H := Option.bind_eq_some_iff.mp H
  obtain ⟨⟨t388, t389⟩, A110, H⟩ := H
  replace H : ((cabinetryref03_Offsets.f k l0_1).bind fun bt392 => ((table_Validate.f k a0_0 l0_1 l0_2).bind fun t396 => ((cabinetryref03_Validate.f k a0_0 l0_1 l0_2).bind fun t397 => (if t396 = t397 then ((table_ValidateFields.f l0_1).bind fun t398 => ((cabinetryref03_ValidateFields.f k l0_1).bind fun t399 => (if t398 = t399 then (if t384 = t386 then (if t385 = t387 then ((cabinetryref01_SameInts.f k t388 bt392.1).bind fun t400 => (if t400 = true then (if t389 = bt392.2 then ((cabinetrylaw03_known.f).bind fun t401 => (cabinetrylaw03_TableValidates.j0 k t401)) else (cabinetrylaw03_TableValidates.j0 k false)) else (cabinetrylaw03_TableValidates.j0 k false))) else (cabinetrylaw03_TableValidates.j0 k false)) else (cabinetrylaw03_TableValidates.j0 k false)) else (cabinetrylaw03_TableValidates.j0 k false)))) else (cabinetrylaw03_TableValidates.j0 k false))))) = some r := H
  have A11 := Z0 A110
  clear A110
  replace H := Option.bind_eq_some_iff.mp H
  obtain ⟨⟨t392, t393⟩, A120, H⟩ := H
  replace H : ((table_Validate.f k a0_0 l0_1 l0_2).bind fun t396 => ((cabinetryref03_Validate.f k a0_0 l0_1 l0_2).bind fun t397 => (if t396 = t397 then ((table_ValidateFields.f l0_1).bind fun t398 => ((cabinetryref03_ValidateFields.f k l0_1).bind fun t399 => (if t398 = t399 then (if t384 = t386 then (if t385 = t387 then ((cabinetryref01_SameInts.f k t388 t392).bind fun t400 => (if t400 = true then (if t389 = t393 then ((cabinetrylaw03_known.f).bind fun t401 => (cabinetrylaw03_TableValidates.j0 k t401)) else (cabinetrylaw03_TableValidates.j0 k false)) else (cabinetrylaw03_TableValidates.j0 k false))) else (cabinetrylaw03_TableValidates.j0 k false)) else (cabinetrylaw03_TableValidates.j0 k false)) else (cabinetrylaw03_TableValidates.j0 k false)))) else (cabinetrylaw03_TableValidates.j0 k false)))) = some r := H
  have A12 := Z0 A120
  clear A120
  have HC13 := Z0 H
  clear H
  go_enter Tryz.func6, Tryz.ntmps6
  go_upto_region 7 with (first | ((with_reducible refine Y4 (N := 1) rfl ?_); refine Y2 ?hg (N := 1) ?hd (cs := #[.int .i64 a0_0, .slice A0_1 l0_1.length c0_1, .slice A0_2 l0_2.length c0_2]) (t := 35) ?hr ?_; (case hd => rfl); (case hg => rfl); (case hr => first | (go_simp; done) | (go_simp; rfl)); intro gb381 hg w14 hbox hb; have n0_ := Z0 (Z6 V0 hb); have n1_ := Z0 (hbox); have n2_ := Z0 ((by rw [hg]; exact (Y0 V0) : w.heap.size ≤ gb381)); have n3_ := Z0 ((by rw [hg]; exact (Y0 V0) : w.heap.size ≤ gb381)); clear HB; have HB := n0_; have BK381 := n1_; have GW381 := n2_; have GE381 := n3_; clear n0_ n1_ n2_ n3_; clear hb hbox hg; have hcz15_0 : w14.cell? ⟨gb381, 0, none⟩ = some (.int .i64 a0_0) := (Z2 BK381.out 0).trans rfl; have hcz15_1 : w14.cell? ⟨gb381, 1, none⟩ = some (.slice A0_1 l0_1.length c0_1) := (Z2 BK381.out 1).trans rfl; have hcz15_2 : w14.cell? ⟨gb381, 2, none⟩ = some (.slice A0_2 l0_2.length c0_2) := (Z2 BK381.out 2).trans rfl; have hfz15_0 := Z1 BK381.out 0; have hfz15_1 := Z1 BK381.out 1; have hfz15_2 := Z1 BK381.out 2) | ((with_reducible refine Y3 (f := 16) rfl ?_); refine goesL_ (some 12) rfl rfl Tryz.func16 (by kernel_rfl) rfl #[.agg #[.int .i64 a0_0, .slice A0_1 l0_1.length c0_1, .slice A0_2 l0_2.length c0_2]] rfl V1 ?_; (with_reducible refine (cabinetrylaw03_over.calls k a0_0 _ _ l0_1 _ _ l0_2 false _ ?side1 ?side2 ?side3 ?side4 A2.out).mono ?_); (case side1 => repeat (first | exact (Kd.C_below HR0_1.out HB.out) | (with_reducible refine Kd.C_alloc ?_ _) | (with_reducible refine Kd.C_drewN ?_ _) | (with_reducible refine Kd.C_drew ?_))); (case side2 => exact HC0_1.out); (case side3 => repeat (first | exact (Kd.C_below HR0_2.out HB.out) | (with_reducible refine Kd.C_alloc ?_ _) | (with_reducible refine Kd.C_drewN ?_ _) | (with_reducible refine Kd.C_drew ?_))); (case side4 => exact HC0_2.out); rintro e w16 ⟨rfl, hb⟩; refine ⟨_, rfl, ?_⟩; have n0_ := Z0 (Z7 (g := gb381) (o := .cells #[.int .i64 a0_0, .slice A0_1 l0_1.length c0_1, .slice A0_2 l0_2.length c0_2] 35 (0, 0)) (by (with_reducible repeat (first | refine Z8 ?_ _ | refine Y1 ?_ | refine Z9 ?_ _)); exact BK381.out) hb); have n1_ := Z0 (Z6 V0 hb); clear BK381; clear HB; have BK381 := n0_; have HB := n1_; clear n0_ n1_; (try clear hb); (try clear hb2); (try clear hk); (try clear hi); have hcz17_0 : w16.cell? ⟨gb381, 0, none⟩ = some (.int .i64 a0_0) := (Z2 BK381.out 0).trans rfl; have hcz17_1 : w16.cell? ⟨gb381, 1, none⟩ = some (.slice A0_1 l0_1.length c0_1) := (Z2 BK381.out 1).trans rfl; have hcz17_2 : w16.cell? ⟨gb381, 2, none⟩ = some (.slice A0_2 l0_2.length c0_2) := (Z2 BK381.out 2).trans rfl; have hfz17_0 := Z1 BK381.out 0; have hfz17_1 := Z1 BK381.out 1; have hfz17_2 := Z1 BK381.out 2) | ((with_reducible refine Y3 (f := 30) rfl ?_); refine goesL_ (some 17) rfl rfl Tryz.func30 (by kernel_rfl) rfl #[.slice A0_1 l0_1.length c0_1] rfl V1 ?_; (with_reducible refine (table_Length.calls k _ _ l0_1 t384 t385 _ ?side1 ?side2 A9.out).mono ?_); (case side1 => repeat (first | exact (Kd.C_below HR0_1.out HB.out) | (with_reducible refine Kd.C_alloc ?_ _) | (with_reducible refine Kd.C_drewN ?_ _) | (with_reducible refine Kd.C_drew ?_))); (case side2 => exact HC0_1.out); rintro e w18 ⟨rfl, hb⟩; refine ⟨_, rfl, ?_⟩; have n0_ := Z0 (Z7 (g := gb381) (o := .cells #[.int .i64 a0_0, .slice A0_1 l0_1.length c0_1, .slice A0_2 l0_2.length c0_2] 35 (0, 0)) (by (with_reducible repeat (first | refine Z8 ?_ _ | refine Y1 ?_ | refine Z9 ?_ _)); exact BK381.out) hb); have n1_ := Z0 (Z6 V0 hb); clear BK381; clear HB; have BK381 := n0_; have HB := n1_; clear n0_ n1_; (try clear hb); (try clear hb2); (try clear hk); (try clear hi); have hcz19_0 : w18.cell? ⟨gb381, 0, none⟩ = some (.int .i64 a0_0) := (Z2 BK381.out 0).trans rfl; have hcz19_1 : w18.cell? ⟨gb381, 1, none⟩ = some (.slice A0_1 l0_1.length c0_1) := (Z2 BK381.out 1).trans rfl; have hcz19_2 : w18.cell? ⟨gb381, 2, none⟩ = some (.slice A0_2 l0_2.length c0_2) := (Z2 BK381.out 2).trans rfl; have hfz19_0 := Z1 BK381.out 0; have hfz19_1 := Z1 BK381.out 1; have hfz19_2 := Z1 BK381.out 2) | ((with_reducible refine Y3 (f := 31) rfl ?_); refine goesL_ (some 23) rfl rfl Tryz.func31 (by kernel_rfl) rfl #[.slice A0_1 l0_1.length c0_1] rfl V1 ?_; (with_reducible refine (cabinetryref03_Length.calls k _ _ l0_1 t386 t387 _ ?side1 ?side2 A10.out).mono ?_); (case side1 => repeat (first | exact (Kd.C_below HR0_1.out HB.out) | (with_reducible refine Kd.C_alloc ?_ _) | (with_reducible refine Kd.C_drewN ?_ _) | (with_reducible refine Kd.C_drew ?_))); (case side2 => exact HC0_1.out); rintro e w20 ⟨rfl, hb⟩; refine ⟨_, rfl, ?_⟩; have n0_ := Z0 (Z7 (g := gb381) (o := .cells #[.int .i64 a0_0, .slice A0_1 l0_1.length c0_1, .slice A0_2 l0_2.length c0_2] 35 (0, 0)) (by (with_reducible repeat (first | refine Z8 ?_ _ | refine Y1 ?_ | refine Z9 ?_ _)); exact BK381.out) hb); have n1_ := Z0 (Z6 V0 hb); clear BK381; clear HB; have BK381 := n0_; have HB := n1_; clear n0_ n1_; (try clear hb); (try clear hb2); (try clear hk); (try clear hi); have hcz21_0 : w20.cell? ⟨gb381, 0, none⟩ = some (.int .i64 a0_0) := (Z2 BK381.out 0).trans rfl; have hcz21_1 : w20.cell? ⟨gb381, 1, none⟩ = some (.slice A0_1 l0_1.length c0_1) := (Z2 BK381.out 1).trans rfl; have hcz21_2 : w20.cell? ⟨gb381, 2, none⟩ = some (.slice A0_2 l0_2.length c0_2) := (Z2 BK381.out 2).trans rfl; have hfz21_0 := Z1 BK381.out 0; have hfz21_1 := Z1 BK381.out 1; have hfz21_2 := Z1 BK381.out 2) | ((with_reducible refine Y3 (f := 32) rfl ?_); refine goesL_ (some 29) rfl rfl Tryz.func32 (by kernel_rfl) rfl #[.slice A0_1 l0_1.length c0_1] rfl V1 ?_; (with_reducible refine (table_Offsets.calls k _ _ l0_1 t388 t389 _ ?side1 ?side2 A11.out).mono ?_); (case side1 => repeat (first | exact (Kd.C_below HR0_1.out HB.out) | (with_reducible refine Kd.C_alloc ?_ _) | (with_reducible refine Kd.C_drewN ?_ _) | (with_reducible refine Kd.C_drew ?_))); (case side2 => exact HC0_1.out); rintro e w22 ⟨v390, rfl, ho0, hb⟩; refine ⟨_, rfl, ?_⟩; have n0_ := Z0 (Kd.R_lower ho0 (Y0 V0)); have n1_ := Z0 (Z7 (g := gb381) (o := .cells #[.int .i64 a0_0, .slice A0_1 l0_1.length c0_1, .slice A0_2 l0_2.length c0_2] 35 (0, 0)) (by (with_reducible repeat (first | refine Z8 ?_ _ | refine Y1 ?_ | refine Z9 ?_ _)); exact BK381.out) hb); have n2_ := Z0 (Z6 V0 hb); clear BK381; clear HB; have HO391 := n0_; have BK381 := n1_; have HB := n2_; clear n0_ n1_ n2_; (try clear hb); (try clear hb2); (try clear hk); (try clear hi); (try clear ho0); have hcz23_0 : w22.cell? ⟨gb381, 0, none⟩ = some (.int .i64 a0_0) := (Z2 BK381.out 0).trans rfl; have hcz23_1 : w22.cell? ⟨gb381, 1, none⟩ = some (.slice A0_1 l0_1.length c0_1) := (Z2 BK381.out 1).trans rfl; have hcz23_2 : w22.cell? ⟨gb381, 2, none⟩ = some (.slice A0_2 l0_2.length c0_2) := (Z2 BK381.out 2).trans rfl; have hfz23_0 := Z1 BK381.out 0; have hfz23_1 := Z1 BK381.out 1; have hfz23_2 := Z1 BK381.out 2) | ((with_reducible refine Y3 (f := 33) rfl ?_); refine goesL_ (some 35) rfl rfl Tryz.func33 (by kernel_rfl) rfl #[.slice A0_1 l0_1.length c0_1] rfl V1 ?_; (with_reducible refine (cabinetryref03_Offsets.calls k _ _ l0_1 t392 t393 _ ?side1 ?side2 A12.out).mono ?_); (case side1 => repeat (first | exact (Kd.C_below HR0_1.out HB.out) | (with_reducible refine Kd.C_alloc ?_ _) | (with_reducible refine Kd.C_drewN ?_ _) | (with_reducible refine Kd.C_drew ?_))); (case side2 => exact HC0_1.out); rintro e w24 ⟨v394, rfl, ho0, hb⟩; refine ⟨_, rfl, ?_⟩; have n0_ := Z0 (Kd.R_elder' (by (with_reducible repeat (first | apply Kd.R_alloc | apply Kd.R_drewN | apply Kd.R_drew)); exact HO391.out) (Kd.R_base ho0) hb); have n1_ := Z0 (Kd.R_lower (Kd.R_new' ho0 (Kd.R_lt (by (with_reducible repeat (first | apply Kd.R_alloc | apply Kd.R_drewN | apply Kd.R_drew)); exact HO391.out))) (Y0 V0)); have n2_ := Z0 (Z7 (g := gb381) (o := .cells #[.int .i64 a0_0, .slice A0_1 l0_1.length c0_1, .slice A0_2 l0_2.length c0_2] 35 (0, 0)) (by (with_reducible repeat (first | refine Z8 ?_ _ | refine Y1 ?_ | refine Z9 ?_ _)); exact BK381.out) hb); have n3_ := Z0 (Z6 V0 hb); clear HO391; clear BK381; clear HB; have HO391 := n0_; have HO395 := n1_; have BK381 := n2_; have HB := n3_; clear n0_ n1_ n2_ n3_; (try clear hb); (try clear hb2); (try clear hk); (try clear hi); (try clear ho0)))
  (try simp only [Act.put, Z3, Z4, Z5])
  go_cut [2] (fun v2 wc => ∃ (kq : Nat) (x2_12 : Bool), v2 = .bool x2_12 ∧ Aside0 (cabinetrylaw03_TableValidates.j0 kq x2_12 = some r) ∧ Aside0 (kq ≤ k) ∧ Aside0 (wc.heap[gb381]? = some (.cells #[.int .i64 a0_0, (.slice A0_1 l0_1.length c0_1), (.slice A0_2 l0_2.length c0_2)] 35 (0, 0))) ∧ Aside0 (Below w.heap.size w wc))
  case first =>
   have H := HC13.out
   clear HC13
   replace H := Option.bind_eq_some_iff.mp H
   obtain ⟨t396, A250, H⟩ := H
   replace H : ((cabinetryref03_Validate.f k a0_0 l0_1 l0_2).bind fun t397 => (if t396 = t397 then ((table_ValidateFields.f l0_1).bind fun t398 => ((cabinetryref03_ValidateFields.f k l0_1).bind fun t399 => (if t398 = t399 then (if t384 = t386 then (if t385 = t387 then ((cabinetryref01_SameInts.f k t388 t392).bind fun t400 => (if t400 = true then (if t389 = t393 then ((cabinetrylaw03_known.f).bind fun t401 => (cabinetrylaw03_TableValidates.j0 k t401)) else (cabinetrylaw03_TableValidates.j0 k false)) else (cabinetrylaw03_TableValidates.j0 k false))) else (cabinetrylaw03_TableValidates.j0 k false)) else (cabinetrylaw03_TableValidates.j0 k false)) else (cabinetrylaw03_TableValidates.j0 k false)))) else (cabinetrylaw03_TableValidates.j0 k false))) = some r := H
   have A25 := Z0 A250
   clear A250
   replace H := Option.bind_eq_some_iff.mp H
   obtain ⟨t397, A260, H⟩ := H
   replace H : (if t396 = t397 then ((table_ValidateFields.f l0_1).bind fun t398 => ((cabinetryref03_ValidateFields.f k l0_1).bind fun t399 => (if t398 = t399 then (if t384 = t386 then (if t385 = t387 then ((cabinetryref01_SameInts.f k t388 t392).bind fun t400 => (if t400 = true then (if t389 = t393 then ((cabinetrylaw03_known.f).bind fun t401 => (cabinetrylaw03_TableValidates.j0 k t401)) else (cabinetrylaw03_TableValidates.j0 k false)) else (cabinetrylaw03_TableValidates.j0 k false))) else (cabinetrylaw03_TableValidates.j0 k false)) else (cabinetrylaw03_TableValidates.j0 k false)) else (cabinetrylaw03_TableValidates.j0 k false)))) else (cabinetrylaw03_TableValidates.j0 k false)) = some r := H
   have A26 := Z0 A260
   clear A260
   by_cases c27 : t396 = t397
   ·rw [if_pos c27] at H
    have c27b0 : (t396 == t397) = true := beq_iff_eq.mpr c27
    have c27b1 : (t396 != t397) = false := bne_eq_false_iff_eq.mpr c27
    clear c27
    (first | rw [c27b0] | (simp only [i64_w, i32_w]; rw [c27b0]) | skip)
    replace H := Option.bind_eq_some_iff.mp H
    obtain ⟨t398, A280, H⟩ := H
    replace H : ((cabinetryref03_ValidateFields.f k l0_1).bind fun t399 => (if t398 = t399 then (if t384 = t386 then (if t385 = t387 then ((cabinetryref01_SameInts.f k t388 t392).bind fun t400 => (if t400 = true then (if t389 = t393 then ((cabinetrylaw03_known.f).bind fun t401 => (cabinetrylaw03_TableValidates.j0 k t401)) else (cabinetrylaw03_TableValidates.j0 k false)) else (cabinetrylaw03_TableValidates.j0 k false))) else (cabinetrylaw03_TableValidates.j0 k false)) else (cabinetrylaw03_TableValidates.j0 k false)) else (cabinetrylaw03_TableValidates.j0 k false))) = some r := H
    have A28 := Z0 A280
    clear A280
    replace H := Option.bind_eq_some_iff.mp H
    obtain ⟨t399, A290, H⟩ := H
    replace H : (if t398 = t399 then (if t384 = t386 then (if t385 = t387 then ((cabinetryref01_SameInts.f k t388 t392).bind fun t400 => (if t400 = true then (if t389 = t393 then ((cabinetrylaw03_known.f).bind fun t401 => (cabinetrylaw03_TableValidates.j0 k t401)) else (cabinetrylaw03_TableValidates.j0 k false)) else (cabinetrylaw03_TableValidates.j0 k false))) else (cabinetrylaw03_TableValidates.j0 k false)) else (cabinetrylaw03_TableValidates.j0 k false)) else (cabinetrylaw03_TableValidates.j0 k false)) = some r := H
    have A29 := Z0 A290
    clear A290
    by_cases c30 : t398 = t399
    ·rw [if_pos c30] at H
     have c30b0 : (t398 == t399) = true := beq_iff_eq.mpr c30
     have c30b1 : (t398 != t399) = false := bne_eq_false_iff_eq.mpr c30
     clear c30
     by_cases c31 : t384 = t386
     ·rw [if_pos c31] at H
      have c31b0 : (t384 == t386) = true := beq_iff_eq.mpr c31
      have c31b1 : (t384 != t386) = false := bne_eq_false_iff_eq.mpr c31
      clear c31
      by_cases c32 : t385 = t387
      ·rw [if_pos c32] at H
       have c32b0 : (t385 == t387) = true := beq_iff_eq.mpr c32
       have c32b1 : (t385 != t387) = false := bne_eq_false_iff_eq.mpr c32
       clear c32
       replace H := Option.bind_eq_some_iff.mp H
       obtain ⟨t400, A330, H⟩ := H
       replace H : (if t400 = true then (if t389 = t393 then ((cabinetrylaw03_known.f).bind fun t401 => (cabinetrylaw03_TableValidates.j0 k t401)) else (cabinetrylaw03_TableValidates.j0 k false)) else (cabinetrylaw03_TableValidates.j0 k false)) = some r := H
       have A33 := Z0 A330
       clear A330
       by_cases c34 : t400 = true
       ·subst c34
        have H1 : (if t389 = t393 then ((cabinetrylaw03_known.f).bind fun t401 => (cabinetrylaw03_TableValidates.j0 k t401)) else (cabinetrylaw03_TableValidates.j0 k false)) = some r := by rw [if_pos rfl] at H; exact H
        clear H
        have H := H1
        clear H1
        by_cases c35 : t389 = t393
        ·rw [if_pos c35] at H
         have c35b0 : (t389 == t393) = true := beq_iff_eq.mpr c35
         have c35b1 : (t389 != t393) = false := bne_eq_false_iff_eq.mpr c35
         clear c35
         replace H := Option.bind_eq_some_iff.mp H
         obtain ⟨t401, A360, H⟩ := H
         replace H : (cabinetrylaw03_TableValidates.j0 k t401) = some r := H
         have A36 := Z0 A360
         clear A360
         have H' := Z0 H
         clear H
         try go_wp2
         have n0_ := Z0 (Kd.R_drew HO391.out)
         have n1_ := Z0 (Kd.R_drew HO395.out)
         have n2_ := Z0 (Y1 BK381.out)
         have n3_ := Z0 (below_drew1 HB.out)
         clear HO391
         clear HO395
         clear BK381
         clear HB
         have HO391 := n0_
         have HO395 := n1_
         have BK381 := n2_
         have HB := n3_
         clear n0_ n1_ n2_ n3_
         refine start_ (n := 38) (S := fun w' => w'.cell? ⟨gb381, 0, none⟩ = some (.int .i64 a0_0) ∧ w'.cell? ⟨gb381, 1, none⟩ = some (.slice A0_1 l0_1.length c0_1) ∧ w'.cell? ⟨gb381, 2, none⟩ = some (.slice A0_2 l0_2.length c0_2)) (ds := []) #[false, false, false, false, false, false, false, false, false, false, false, false, false, false, false, false, false, false, false, false, false, false, false, false, false, false, false, false, false, false, false, false, false, false, false, false, false, false] (by kernel_rfl) rfl rfl ⟨(Z2 BK381.out 0).trans rfl, (Z2 BK381.out 1).trans rfl, (Z2 BK381.out 2).trans rfl⟩ (fun hHeld => ?_); refine with_tabW cabinetrylaw03_TableValidates.tab7 cabinetrylaw03_TableValidates.bits7 (fun HT_ HW_ => ?_)
         generalize w24.drew = w37 at HO391 HO395 BK381 HB hHeld ⊢
         refine take_ (i := 0) (N := some 38) (v := ?_) (a' := ?_) #[true, false, false, false, false, false, false, false, false, false, false, false, false, false, false, false, false, false, false, false, false, false, false, false, false, false, false, false, false, false, false, false, false, false, false, false, false, false] rfl rfl (take_ofW HT_.out HW_.out (by kernel_rfl)) (fun _ _ _ h => h) (Or.inl ⟨by rfl, ?_⟩) hHeld ?_ ?_
         rotate_left
         ·rintro w' ⟨s0, s1, s2⟩
          go_simp
          with_reducible rfl
         rotate_left
         ·simp only [Act.put, Z3, Z4, Z5, i64_w, i32_w]
          rfl
         refine take_ (i := 2) (N := some 40) (v := ?_) (a' := ?_) #[true, false, true, false, false, false, false, false, false, false, false, false, false, false, false, false, false, false, false, false, false, false, false, false, false, false, false, false, false, false, false, false, false, false, false, false, false, false] rfl rfl (take_ofW HT_.out HW_.out (by kernel_rfl)) (fun _ _ _ h => h) (Or.inl ⟨by rfl, ?_⟩) hHeld ?_ ?_
         rotate_left
         ·rintro w' ⟨s0, s1, s2⟩
          go_simp
          with_reducible rfl
         rotate_left
         ·simp only [Act.put, Z3, Z4, Z5, i64_w, i32_w]
          rfl
         refine one_ (i := 1) (N := some 39) #[true, true, true, false, false, false, false, false, false, false, false, false, false, false, false, false, false, false, false, false, false, false, false, false, false, false, false, false, false, false, false, false, false, false, false, false, false, false] rfl rfl (one_of HT_.out (by kernel_rfl)) (by decide) (fun K hK => ?_)
         refine goes_ Tryz.func34 (by kernel_rfl) rfl #[.agg #[.int .i64 a0_0, .slice A0_1 l0_1.length c0_1, .slice A0_2 l0_2.length c0_2]] (by rfl) rfl rfl V1 ?_
         with_reducible refine (table_Validate.calls k a0_0 _ _ l0_1 _ _ l0_2 t396 _ ?side1 ?side2 ?side3 ?side4 A25.out).mono ?_
         (case side1 => repeat (first | exact (Kd.C_below HR0_1.out HB.out) | (with_reducible refine Kd.C_alloc ?_ _) | (with_reducible refine Kd.C_drewN ?_ _) | (with_reducible refine Kd.C_drew ?_)))
         (case side2 => exact HC0_1.out)
         (case side3 => repeat (first | exact (Kd.C_below HR0_2.out HB.out) | (with_reducible refine Kd.C_alloc ?_ _) | (with_reducible refine Kd.C_drewN ?_ _) | (with_reducible refine Kd.C_drew ?_)))
         (case side4 => exact HC0_2.out)
         rintro e w38 ⟨rfl, hb⟩
         refine ⟨_, rfl, ?_⟩
         have n0_ := Z0 (Kd.R_below (by (with_reducible repeat (first | apply Kd.R_alloc | apply Kd.R_drewN | apply Kd.R_drew)); exact HO391.out) hb)
         have n1_ := Z0 (Kd.R_below (by (with_reducible repeat (first | apply Kd.R_alloc | apply Kd.R_drewN | apply Kd.R_drew)); exact HO395.out) hb)
         have n2_ := Z0 (Z7 (g := gb381) (o := .cells #[.int .i64 a0_0, .slice A0_1 l0_1.length c0_1, .slice A0_2 l0_2.length c0_2] 35 (0, 0)) (by (with_reducible repeat (first | refine Z8 ?_ _ | refine Y1 ?_ | refine Z9 ?_ _)); exact BK381.out) hb)
         have n3_ := Z0 (Z6 V0 hb)
         clear HO391
         clear HO395
         clear BK381
         clear HB
         have HO391 := n0_
         have HO395 := n1_
         have BK381 := n2_
         have HB := n3_
         clear n0_ n1_ n2_ n3_
         (try clear hb)
         (try clear hb2)
         (try clear hk)
         (try clear hi)
         refine hK.out _ _ ⟨(Z2 BK381.out 0).trans rfl, (Z2 BK381.out 1).trans rfl, (Z2 BK381.out 2).trans rfl⟩ (fun hHeld => ?_)
         clear hK K
         refine norm_ (a' := ?_) ?_ ?_
         rotate_left
         ·show Act.put _ (some 39) _ = _
          simp only [Act.put, Z3, Z4, Z5, i64_w, i32_w]
          rfl
         refine one_ (i := 3) (N := some 41) #[true, true, true, true, false, false, false, false, false, false, false, false, false, false, false, false, false, false, false, false, false, false, false, false, false, false, false, false, false, false, false, false, false, false, false, false, false, false] rfl rfl (one_of HT_.out (by kernel_rfl)) (by decide) (fun K hK => ?_)
         refine goes_ Tryz.func35 (by kernel_rfl) rfl #[.agg #[.int .i64 a0_0, .slice A0_1 l0_1.length c0_1, .slice A0_2 l0_2.length c0_2]] (by rfl) rfl rfl V1 ?_
         with_reducible refine (cabinetryref03_Validate.calls k a0_0 _ _ l0_1 _ _ l0_2 t397 _ ?side1 ?side2 ?side3 ?side4 A26.out).mono ?_
         (case side1 => repeat (first | exact (Kd.C_below HR0_1.out HB.out) | (with_reducible refine Kd.C_alloc ?_ _) | (with_reducible refine Kd.C_drewN ?_ _) | (with_reducible refine Kd.C_drew ?_)))
         (case side2 => exact HC0_1.out)
         (case side3 => repeat (first | exact (Kd.C_below HR0_2.out HB.out) | (with_reducible refine Kd.C_alloc ?_ _) | (with_reducible refine Kd.C_drewN ?_ _) | (with_reducible refine Kd.C_drew ?_)))
         (case side4 => exact HC0_2.out)
         rintro e w39 ⟨rfl, hb⟩
         refine ⟨_, rfl, ?_⟩
         have n0_ := Z0 (Kd.R_below (by (with_reducible repeat (first | apply Kd.R_alloc | apply Kd.R_drewN | apply Kd.R_drew)); exact HO391.out) hb)
         have n1_ := Z0 (Kd.R_below (by (with_reducible repeat (first | apply Kd.R_alloc | apply Kd.R_drewN | apply Kd.R_drew)); exact HO395.out) hb)
         have n2_ := Z0 (Z7 (g := gb381) (o := .cells #[.int .i64 a0_0, .slice A0_1 l0_1.length c0_1, .slice A0_2 l0_2.length c0_2] 35 (0, 0)) (by (with_reducible repeat (first | refine Z8 ?_ _ | refine Y1 ?_ | refine Z9 ?_ _)); exact BK381.out) hb)
         have n3_ := Z0 (Z6 V0 hb)
         clear HO391
         clear HO395
         clear BK381
         clear HB
         have HO391 := n0_
         have HO395 := n1_
         have BK381 := n2_
         have HB := n3_
         clear n0_ n1_ n2_ n3_
         (try clear hb)
         (try clear hb2)
         (try clear hk)
         (try clear hi)
         refine hK.out _ _ ⟨(Z2 BK381.out 0).trans rfl, (Z2 BK381.out 1).trans rfl, (Z2 BK381.out 2).trans rfl⟩ (fun hHeld => ?_)
         clear hK K
         refine norm_ (a' := ?_) ?_ ?_
         rotate_left
         ·show Act.put _ (some 41) _ = _
          simp only [Act.put, Z3, Z4, Z5, i64_w, i32_w]
          rfl
         refine pure_ (i := 4) (N := some 42) (v := ?_) (a' := ?_) #[true, true, true, true, true, false, false, false, false, false, false, false, false, false, false, false, false, false, false, false, false, false, false, false, false, false, false, false, false, false, false, false, false, false, false, false, false, false] rfl rfl (any_of HT_.out (by kernel_rfl)) (fun _ _ _ h => h) (Or.inl ⟨by rfl, ?_⟩) ?_ ?_
         rotate_left
         ·intro w'
          go_simp
          with_reducible rfl
         rotate_left
         ·simp only [Act.put, Z3, Z4, Z5, i64_w, i32_w]
          rfl
         refine pure_ (i := 5) (N := some 43) (v := ?_) (a' := ?_) #[true, true, true, true, true, true, false, false, false, false, false, false, false, false, false, false, false, false, false, false, false, false, false, false, false, false, false, false, false, false, false, false, false, false, false, false, false, false] rfl rfl (any_of HT_.out (by kernel_rfl)) (fun _ _ _ h => h) (Or.inl ⟨by rfl, ?_⟩) ?_ ?_
         rotate_left
         ·intro w'
          go_simp
          with_reducible rfl
         rotate_left
         ·simp only [Act.put, Z3, Z4, Z5, i64_w, i32_w]
          rfl
         refine pure_ (i := 6) (N := some 44) (v := ?_) (a' := ?_) #[true, true, true, true, true, true, true, false, false, false, false, false, false, false, false, false, false, false, false, false, false, false, false, false, false, false, false, false, false, false, false, false, false, false, false, false, false, false] rfl rfl (any_of HT_.out (by kernel_rfl)) (fun _ _ _ h => h) (Or.inl ⟨by rfl, ?_⟩) ?_ ?_
         rotate_left
         ·intro w'
          go_simp
          with_reducible rfl
         rotate_left
         ·simp only [Act.put, Z3, Z4, Z5, i64_w, i32_w]
          rfl
         refine pure_ (i := 9) (N := some 47) (v := ?_) (a' := ?_) #[true, true, true, true, true, true, true, false, false, true, false, false, false, false, false, false, false, false, false, false, false, false, false, false, false, false, false, false, false, false, false, false, false, false, false, false, false, false] rfl rfl (any_of HT_.out (by kernel_rfl)) (fun _ _ _ h => h) (Or.inl ⟨by rfl, ?_⟩) ?_ ?_
         rotate_left
         ·intro w'
          go_simp
          with_reducible rfl
         rotate_left
         ·simp only [Act.put, Z3, Z4, Z5, i64_w, i32_w]
          rfl
         refine take_ (i := 7) (N := some 45) (v := ?_) (a' := ?_) #[true, true, true, true, true, true, true, true, false, true, false, false, false, false, false, false, false, false, false, false, false, false, false, false, false, false, false, false, false, false, false, false, false, false, false, false, false, false] rfl rfl (take_ofW HT_.out HW_.out (by kernel_rfl)) (fun _ _ _ h => h) (Or.inl ⟨by rfl, ?_⟩) hHeld ?_ ?_
         rotate_left
         ·rintro w' ⟨s0, s1, s2⟩
          go_simp
          with_reducible rfl
         rotate_left
         ·simp only [Act.put, Z3, Z4, Z5, i64_w, i32_w]
          rfl
         refine take_ (i := 10) (N := some 48) (v := ?_) (a' := ?_) #[true, true, true, true, true, true, true, true, false, true, true, false, false, false, false, false, false, false, false, false, false, false, false, false, false, false, false, false, false, false, false, false, false, false, false, false, false, false] rfl rfl (take_ofW HT_.out HW_.out (by kernel_rfl)) (fun _ _ _ h => h) (Or.inl ⟨by rfl, ?_⟩) hHeld ?_ ?_
         rotate_left
         ·rintro w' ⟨s0, s1, s2⟩
          go_simp
          with_reducible rfl
         rotate_left
         ·simp only [Act.put, Z3, Z4, Z5, i64_w, i32_w]
          rfl
         refine one_ (i := 8) (N := some 46) #[true, true, true, true, true, true, true, true, true, true, true, false, false, false, false, false, false, false, false, false, false, false, false, false, false, false, false, false, false, false, false, false, false, false, false, false, false, false] rfl rfl (one_of HT_.out (by kernel_rfl)) (by decide) (fun K hK => ?_)
         refine goes_ Tryz.func36 (by kernel_rfl) rfl #[.slice A0_1 l0_1.length c0_1] (by rfl) rfl rfl V1 ?_
         with_reducible refine (table_ValidateFields.calls _ _ l0_1 t398 _ ?side1 ?side2 A28.out).mono ?_
         (case side1 => repeat (first | exact (Kd.C_below HR0_1.out HB.out) | (with_reducible refine Kd.C_alloc ?_ _) | (with_reducible refine Kd.C_drewN ?_ _) | (with_reducible refine Kd.C_drew ?_)))
         (case side2 => exact HC0_1.out)
         rintro e w40 ⟨rfl, hb⟩
         refine ⟨_, rfl, ?_⟩
         have n0_ := Z0 (Kd.R_below (by (with_reducible repeat (first | apply Kd.R_alloc | apply Kd.R_drewN | apply Kd.R_drew)); exact HO391.out) hb)
         have n1_ := Z0 (Kd.R_below (by (with_reducible repeat (first | apply Kd.R_alloc | apply Kd.R_drewN | apply Kd.R_drew)); exact HO395.out) hb)
         have n2_ := Z0 (Z7 (g := gb381) (o := .cells #[.int .i64 a0_0, .slice A0_1 l0_1.length c0_1, .slice A0_2 l0_2.length c0_2] 35 (0, 0)) (by (with_reducible repeat (first | refine Z8 ?_ _ | refine Y1 ?_ | refine Z9 ?_ _)); exact BK381.out) hb)
         have n3_ := Z0 (Z6 V0 hb)
         clear HO391
         clear HO395
         clear BK381
         clear HB
         have HO391 := n0_
         have HO395 := n1_
         have BK381 := n2_
         have HB := n3_
         clear n0_ n1_ n2_ n3_
         (try clear hb)
         (try clear hb2)
         (try clear hk)
         (try clear hi)
         refine hK.out _ _ ⟨(Z2 BK381.out 0).trans rfl, (Z2 BK381.out 1).trans rfl, (Z2 BK381.out 2).trans rfl⟩ (fun hHeld => ?_)
         clear hK K
         refine norm_ (a' := ?_) ?_ ?_
         rotate_left
         ·show Act.put _ (some 46) _ = _
          simp only [Act.put, Z3, Z4, Z5, i64_w, i32_w]
          rfl
         refine one_ (i := 11) (N := some 49) #[true, true, true, true, true, true, true, true, true, true, true, true, false, false, false, false, false, false, false, false, false, false, false, false, false, false, false, false, false, false, false, false, false, false, false, false, false, false] rfl rfl (one_of HT_.out (by kernel_rfl)) (by decide) (fun K hK => ?_)
         refine goes_ Tryz.func37 (by kernel_rfl) rfl #[.slice A0_1 l0_1.length c0_1] (by rfl) rfl rfl V1 ?_
         with_reducible refine (cabinetryref03_ValidateFields.calls k _ _ l0_1 t399 _ ?side1 ?side2 A29.out).mono ?_
         (case side1 => repeat (first | exact (Kd.C_below HR0_1.out HB.out) | (with_reducible refine Kd.C_alloc ?_ _) | (with_reducible refine Kd.C_drewN ?_ _) | (with_reducible refine Kd.C_drew ?_)))
         (case side2 => exact HC0_1.out)
         rintro e w41 ⟨rfl, hb⟩
         refine ⟨_, rfl, ?_⟩
         have n0_ := Z0 (Kd.R_below (by (with_reducible repeat (first | apply Kd.R_alloc | apply Kd.R_drewN | apply Kd.R_drew)); exact HO391.out) hb)
         have n1_ := Z0 (Kd.R_below (by (with_reducible repeat (first | apply Kd.R_alloc | apply Kd.R_drewN | apply Kd.R_drew)); exact HO395.out) hb)
         have n2_ := Z0 (Z7 (g := gb381) (o := .cells #[.int .i64 a0_0, .slice A0_1 l0_1.length c0_1, .slice A0_2 l0_2.length c0_2] 35 (0, 0)) (by (with_reducible repeat (first | refine Z8 ?_ _ | refine Y1 ?_ | refine Z9 ?_ _)); exact BK381.out) hb)
         have n3_ := Z0 (Z6 V0 hb)
         clear HO391
         clear HO395
         clear BK381
         clear HB
         have HO391 := n0_
         have HO395 := n1_
         have BK381 := n2_
         have HB := n3_
         clear n0_ n1_ n2_ n3_
         (try clear hb)
         (try clear hb2)
         (try clear hk)
         (try clear hi)
         obtain ⟨Ao42, co42, eo42⟩ := Kd.R_slice HO391.out
         (first | subst eo42 | (injection eo42 with f1_ f2_ f3_; have f4_ := f1_.symm; have f5_ := f3_.symm; clear f1_ f2_ f3_; subst f4_; subst f5_))
         obtain ⟨Ao43, co43, eo43⟩ := Kd.R_slice HO395.out
         (first | subst eo43 | (injection eo43 with f1_ f2_ f3_; have f4_ := f1_.symm; have f5_ := f3_.symm; clear f1_ f2_ f3_; subst f4_; subst f5_))
         refine hK.out _ _ ⟨(Z2 BK381.out 0).trans rfl, (Z2 BK381.out 1).trans rfl, (Z2 BK381.out 2).trans rfl⟩ (fun hHeld => ?_)
         clear hK K
         refine norm_ (a' := ?_) ?_ ?_
         rotate_left
         ·show Act.put _ (some 49) _ = _
          simp only [Act.put, Z3, Z4, Z5, i64_w, i32_w]
          rfl
         refine pure_ (i := 12) (N := some 50) (v := ?_) (a' := ?_) #[true, true, true, true, true, true, true, true, true, true, true, true, true, false, false, false, false, false, false, false, false, false, false, false, false, false, false, false, false, false, false, false, false, false, false, false, false, false] rfl rfl (any_of HT_.out (by kernel_rfl)) (fun _ _ _ h => h) (Or.inl ⟨by rfl, ?_⟩) ?_ ?_
         rotate_left
         ·intro w'
          go_simp
          with_reducible rfl
         rotate_left
         ·simp only [Act.put, Z3, Z4, Z5, i64_w, i32_w]
          rfl
         refine pure_ (i := 13) (N := some 51) (v := ?_) (a' := ?_) #[true, true, true, true, true, true, true, true, true, true, true, true, true, true, false, false, false, false, false, false, false, false, false, false, false, false, false, false, false, false, false, false, false, false, false, false, false, false] rfl rfl (any_of HT_.out (by kernel_rfl)) (fun _ _ _ h => h) (Or.inl ⟨by rfl, ?_⟩) ?_ ?_
         rotate_left
         ·intro w'
          go_simp
          with_reducible rfl
         rotate_left
         ·simp only [Act.put, Z3, Z4, Z5, i64_w, i32_w]
          rfl
         refine pure_ (i := 14) (N := some 52) (v := ?_) (a' := ?_) #[true, true, true, true, true, true, true, true, true, true, true, true, true, true, true, false, false, false, false, false, false, false, false, false, false, false, false, false, false, false, false, false, false, false, false, false, false, false] rfl rfl (any_of HT_.out (by kernel_rfl)) (fun _ _ _ h => h) (Or.inl ⟨by rfl, ?_⟩) ?_ ?_
         rotate_left
         ·intro w'
          go_simp
          with_reducible rfl
         rotate_left
         ·simp only [Act.put, Z3, Z4, Z5, i64_w, i32_w]
          rfl
         refine pure_ (i := 15) (N := some 53) (v := ?_) (a' := ?_) #[true, true, true, true, true, true, true, true, true, true, true, true, true, true, true, true, false, false, false, false, false, false, false, false, false, false, false, false, false, false, false, false, false, false, false, false, false, false] rfl rfl (any_of HT_.out (by kernel_rfl)) (fun _ _ _ h => h) (Or.inl ⟨by rfl, ?_⟩) ?_ ?_
         rotate_left
         ·intro w'
          go_simp
          with_reducible rfl
         rotate_left
         ·simp only [Act.put, Z3, Z4, Z5, i64_w, i32_w]
          rfl
         refine pure_ (i := 16) (N := some 54) (v := ?_) (a' := ?_) #[true, true, true, true, true, true, true, true, true, true, true, true, true, true, true, true, true, false, false, false, false, false, false, false, false, false, false, false, false, false, false, false, false, false, false, false, false, false] rfl rfl (any_of HT_.out (by kernel_rfl)) (fun _ _ _ h => h) (Or.inl ⟨by rfl, ?_⟩) ?_ ?_
         rotate_left
         ·intro w'
          go_simp
          with_reducible rfl
         rotate_left
         ·simp only [Act.put, Z3, Z4, Z5, i64_w, i32_w]
          rfl
         refine pure_ (i := 17) (N := some 55) (v := ?_) (a' := ?_) #[true, true, true, true, true, true, true, true, true, true, true, true, true, true, true, true, true, true, false, false, false, false, false, false, false, false, false, false, false, false, false, false, false, false, false, false, false, false] rfl rfl (any_of HT_.out (by kernel_rfl)) (fun _ _ _ h => h) (Or.inl ⟨by rfl, ?_⟩) ?_ ?_
         rotate_left
         ·intro w'
          go_simp
          with_reducible rfl
         rotate_left
         ·simp only [Act.put, Z3, Z4, Z5, i64_w, i32_w]
          rfl
         refine pure_ (i := 18) (N := some 56) (v := ?_) (a' := ?_) #[true, true, true, true, true, true, true, true, true, true, true, true, true, true, true, true, true, true, true, false, false, false, false, false, false, false, false, false, false, false, false, false, false, false, false, false, false, false] rfl rfl (any_of HT_.out (by kernel_rfl)) (fun _ _ _ h => h) (Or.inl ⟨by rfl, ?_⟩) ?_ ?_
         rotate_left
         ·intro w'
          go_simp
          with_reducible rfl
         rotate_left
         ·simp only [Act.put, Z3, Z4, Z5, i64_w, i32_w]
          rfl
         refine pure_ (i := 19) (N := some 57) (v := ?_) (a' := ?_) #[true, true, true, true, true, true, true, true, true, true, true, true, true, true, true, true, true, true, true, true, false, false, false, false, false, false, false, false, false, false, false, false, false, false, false, false, false, false] rfl rfl (any_of HT_.out (by kernel_rfl)) (fun _ _ _ h => h) (Or.inl ⟨by rfl, ?_⟩) ?_ ?_
         rotate_left
         ·intro w'
          go_simp
          with_reducible rfl
         rotate_left
         ·simp only [Act.put, Z3, Z4, Z5, i64_w, i32_w]
          rfl
         refine pure_ (i := 20) (N := some 58) (v := ?_) (a' := ?_) #[true, true, true, true, true, true, true, true, true, true, true, true, true, true, true, true, true, true, true, true, true, false, false, false, false, false, false, false, false, false, false, false, false, false, false, false, false, false] rfl rfl (any_of HT_.out (by kernel_rfl)) (fun _ _ _ h => h) (Or.inl ⟨by rfl, ?_⟩) ?_ ?_
         rotate_left
         ·intro w'
          go_simp
          with_reducible rfl
         rotate_left
         ·simp only [Act.put, Z3, Z4, Z5, i64_w, i32_w]
          rfl
         refine pure_ (i := 21) (N := some 59) (v := ?_) (a' := ?_) #[true, true, true, true, true, true, true, true, true, true, true, true, true, true, true, true, true, true, true, true, true, true, false, false, false, false, false, false, false, false, false, false, false, false, false, false, false, false] rfl rfl (any_of HT_.out (by kernel_rfl)) (fun _ _ _ h => h) (Or.inl ⟨by rfl, ?_⟩) ?_ ?_
         rotate_left
         ·intro w'
          go_simp
          with_reducible rfl
         rotate_left
         ·simp only [Act.put, Z3, Z4, Z5, i64_w, i32_w]
          rfl
         refine pure_ (i := 22) (N := some 60) (v := ?_) (a' := ?_) #[true, true, true, true, true, true, true, true, true, true, true, true, true, true, true, true, true, true, true, true, true, true, true, false, false, false, false, false, false, false, false, false, false, false, false, false, false, false] rfl rfl (any_of HT_.out (by kernel_rfl)) (fun _ _ _ h => h) (Or.inl ⟨by rfl, ?_⟩) ?_ ?_
         rotate_left
         ·intro w'
          go_simp
          with_reducible rfl
         rotate_left
         ·simp only [Act.put, Z3, Z4, Z5, i64_w, i32_w]
          rfl
         refine pure_ (i := 23) (N := some 61) (v := ?_) (a' := ?_) #[true, true, true, true, true, true, true, true, true, true, true, true, true, true, true, true, true, true, true, true, true, true, true, true, false, false, false, false, false, false, false, false, false, false, false, false, false, false] rfl rfl (any_of HT_.out (by kernel_rfl)) (fun _ _ _ h => h) (Or.inl ⟨by rfl, ?_⟩) ?_ ?_
         rotate_left
         ·intro w'
          go_simp
          with_reducible rfl
         rotate_left
         ·simp only [Act.put, Z3, Z4, Z5, i64_w, i32_w]
          rfl
         refine pure_ (i := 24) (N := some 62) (v := ?_) (a' := ?_) #[true, true, true, true, true, true, true, true, true, true, true, true, true, true, true, true, true, true, true, true, true, true, true, true, true, false, false, false, false, false, false, false, false, false, false, false, false, false] rfl rfl (any_of HT_.out (by kernel_rfl)) (fun _ _ _ h => h) (Or.inl ⟨by rfl, ?_⟩) ?_ ?_
         rotate_left
         ·intro w'
          go_simp
          with_reducible rfl
         rotate_left
         ·simp only [Act.put, Z3, Z4, Z5, i64_w, i32_w]
          rfl
         refine pure_ (i := 25) (N := some 63) (v := ?_) (a' := ?_) #[true, true, true, true, true, true, true, true, true, true, true, true, true, true, true, true, true, true, true, true, true, true, true, true, true, true, false, false, false, false, false, false, false, false, false, false, false, false] rfl rfl (any_of HT_.out (by kernel_rfl)) (fun _ _ _ h => h) (Or.inl ⟨by rfl, ?_⟩) ?_ ?_
         rotate_left
         ·intro w'
          go_simp
          with_reducible rfl
         rotate_left
         ·simp only [Act.put, Z3, Z4, Z5, i64_w, i32_w]
          rfl
         refine pure_ (i := 26) (N := some 64) (v := ?_) (a' := ?_) #[true, true, true, true, true, true, true, true, true, true, true, true, true, true, true, true, true, true, true, true, true, true, true, true, true, true, true, false, false, false, false, false, false, false, false, false, false, false] rfl rfl (any_of HT_.out (by kernel_rfl)) (fun _ _ _ h => h) (Or.inl ⟨by rfl, ?_⟩) ?_ ?_
         rotate_left
         ·intro w'
          go_simp
          with_reducible rfl
         rotate_left
         ·simp only [Act.put, Z3, Z4, Z5, i64_w, i32_w]
          rfl
         refine one_ (i := 27) (N := some 65) #[true, true, true, true, true, true, true, true, true, true, true, true, true, true, true, true, true, true, true, true, true, true, true, true, true, true, true, true, false, false, false, false, false, false, false, false, false, false] rfl rfl (one_of HT_.out (by kernel_rfl)) (by decide) (fun K hK => ?_)
         refine goes_ Tryz.func38 (by kernel_rfl) rfl #[.slice Ao42 t388.length co42, .slice Ao43 t392.length co43] (by rfl) rfl rfl V1 ?_
         with_reducible refine (cabinetryref01_SameInts.calls k _ _ t388 _ _ t392 true _ ?side1 ?side2 ?side3 ?side4 A33.out).mono ?_
         (case side1 => repeat (first | exact (Kd.R_reads' HO391.out).2.2 | (with_reducible refine Kd.C_alloc ?_ _) | (with_reducible refine Kd.C_drewN ?_ _) | (with_reducible refine Kd.C_drew ?_)))
         (case side2 => exact (Kd.R_reads' HO391.out).2.1)
         (case side3 => repeat (first | exact (Kd.R_reads' HO395.out).2.2 | (with_reducible refine Kd.C_alloc ?_ _) | (with_reducible refine Kd.C_drewN ?_ _) | (with_reducible refine Kd.C_drew ?_)))
         (case side4 => exact (Kd.R_reads' HO395.out).2.1)
         rintro e w' ⟨rfl, ⟨nd, rfl⟩⟩
         refine ⟨_, rfl, ?_⟩
         refine hK.out _ _ ⟨(Z2 BK381.out 0).trans rfl, (Z2 BK381.out 1).trans rfl, (Z2 BK381.out 2).trans rfl⟩ (fun hHeld => ?_)
         clear hK K
         refine norm_ (a' := ?_) ?_ ?_
         rotate_left
         ·show Act.put _ (some 65) _ = _
          simp only [Act.put, Z3, Z4, Z5, i64_w, i32_w]
          rfl
         refine pure_ (i := 28) (N := some 66) (v := ?_) (a' := ?_) #[true, true, true, true, true, true, true, true, true, true, true, true, true, true, true, true, true, true, true, true, true, true, true, true, true, true, true, true, true, false, false, false, false, false, false, false, false, false] rfl rfl (any_of HT_.out (by kernel_rfl)) (fun _ _ _ h => h) (Or.inl ⟨by rfl, ?_⟩) ?_ ?_
         rotate_left
         ·intro w'
          go_simp
          with_reducible rfl
         rotate_left
         ·simp only [Act.put, Z3, Z4, Z5, i64_w, i32_w]
          rfl
         refine pure_ (i := 29) (N := some 67) (v := ?_) (a' := ?_) #[true, true, true, true, true, true, true, true, true, true, true, true, true, true, true, true, true, true, true, true, true, true, true, true, true, true, true, true, true, true, false, false, false, false, false, false, false, false] rfl rfl (any_of HT_.out (by kernel_rfl)) (fun _ _ _ h => h) (Or.inl ⟨by rfl, ?_⟩) ?_ ?_
         rotate_left
         ·intro w'
          go_simp
          with_reducible rfl
         rotate_left
         ·simp only [Act.put, Z3, Z4, Z5, i64_w, i32_w]
          rfl
         refine pure_ (i := 30) (N := some 68) (v := ?_) (a' := ?_) #[true, true, true, true, true, true, true, true, true, true, true, true, true, true, true, true, true, true, true, true, true, true, true, true, true, true, true, true, true, true, true, false, false, false, false, false, false, false] rfl rfl (any_of HT_.out (by kernel_rfl)) (fun _ _ _ h => h) (Or.inl ⟨by rfl, ?_⟩) ?_ ?_
         rotate_left
         ·intro w'
          go_simp
          with_reducible rfl
         rotate_left
         ·simp only [Act.put, Z3, Z4, Z5, i64_w, i32_w]
          rfl
         refine pure_ (i := 31) (N := some 69) (v := ?_) (a' := ?_) #[true, true, true, true, true, true, true, true, true, true, true, true, true, true, true, true, true, true, true, true, true, true, true, true, true, true, true, true, true, true, true, true, false, false, false, false, false, false] rfl rfl (any_of HT_.out (by kernel_rfl)) (fun _ _ _ h => h) (Or.inl ⟨by rfl, ?_⟩) ?_ ?_
         rotate_left
         ·intro w'
          go_simp
          with_reducible rfl
         rotate_left
         ·simp only [Act.put, Z3, Z4, Z5, i64_w, i32_w]
          rfl
         refine pure_ (i := 32) (N := some 70) (v := ?_) (a' := ?_) #[true, true, true, true, true, true, true, true, true, true, true, true, true, true, true, true, true, true, true, true, true, true, true, true, true, true, true, true, true, true, true, true, true, false, false, false, false, false] rfl rfl (any_of HT_.out (by kernel_rfl)) (fun _ _ _ h => h) (Or.inl ⟨by rfl, ?_⟩) ?_ ?_
         rotate_left
         ·intro w'
          go_simp
          with_reducible rfl
         rotate_left
         ·simp only [Act.put, Z3, Z4, Z5, i64_w, i32_w]
          rfl
         refine pure_ (i := 33) (N := some 71) (v := ?_) (a' := ?_) #[true, true, true, true, true, true, true, true, true, true, true, true, true, true, true, true, true, true, true, true, true, true, true, true, true, true, true, true, true, true, true, true, true, true, false, false, false, false] rfl rfl (any_of HT_.out (by kernel_rfl)) (fun _ _ _ h => h) (Or.inl ⟨by rfl, ?_⟩) ?_ ?_
         rotate_left
         ·intro w'
          go_simp
          with_reducible rfl
         rotate_left
         ·simp only [Act.put, Z3, Z4, Z5, i64_w, i32_w]
          rfl
         refine pure_ (i := 34) (N := some 72) (v := ?_) (a' := ?_) #[true, true, true, true, true, true, true, true, true, true, true, true, true, true, true, true, true, true, true, true, true, true, true, true, true, true, true, true, true, true, true, true, true, true, true, false, false, false] rfl rfl (any_of HT_.out (by kernel_rfl)) (fun _ _ _ h => h) (Or.inl ⟨by rfl, ?_⟩) ?_ ?_
         rotate_left
         ·intro w'
          go_simp
          with_reducible rfl
         rotate_left
         ·simp only [Act.put, Z3, Z4, Z5, i64_w, i32_w]
          rfl
         refine one_ (i := 35) (N := some 73) #[true, true, true, true, true, true, true, true, true, true, true, true, true, true, true, true, true, true, true, true, true, true, true, true, true, true, true, true, true, true, true, true, true, true, true, true, false, false] rfl rfl (one_of HT_.out (by kernel_rfl)) (by decide) (fun K hK => ?_)
         refine goes_ Tryz.func12 (by kernel_rfl) rfl #[] (by rfl) rfl rfl V1 ?_
         with_reducible refine (cabinetrylaw03_known.calls  t401 _ A36.out).mono ?_
         rintro e w44 ⟨rfl, hb⟩
         refine ⟨_, rfl, ?_⟩
         have n0_ := Z0 (Kd.R_below (by (with_reducible repeat (first | apply Kd.R_alloc | apply Kd.R_drewN | apply Kd.R_drew)); exact HO391.out) hb)
         have n1_ := Z0 (Kd.R_below (by (with_reducible repeat (first | apply Kd.R_alloc | apply Kd.R_drewN | apply Kd.R_drew)); exact HO395.out) hb)
         have n2_ := Z0 (Z7 (g := gb381) (o := .cells #[.int .i64 a0_0, .slice A0_1 l0_1.length c0_1, .slice A0_2 l0_2.length c0_2] 35 (0, 0)) (by (with_reducible repeat (first | refine Z8 ?_ _ | refine Y1 ?_ | refine Z9 ?_ _)); exact BK381.out) hb)
         have n3_ := Z0 (Z6 V0 hb)
         clear HO391
         clear HO395
         clear BK381
         clear HB
         have HO391 := n0_
         have HO395 := n1_
         have BK381 := n2_
         have HB := n3_
         clear n0_ n1_ n2_ n3_
         (try clear hb)
         (try clear hb2)
         (try clear hk)
         (try clear hi)
         refine hK.out _ _ ⟨(Z2 BK381.out 0).trans rfl, (Z2 BK381.out 1).trans rfl, (Z2 BK381.out 2).trans rfl⟩ (fun hHeld => ?_)
         clear hK K
         refine norm_ (a' := ?_) ?_ ?_
         rotate_left
         ·show Act.put _ (some 73) _ = _
          simp only [Act.put, Z3, Z4, Z5, i64_w, i32_w]
          rfl
         refine pure_ (i := 36) (N := some 74) (v := ?_) (a' := ?_) #[true, true, true, true, true, true, true, true, true, true, true, true, true, true, true, true, true, true, true, true, true, true, true, true, true, true, true, true, true, true, true, true, true, true, true, true, true, false] rfl rfl (any_of HT_.out (by kernel_rfl)) (fun _ _ _ h => h) (Or.inl ⟨by rfl, ?_⟩) ?_ ?_
         rotate_left
         ·intro w'
          go_simp
          with_reducible rfl
         rotate_left
         ·simp only [Act.put, Z3, Z4, Z5, i64_w, i32_w]
          rfl
         refine pure_ (i := 37) (N := some 2) (v := ?_) (a' := ?_) #[true, true, true, true, true, true, true, true, true, true, true, true, true, true, true, true, true, true, true, true, true, true, true, true, true, true, true, true, true, true, true, true, true, true, true, true, true, true] rfl rfl (any_of HT_.out (by kernel_rfl)) (fun _ _ _ h => h) (Or.inl ⟨by rfl, ?_⟩) ?_ ?_
         rotate_left
         ·intro w'
          go_simp
          with_reducible rfl
         rotate_left
         ·simp only [Act.put, Z3, Z4, Z5, i64_w, i32_w]
          rfl
         refine done_ (done_of HT_.out (by kernel_rfl)) ?_
         try go_wp2
         go_meet
         case rel => exact ⟨_, (t401), V2, H', ⟨by first | omega | exact Nat.le_refl _⟩, ⟨by (with_reducible repeat (first | refine Z8 ?_ _ | refine Y1 ?_ | refine Z9 ?_ _)); exact BK381.out⟩, ⟨V0⟩⟩
        ·rw [if_neg c35] at H
         first | (exact absurd (H.trans (congrArg some HR_.out)) (by simp)) | (exact (cabinetrylaw03_TableValidates.j0_ne _ _ H (congrArg some HR_.out)).elim)
       ·replace c34 := Bool.eq_false_iff.mpr c34
        subst c34
        have H1 : (cabinetrylaw03_TableValidates.j0 k false) = some r := by rw [if_neg (show ¬ (false = true) by decide)] at H; exact H
        clear H
        have H := H1
        clear H1
        have H' := Z0 H
        clear H
        try go_wp2
        have n0_ := Z0 (Kd.R_drew HO391.out)
        have n1_ := Z0 (Kd.R_drew HO395.out)
        have n2_ := Z0 (Y1 BK381.out)
        have n3_ := Z0 (below_drew1 HB.out)
        clear HO391
        clear HO395
        clear BK381
        clear HB
        have HO391 := n0_
        have HO395 := n1_
        have BK381 := n2_
        have HB := n3_
        clear n0_ n1_ n2_ n3_
        refine start_ (n := 38) (S := fun w' => w'.cell? ⟨gb381, 0, none⟩ = some (.int .i64 a0_0) ∧ w'.cell? ⟨gb381, 1, none⟩ = some (.slice A0_1 l0_1.length c0_1) ∧ w'.cell? ⟨gb381, 2, none⟩ = some (.slice A0_2 l0_2.length c0_2)) (ds := []) #[false, false, false, false, false, false, false, false, false, false, false, false, false, false, false, false, false, false, false, false, false, false, false, false, false, false, false, false, false, false, false, false, false, false, false, false, false, false] (by kernel_rfl) rfl rfl ⟨(Z2 BK381.out 0).trans rfl, (Z2 BK381.out 1).trans rfl, (Z2 BK381.out 2).trans rfl⟩ (fun hHeld => ?_); refine with_tabW cabinetrylaw03_TableValidates.tab7 cabinetrylaw03_TableValidates.bits7 (fun HT_ HW_ => ?_)
        generalize w24.drew = w52 at HO391 HO395 BK381 HB hHeld ⊢
        refine take_ (i := 0) (N := some 38) (v := ?_) (a' := ?_) #[true, false, false, false, false, false, false, false, false, false, false, false, false, false, false, false, false, false, false, false, false, false, false, false, false, false, false, false, false, false, false, false, false, false, false, false, false, false] rfl rfl (take_ofW HT_.out HW_.out (by kernel_rfl)) (fun _ _ _ h => h) (Or.inl ⟨by rfl, ?_⟩) hHeld ?_ ?_
        rotate_left
        ·rintro w' ⟨s0, s1, s2⟩
         go_simp
         with_reducible rfl
        rotate_left
        ·simp only [Act.put, Z3, Z4, Z5, i64_w, i32_w]
         rfl
        refine take_ (i := 2) (N := some 40) (v := ?_) (a' := ?_) #[true, false, true, false, false, false, false, false, false, false, false, false, false, false, false, false, false, false, false, false, false, false, false, false, false, false, false, false, false, false, false, false, false, false, false, false, false, false] rfl rfl (take_ofW HT_.out HW_.out (by kernel_rfl)) (fun _ _ _ h => h) (Or.inl ⟨by rfl, ?_⟩) hHeld ?_ ?_
        rotate_left
        ·rintro w' ⟨s0, s1, s2⟩
         go_simp
         with_reducible rfl
        rotate_left
        ·simp only [Act.put, Z3, Z4, Z5, i64_w, i32_w]
         rfl
        refine one_ (i := 1) (N := some 39) #[true, true, true, false, false, false, false, false, false, false, false, false, false, false, false, false, false, false, false, false, false, false, false, false, false, false, false, false, false, false, false, false, false, false, false, false, false, false] rfl rfl (one_of HT_.out (by kernel_rfl)) (by decide) (fun K hK => ?_)
        refine goes_ Tryz.func34 (by kernel_rfl) rfl #[.agg #[.int .i64 a0_0, .slice A0_1 l0_1.length c0_1, .slice A0_2 l0_2.length c0_2]] (by rfl) rfl rfl V1 ?_
        with_reducible refine (table_Validate.calls k a0_0 _ _ l0_1 _ _ l0_2 t396 _ ?side1 ?side2 ?side3 ?side4 A25.out).mono ?_
        (case side1 => repeat (first | exact (Kd.C_below HR0_1.out HB.out) | (with_reducible refine Kd.C_alloc ?_ _) | (with_reducible refine Kd.C_drewN ?_ _) | (with_reducible refine Kd.C_drew ?_)))
        (case side2 => exact HC0_1.out)
        (case side3 => repeat (first | exact (Kd.C_below HR0_2.out HB.out) | (with_reducible refine Kd.C_alloc ?_ _) | (with_reducible refine Kd.C_drewN ?_ _) | (with_reducible refine Kd.C_drew ?_)))
        (case side4 => exact HC0_2.out)
        rintro e w53 ⟨rfl, hb⟩
        refine ⟨_, rfl, ?_⟩
        have n0_ := Z0 (Kd.R_below (by (with_reducible repeat (first | apply Kd.R_alloc | apply Kd.R_drewN | apply Kd.R_drew)); exact HO391.out) hb)
        have n1_ := Z0 (Kd.R_below (by (with_reducible repeat (first | apply Kd.R_alloc | apply Kd.R_drewN | apply Kd.R_drew)); exact HO395.out) hb)
        have n2_ := Z0 (Z7 (g := gb381) (o := .cells #[.int .i64 a0_0, .slice A0_1 l0_1.length c0_1, .slice A0_2 l0_2.length c0_2] 35 (0, 0)) (by (with_reducible repeat (first | refine Z8 ?_ _ | refine Y1 ?_ | refine Z9 ?_ _)); exact BK381.out) hb)
        have n3_ := Z0 (Z6 V0 hb)
        clear HO391
        clear HO395
        clear BK381
        clear HB
        have HO391 := n0_
        have HO395 := n1_
        have BK381 := n2_
        have HB := n3_
        clear n0_ n1_ n2_ n3_
        (try clear hb)
        (try clear hb2)
        (try clear hk)
        (try clear hi)
        refine hK.out _ _ ⟨(Z2 BK381.out 0).trans rfl, (Z2 BK381.out 1).trans rfl, (Z2 BK381.out 2).trans rfl⟩ (fun hHeld => ?_)
        clear hK K
        refine norm_ (a' := ?_) ?_ ?_
        rotate_left
        ·show Act.put _ (some 39) _ = _
         simp only [Act.put, Z3, Z4, Z5, i64_w, i32_w]
         rfl
        refine one_ (i := 3) (N := some 41) #[true, true, true, true, false, false, false, false, false, false, false, false, false, false, false, false, false, false, false, false, false, false, false, false, false, false, false, false, false, false, false, false, false, false, false, false, false, false] rfl rfl (one_of HT_.out (by kernel_rfl)) (by decide) (fun K hK => ?_)
        refine goes_ Tryz.func35 (by kernel_rfl) rfl #[.agg #[.int .i64 a0_0, .slice A0_1 l0_1.length c0_1, .slice A0_2 l0_2.length c0_2]] (by rfl) rfl rfl V1 ?_
        with_reducible refine (cabinetryref03_Validate.calls k a0_0 _ _ l0_1 _ _ l0_2 t397 _ ?side1 ?side2 ?side3 ?side4 A26.out).mono ?_
        (case side1 => repeat (first | exact (Kd.C_below HR0_1.out HB.out) | (with_reducible refine Kd.C_alloc ?_ _) | (with_reducible refine Kd.C_drewN ?_ _) | (with_reducible refine Kd.C_drew ?_)))
        (case side2 => exact HC0_1.out)
        (case side3 => repeat (first | exact (Kd.C_below HR0_2.out HB.out) | (with_reducible refine Kd.C_alloc ?_ _) | (with_reducible refine Kd.C_drewN ?_ _) | (with_reducible refine Kd.C_drew ?_)))
        (case side4 => exact HC0_2.out)
        rintro e w54 ⟨rfl, hb⟩
        refine ⟨_, rfl, ?_⟩
        have n0_ := Z0 (Kd.R_below (by (with_reducible repeat (first | apply Kd.R_alloc | apply Kd.R_drewN | apply Kd.R_drew)); exact HO391.out) hb)
        have n1_ := Z0 (Kd.R_below (by (with_reducible repeat (first | apply Kd.R_alloc | apply Kd.R_drewN | apply Kd.R_drew)); exact HO395.out) hb)
        have n2_ := Z0 (Z7 (g := gb381) (o := .cells #[.int .i64 a0_0, .slice A0_1 l0_1.length c0_1, .slice A0_2 l0_2.length c0_2] 35 (0, 0)) (by (with_reducible repeat (first | refine Z8 ?_ _ | refine Y1 ?_ | refine Z9 ?_ _)); exact BK381.out) hb)
        have n3_ := Z0 (Z6 V0 hb)
        clear HO391
        clear HO395
        clear BK381
        clear HB
        have HO391 := n0_
        have HO395 := n1_
        have BK381 := n2_
        have HB := n3_
        clear n0_ n1_ n2_ n3_
        (try clear hb)
        (try clear hb2)
        (try clear hk)
        (try clear hi)
        refine hK.out _ _ ⟨(Z2 BK381.out 0).trans rfl, (Z2 BK381.out 1).trans rfl, (Z2 BK381.out 2).trans rfl⟩ (fun hHeld => ?_)
        clear hK K
        refine norm_ (a' := ?_) ?_ ?_
        rotate_left
        ·show Act.put _ (some 41) _ = _
         simp only [Act.put, Z3, Z4, Z5, i64_w, i32_w]
         rfl
        refine pure_ (i := 4) (N := some 42) (v := ?_) (a' := ?_) #[true, true, true, true, true, false, false, false, false, false, false, false, false, false, false, false, false, false, false, false, false, false, false, false, false, false, false, false, false, false, false, false, false, false, false, false, false, false] rfl rfl (any_of HT_.out (by kernel_rfl)) (fun _ _ _ h => h) (Or.inl ⟨by rfl, ?_⟩) ?_ ?_
        rotate_left
        ·intro w'
         go_simp
         with_reducible rfl
        rotate_left
        ·simp only [Act.put, Z3, Z4, Z5, i64_w, i32_w]
         rfl
        refine pure_ (i := 5) (N := some 43) (v := ?_) (a' := ?_) #[true, true, true, true, true, true, false, false, false, false, false, false, false, false, false, false, false, false, false, false, false, false, false, false, false, false, false, false, false, false, false, false, false, false, false, false, false, false] rfl rfl (any_of HT_.out (by kernel_rfl)) (fun _ _ _ h => h) (Or.inl ⟨by rfl, ?_⟩) ?_ ?_
        rotate_left
        ·intro w'
         go_simp
         with_reducible rfl
        rotate_left
        ·simp only [Act.put, Z3, Z4, Z5, i64_w, i32_w]
         rfl
        refine pure_ (i := 6) (N := some 44) (v := ?_) (a' := ?_) #[true, true, true, true, true, true, true, false, false, false, false, false, false, false, false, false, false, false, false, false, false, false, false, false, false, false, false, false, false, false, false, false, false, false, false, false, false, false] rfl rfl (any_of HT_.out (by kernel_rfl)) (fun _ _ _ h => h) (Or.inl ⟨by rfl, ?_⟩) ?_ ?_
        rotate_left
        ·intro w'
         go_simp
         with_reducible rfl
        rotate_left
        ·simp only [Act.put, Z3, Z4, Z5, i64_w, i32_w]
         rfl
        refine pure_ (i := 9) (N := some 47) (v := ?_) (a' := ?_) #[true, true, true, true, true, true, true, false, false, true, false, false, false, false, false, false, false, false, false, false, false, false, false, false, false, false, false, false, false, false, false, false, false, false, false, false, false, false] rfl rfl (any_of HT_.out (by kernel_rfl)) (fun _ _ _ h => h) (Or.inl ⟨by rfl, ?_⟩) ?_ ?_
        rotate_left
        ·intro w'
         go_simp
         with_reducible rfl
        rotate_left
        ·simp only [Act.put, Z3, Z4, Z5, i64_w, i32_w]
         rfl
        refine take_ (i := 7) (N := some 45) (v := ?_) (a' := ?_) #[true, true, true, true, true, true, true, true, false, true, false, false, false, false, false, false, false, false, false, false, false, false, false, false, false, false, false, false, false, false, false, false, false, false, false, false, false, false] rfl rfl (take_ofW HT_.out HW_.out (by kernel_rfl)) (fun _ _ _ h => h) (Or.inl ⟨by rfl, ?_⟩) hHeld ?_ ?_
        rotate_left
        ·rintro w' ⟨s0, s1, s2⟩
         go_simp
         with_reducible rfl
        rotate_left
        ·simp only [Act.put, Z3, Z4, Z5, i64_w, i32_w]
         rfl
        refine take_ (i := 10) (N := some 48) (v := ?_) (a' := ?_) #[true, true, true, true, true, true, true, true, false, true, true, false, false, false, false, false, false, false, false, false, false, false, false, false, false, false, false, false, false, false, false, false, false, false, false, false, false, false] rfl rfl (take_ofW HT_.out HW_.out (by kernel_rfl)) (fun _ _ _ h => h) (Or.inl ⟨by rfl, ?_⟩) hHeld ?_ ?_
        rotate_left
        ·rintro w' ⟨s0, s1, s2⟩
         go_simp
         with_reducible rfl
        rotate_left
        ·simp only [Act.put, Z3, Z4, Z5, i64_w, i32_w]
         rfl
        refine one_ (i := 8) (N := some 46) #[true, true, true, true, true, true, true, true, true, true, true, false, false, false, false, false, false, false, false, false, false, false, false, false, false, false, false, false, false, false, false, false, false, false, false, false, false, false] rfl rfl (one_of HT_.out (by kernel_rfl)) (by decide) (fun K hK => ?_)
        refine goes_ Tryz.func36 (by kernel_rfl) rfl #[.slice A0_1 l0_1.length c0_1] (by rfl) rfl rfl V1 ?_
        with_reducible refine (table_ValidateFields.calls _ _ l0_1 t398 _ ?side1 ?side2 A28.out).mono ?_
        (case side1 => repeat (first | exact (Kd.C_below HR0_1.out HB.out) | (with_reducible refine Kd.C_alloc ?_ _) | (with_reducible refine Kd.C_drewN ?_ _) | (with_reducible refine Kd.C_drew ?_)))
        (case side2 => exact HC0_1.out)
        rintro e w55 ⟨rfl, hb⟩
        refine ⟨_, rfl, ?_⟩
        have n0_ := Z0 (Kd.R_below (by (with_reducible repeat (first | apply Kd.R_alloc | apply Kd.R_drewN | apply Kd.R_drew)); exact HO391.out) hb)
        have n1_ := Z0 (Kd.R_below (by (with_reducible repeat (first | apply Kd.R_alloc | apply Kd.R_drewN | apply Kd.R_drew)); exact HO395.out) hb)
        have n2_ := Z0 (Z7 (g := gb381) (o := .cells #[.int .i64 a0_0, .slice A0_1 l0_1.length c0_1, .slice A0_2 l0_2.length c0_2] 35 (0, 0)) (by (with_reducible repeat (first | refine Z8 ?_ _ | refine Y1 ?_ | refine Z9 ?_ _)); exact BK381.out) hb)
        have n3_ := Z0 (Z6 V0 hb)
        clear HO391
        clear HO395
        clear BK381
        clear HB
        have HO391 := n0_
        have HO395 := n1_
        have BK381 := n2_
        have HB := n3_
        clear n0_ n1_ n2_ n3_
        (try clear hb)
        (try clear hb2)
        (try clear hk)
        (try clear hi)
        refine hK.out _ _ ⟨(Z2 BK381.out 0).trans rfl, (Z2 BK381.out 1).trans rfl, (Z2 BK381.out 2).trans rfl⟩ (fun hHeld => ?_)
        clear hK K
        refine norm_ (a' := ?_) ?_ ?_
        rotate_left
        ·show Act.put _ (some 46) _ = _
         simp only [Act.put, Z3, Z4, Z5, i64_w, i32_w]
         rfl
        refine one_ (i := 11) (N := some 49) #[true, true, true, true, true, true, true, true, true, true, true, true, false, false, false, false, false, false, false, false, false, false, false, false, false, false, false, false, false, false, false, false, false, false, false, false, false, false] rfl rfl (one_of HT_.out (by kernel_rfl)) (by decide) (fun K hK => ?_)
        refine goes_ Tryz.func37 (by kernel_rfl) rfl #[.slice A0_1 l0_1.length c0_1] (by rfl) rfl rfl V1 ?_
        with_reducible refine (cabinetryref03_ValidateFields.calls k _ _ l0_1 t399 _ ?side1 ?side2 A29.out).mono ?_
        (case side1 => repeat (first | exact (Kd.C_below HR0_1.out HB.out) | (with_reducible refine Kd.C_alloc ?_ _) | (with_reducible refine Kd.C_drewN ?_ _) | (with_reducible refine Kd.C_drew ?_)))
        (case side2 => exact HC0_1.out)
        rintro e w56 ⟨rfl, hb⟩
        refine ⟨_, rfl, ?_⟩
        have n0_ := Z0 (Kd.R_below (by (with_reducible repeat (first | apply Kd.R_alloc | apply Kd.R_drewN | apply Kd.R_drew)); exact HO391.out) hb)
        have n1_ := Z0 (Kd.R_below (by (with_reducible repeat (first | apply Kd.R_alloc | apply Kd.R_drewN | apply Kd.R_drew)); exact HO395.out) hb)
        have n2_ := Z0 (Z7 (g := gb381) (o := .cells #[.int .i64 a0_0, .slice A0_1 l0_1.length c0_1, .slice A0_2 l0_2.length c0_2] 35 (0, 0)) (by (with_reducible repeat (first | refine Z8 ?_ _ | refine Y1 ?_ | refine Z9 ?_ _)); exact BK381.out) hb)
        have n3_ := Z0 (Z6 V0 hb)
        clear HO391
        clear HO395
        clear BK381
        clear HB
        have HO391 := n0_
        have HO395 := n1_
        have BK381 := n2_
        have HB := n3_
        clear n0_ n1_ n2_ n3_
        (try clear hb)
        (try clear hb2)
        (try clear hk)
        (try clear hi)
        obtain ⟨Ao57, co57, eo57⟩ := Kd.R_slice HO391.out
        (first | subst eo57 | (injection eo57 with f1_ f2_ f3_; have f4_ := f1_.symm; have f5_ := f3_.symm; clear f1_ f2_ f3_; subst f4_; subst f5_))
        obtain ⟨Ao58, co58, eo58⟩ := Kd.R_slice HO395.out
        (first | subst eo58 | (injection eo58 with f1_ f2_ f3_; have f4_ := f1_.symm; have f5_ := f3_.symm; clear f1_ f2_ f3_; subst f4_; subst f5_))
        refine hK.out _ _ ⟨(Z2 BK381.out 0).trans rfl, (Z2 BK381.out 1).trans rfl, (Z2 BK381.out 2).trans rfl⟩ (fun hHeld => ?_)
        clear hK K
        refine norm_ (a' := ?_) ?_ ?_
        rotate_left
        ·show Act.put _ (some 49) _ = _
         simp only [Act.put, Z3, Z4, Z5, i64_w, i32_w]
         rfl
        refine pure_ (i := 12) (N := some 50) (v := ?_) (a' := ?_) #[true, true, true, true, true, true, true, true, true, true, true, true, true, false, false, false, false, false, false, false, false, false, false, false, false, false, false, false, false, false, false, false, false, false, false, false, false, false] rfl rfl (any_of HT_.out (by kernel_rfl)) (fun _ _ _ h => h) (Or.inl ⟨by rfl, ?_⟩) ?_ ?_
        rotate_left
        ·intro w'
         go_simp
         with_reducible rfl
        rotate_left
        ·simp only [Act.put, Z3, Z4, Z5, i64_w, i32_w]
         rfl
        refine pure_ (i := 13) (N := some 51) (v := ?_) (a' := ?_) #[true, true, true, true, true, true, true, true, true, true, true, true, true, true, false, false, false, false, false, false, false, false, false, false, false, false, false, false, false, false, false, false, false, false, false, false, false, false] rfl rfl (any_of HT_.out (by kernel_rfl)) (fun _ _ _ h => h) (Or.inl ⟨by rfl, ?_⟩) ?_ ?_
        rotate_left
        ·intro w'
         go_simp
         with_reducible rfl
        rotate_left
        ·simp only [Act.put, Z3, Z4, Z5, i64_w, i32_w]
         rfl
        refine pure_ (i := 14) (N := some 52) (v := ?_) (a' := ?_) #[true, true, true, true, true, true, true, true, true, true, true, true, true, true, true, false, false, false, false, false, false, false, false, false, false, false, false, false, false, false, false, false, false, false, false, false, false, false] rfl rfl (any_of HT_.out (by kernel_rfl)) (fun _ _ _ h => h) (Or.inl ⟨by rfl, ?_⟩) ?_ ?_
        rotate_left
        ·intro w'
         go_simp
         with_reducible rfl
        rotate_left
        ·simp only [Act.put, Z3, Z4, Z5, i64_w, i32_w]
         rfl
        refine pure_ (i := 15) (N := some 53) (v := ?_) (a' := ?_) #[true, true, true, true, true, true, true, true, true, true, true, true, true, true, true, true, false, false, false, false, false, false, false, false, false, false, false, false, false, false, false, false, false, false, false, false, false, false] rfl rfl (any_of HT_.out (by kernel_rfl)) (fun _ _ _ h => h) (Or.inl ⟨by rfl, ?_⟩) ?_ ?_
        rotate_left
        ·intro w'
         go_simp
         with_reducible rfl
        rotate_left
        ·simp only [Act.put, Z3, Z4, Z5, i64_w, i32_w]
         rfl
        refine pure_ (i := 16) (N := some 54) (v := ?_) (a' := ?_) #[true, true, true, true, true, true, true, true, true, true, true, true, true, true, true, true, true, false, false, false, false, false, false, false, false, false, false, false, false, false, false, false, false, false, false, false, false, false] rfl rfl (any_of HT_.out (by kernel_rfl)) (fun _ _ _ h => h) (Or.inl ⟨by rfl, ?_⟩) ?_ ?_
        rotate_left
        ·intro w'
         go_simp
         with_reducible rfl
        rotate_left
        ·simp only [Act.put, Z3, Z4, Z5, i64_w, i32_w]
         rfl
        refine pure_ (i := 17) (N := some 55) (v := ?_) (a' := ?_) #[true, true, true, true, true, true, true, true, true, true, true, true, true, true, true, true, true, true, false, false, false, false, false, false, false, false, false, false, false, false, false, false, false, false, false, false, false, false] rfl rfl (any_of HT_.out (by kernel_rfl)) (fun _ _ _ h => h) (Or.inl ⟨by rfl, ?_⟩) ?_ ?_
        rotate_left
        ·intro w'
         go_simp
         with_reducible rfl
        rotate_left
        ·simp only [Act.put, Z3, Z4, Z5, i64_w, i32_w]
         rfl
        refine pure_ (i := 18) (N := some 56) (v := ?_) (a' := ?_) #[true, true, true, true, true, true, true, true, true, true, true, true, true, true, true, true, true, true, true, false, false, false, false, false, false, false, false, false, false, false, false, false, false, false, false, false, false, false] rfl rfl (any_of HT_.out (by kernel_rfl)) (fun _ _ _ h => h) (Or.inl ⟨by rfl, ?_⟩) ?_ ?_
        rotate_left
        ·intro w'
         go_simp
         with_reducible rfl
        rotate_left
        ·simp only [Act.put, Z3, Z4, Z5, i64_w, i32_w]
         rfl
        refine pure_ (i := 19) (N := some 57) (v := ?_) (a' := ?_) #[true, true, true, true, true, true, true, true, true, true, true, true, true, true, true, true, true, true, true, true, false, false, false, false, false, false, false, false, false, false, false, false, false, false, false, false, false, false] rfl rfl (any_of HT_.out (by kernel_rfl)) (fun _ _ _ h => h) (Or.inl ⟨by rfl, ?_⟩) ?_ ?_
        rotate_left
        ·intro w'
         go_simp
         with_reducible rfl
        rotate_left
        ·simp only [Act.put, Z3, Z4, Z5, i64_w, i32_w]
         rfl
        refine pure_ (i := 20) (N := some 58) (v := ?_) (a' := ?_) #[true, true, true, true, true, true, true, true, true, true, true, true, true, true, true, true, true, true, true, true, true, false, false, false, false, false, false, false, false, false, false, false, false, false, false, false, false, false] rfl rfl (any_of HT_.out (by kernel_rfl)) (fun _ _ _ h => h) (Or.inl ⟨by rfl, ?_⟩) ?_ ?_
        rotate_left
        ·intro w'
         go_simp
         with_reducible rfl
        rotate_left
        ·simp only [Act.put, Z3, Z4, Z5, i64_w, i32_w]
         rfl
        refine pure_ (i := 21) (N := some 59) (v := ?_) (a' := ?_) #[true, true, true, true, true, true, true, true, true, true, true, true, true, true, true, true, true, true, true, true, true, true, false, false, false, false, false, false, false, false, false, false, false, false, false, false, false, false] rfl rfl (any_of HT_.out (by kernel_rfl)) (fun _ _ _ h => h) (Or.inl ⟨by rfl, ?_⟩) ?_ ?_
        rotate_left
        ·intro w'
         go_simp
         with_reducible rfl
        rotate_left
        ·simp only [Act.put, Z3, Z4, Z5, i64_w, i32_w]
         rfl
        refine pure_ (i := 22) (N := some 60) (v := ?_) (a' := ?_) #[true, true, true, true, true, true, true, true, true, true, true, true, true, true, true, true, true, true, true, true, true, true, true, false, false, false, false, false, false, false, false, false, false, false, false, false, false, false] rfl rfl (any_of HT_.out (by kernel_rfl)) (fun _ _ _ h => h) (Or.inl ⟨by rfl, ?_⟩) ?_ ?_
        rotate_left
        ·intro w'
         go_simp
         with_reducible rfl
        rotate_left
        ·simp only [Act.put, Z3, Z4, Z5, i64_w, i32_w]
         rfl
        refine pure_ (i := 23) (N := some 61) (v := ?_) (a' := ?_) #[true, true, true, true, true, true, true, true, true, true, true, true, true, true, true, true, true, true, true, true, true, true, true, true, false, false, false, false, false, false, false, false, false, false, false, false, false, false] rfl rfl (any_of HT_.out (by kernel_rfl)) (fun _ _ _ h => h) (Or.inl ⟨by rfl, ?_⟩) ?_ ?_
        rotate_left
        ·intro w'
         go_simp
         with_reducible rfl
        rotate_left
        ·simp only [Act.put, Z3, Z4, Z5, i64_w, i32_w]
         rfl
        refine pure_ (i := 24) (N := some 62) (v := ?_) (a' := ?_) #[true, true, true, true, true, true, true, true, true, true, true, true, true, true, true, true, true, true, true, true, true, true, true, true, true, false, false, false, false, false, false, false, false, false, false, false, false, false] rfl rfl (any_of HT_.out (by kernel_rfl)) (fun _ _ _ h => h) (Or.inl ⟨by rfl, ?_⟩) ?_ ?_
        rotate_left
        ·intro w'
         go_simp
         with_reducible rfl
        rotate_left
        ·simp only [Act.put, Z3, Z4, Z5, i64_w, i32_w]
         rfl
        refine pure_ (i := 25) (N := some 63) (v := ?_) (a' := ?_) #[true, true, true, true, true, true, true, true, true, true, true, true, true, true, true, true, true, true, true, true, true, true, true, true, true, true, false, false, false, false, false, false, false, false, false, false, false, false] rfl rfl (any_of HT_.out (by kernel_rfl)) (fun _ _ _ h => h) (Or.inl ⟨by rfl, ?_⟩) ?_ ?_
        rotate_left
        ·intro w'
         go_simp
         with_reducible rfl
        rotate_left
        ·simp only [Act.put, Z3, Z4, Z5, i64_w, i32_w]
         rfl
        refine pure_ (i := 26) (N := some 64) (v := ?_) (a' := ?_) #[true, true, true, true, true, true, true, true, true, true, true, true, true, true, true, true, true, true, true, true, true, true, true, true, true, true, true, false, false, false, false, false, false, false, false, false, false, false] rfl rfl (any_of HT_.out (by kernel_rfl)) (fun _ _ _ h => h) (Or.inl ⟨by rfl, ?_⟩) ?_ ?_
        rotate_left
        ·intro w'
         go_simp
         with_reducible rfl
        rotate_left
        ·simp only [Act.put, Z3, Z4, Z5, i64_w, i32_w]
         rfl
        refine one_ (i := 27) (N := some 65) #[true, true, true, true, true, true, true, true, true, true, true, true, true, true, true, true, true, true, true, true, true, true, true, true, true, true, true, true, false, false, false, false, false, false, false, false, false, false] rfl rfl (one_of HT_.out (by kernel_rfl)) (by decide) (fun K hK => ?_)
        refine goes_ Tryz.func38 (by kernel_rfl) rfl #[.slice Ao57 t388.length co57, .slice Ao58 t392.length co58] (by rfl) rfl rfl V1 ?_
        with_reducible refine (cabinetryref01_SameInts.calls k _ _ t388 _ _ t392 false _ ?side1 ?side2 ?side3 ?side4 A33.out).mono ?_
        (case side1 => repeat (first | exact (Kd.R_reads' HO391.out).2.2 | (with_reducible refine Kd.C_alloc ?_ _) | (with_reducible refine Kd.C_drewN ?_ _) | (with_reducible refine Kd.C_drew ?_)))
        (case side2 => exact (Kd.R_reads' HO391.out).2.1)
        (case side3 => repeat (first | exact (Kd.R_reads' HO395.out).2.2 | (with_reducible refine Kd.C_alloc ?_ _) | (with_reducible refine Kd.C_drewN ?_ _) | (with_reducible refine Kd.C_drew ?_)))
        (case side4 => exact (Kd.R_reads' HO395.out).2.1)
        rintro e w' ⟨rfl, ⟨nd, rfl⟩⟩
        refine ⟨_, rfl, ?_⟩
        refine hK.out _ _ ⟨(Z2 BK381.out 0).trans rfl, (Z2 BK381.out 1).trans rfl, (Z2 BK381.out 2).trans rfl⟩ (fun hHeld => ?_)
        clear hK K
        refine norm_ (a' := ?_) ?_ ?_
        rotate_left
        ·show Act.put _ (some 65) _ = _
         simp only [Act.put, Z3, Z4, Z5, i64_w, i32_w]
         rfl
        refine pure_ (i := 28) (N := some 66) (v := ?_) (a' := ?_) #[true, true, true, true, true, true, true, true, true, true, true, true, true, true, true, true, true, true, true, true, true, true, true, true, true, true, true, true, true, false, false, false, false, false, false, false, false, false] rfl rfl (any_of HT_.out (by kernel_rfl)) (fun _ _ _ h => h) (Or.inl ⟨by rfl, ?_⟩) ?_ ?_
        rotate_left
        ·intro w'
         go_simp
         with_reducible rfl
        rotate_left
        ·simp only [Act.put, Z3, Z4, Z5, i64_w, i32_w]
         rfl
        refine pure_ (i := 29) (N := some 67) (v := ?_) (a' := ?_) #[true, true, true, true, true, true, true, true, true, true, true, true, true, true, true, true, true, true, true, true, true, true, true, true, true, true, true, true, true, true, false, false, false, false, false, false, false, false] rfl rfl (any_of HT_.out (by kernel_rfl)) (fun _ _ _ h => h) (Or.inl ⟨by rfl, ?_⟩) ?_ ?_
        rotate_left
        ·intro w'
         go_simp
         with_reducible rfl
        rotate_left
        ·simp only [Act.put, Z3, Z4, Z5, i64_w, i32_w]
         rfl
        refine pure_ (i := 30) (N := some 68) (v := undef) (a' := ?_) #[true, true, true, true, true, true, true, true, true, true, true, true, true, true, true, true, true, true, true, true, true, true, true, true, true, true, true, true, true, true, true, false, false, false, false, false, false, false] rfl rfl (any_of HT_.out (by kernel_rfl)) (fun _ _ _ h => h) (Or.inr ⟨by rfl, rfl⟩) ?_ ?_
        rotate_left
        ·simp only [Act.put, Z3, Z4, Z5, i64_w, i32_w]
         rfl
        refine pure_ (i := 31) (N := some 69) (v := undef) (a' := ?_) #[true, true, true, true, true, true, true, true, true, true, true, true, true, true, true, true, true, true, true, true, true, true, true, true, true, true, true, true, true, true, true, true, false, false, false, false, false, false] rfl rfl (any_of HT_.out (by kernel_rfl)) (fun _ _ _ h => h) (Or.inr ⟨by rfl, rfl⟩) ?_ ?_
        rotate_left
        ·simp only [Act.put, Z3, Z4, Z5, i64_w, i32_w]
         rfl
        refine pure_ (i := 32) (N := some 70) (v := undef) (a' := ?_) #[true, true, true, true, true, true, true, true, true, true, true, true, true, true, true, true, true, true, true, true, true, true, true, true, true, true, true, true, true, true, true, true, true, false, false, false, false, false] rfl rfl (any_of HT_.out (by kernel_rfl)) (fun _ _ _ h => h) (Or.inr ⟨by rfl, rfl⟩) ?_ ?_
        rotate_left
        ·simp only [Act.put, Z3, Z4, Z5, i64_w, i32_w]
         rfl
        refine pure_ (i := 33) (N := some 71) (v := ?_) (a' := ?_) #[true, true, true, true, true, true, true, true, true, true, true, true, true, true, true, true, true, true, true, true, true, true, true, true, true, true, true, true, true, true, true, true, true, true, false, false, false, false] rfl rfl (any_of HT_.out (by kernel_rfl)) (fun _ _ _ h => h) (Or.inl ⟨by rfl, ?_⟩) ?_ ?_
        rotate_left
        ·intro w'
         go_simp
         with_reducible rfl
        rotate_left
        ·simp only [Act.put, Z3, Z4, Z5, i64_w, i32_w]
         rfl
        refine pure_ (i := 34) (N := some 72) (v := ?_) (a' := ?_) #[true, true, true, true, true, true, true, true, true, true, true, true, true, true, true, true, true, true, true, true, true, true, true, true, true, true, true, true, true, true, true, true, true, true, true, false, false, false] rfl rfl (any_of HT_.out (by kernel_rfl)) (fun _ _ _ h => h) (Or.inl ⟨by rfl, ?_⟩) ?_ ?_
        rotate_left
        ·intro w'
         go_simp
         with_reducible rfl
        rotate_left
        ·simp only [Act.put, Z3, Z4, Z5, i64_w, i32_w]
         rfl
        refine pure_ (i := 35) (N := some 73) (v := undef) (a' := ?_) #[true, true, true, true, true, true, true, true, true, true, true, true, true, true, true, true, true, true, true, true, true, true, true, true, true, true, true, true, true, true, true, true, true, true, true, true, false, false] rfl rfl (any_of HT_.out (by kernel_rfl)) (fun _ _ _ h => h) (Or.inr ⟨by rfl, rfl⟩) ?_ ?_
        rotate_left
        ·simp only [Act.put, Z3, Z4, Z5, i64_w, i32_w]
         rfl
        refine pure_ (i := 36) (N := some 74) (v := ?_) (a' := ?_) #[true, true, true, true, true, true, true, true, true, true, true, true, true, true, true, true, true, true, true, true, true, true, true, true, true, true, true, true, true, true, true, true, true, true, true, true, true, false] rfl rfl (any_of HT_.out (by kernel_rfl)) (fun _ _ _ h => h) (Or.inl ⟨by rfl, ?_⟩) ?_ ?_
        rotate_left
        ·intro w'
         go_simp
         with_reducible rfl
        rotate_left
        ·simp only [Act.put, Z3, Z4, Z5, i64_w, i32_w]
         rfl
        refine pure_ (i := 37) (N := some 2) (v := ?_) (a' := ?_) #[true, true, true, true, true, true, true, true, true, true, true, true, true, true, true, true, true, true, true, true, true, true, true, true, true, true, true, true, true, true, true, true, true, true, true, true, true, true] rfl rfl (any_of HT_.out (by kernel_rfl)) (fun _ _ _ h => h) (Or.inl ⟨by rfl, ?_⟩) ?_ ?_
        rotate_left
        ·intro w'
         go_simp
         with_reducible rfl
        rotate_left
        ·simp only [Act.put, Z3, Z4, Z5, i64_w, i32_w]
         rfl
        refine done_ (done_of HT_.out (by kernel_rfl)) ?_
        try go_wp2
        go_meet
        case rel => exact ⟨_, (false), V2, H', ⟨by first | omega | exact Nat.le_refl _⟩, ⟨by (with_reducible repeat (first | refine Z8 ?_ _ | refine Y1 ?_ | refine Z9 ?_ _)); exact BK381.out⟩, ⟨V0⟩⟩
      ·rw [if_neg c32] at H
       first | (exact absurd (H.trans (congrArg some HR_.out)) (by simp)) | (exact (cabinetrylaw03_TableValidates.j0_ne _ _ H (congrArg some HR_.out)).elim)
     ·rw [if_neg c31] at H
      first | (exact absurd (H.trans (congrArg some HR_.out)) (by simp)) | (exact (cabinetrylaw03_TableValidates.j0_ne _ _ H (congrArg some HR_.out)).elim)
    ·rw [if_neg c30] at H
     first | (exact absurd (H.trans (congrArg some HR_.out)) (by simp)) | (exact (cabinetrylaw03_TableValidates.j0_ne _ _ H (congrArg some HR_.out)).elim)
   ·rw [if_neg c27] at H
    first | (exact absurd (H.trans (congrArg some HR_.out)) (by simp)) | (exact (cabinetrylaw03_TableValidates.j0_ne _ _ H (congrArg some HR_.out)).elim)
  case rest =>
   clear HC13
   try clear c2
   try clear p2
   try clear c3
   try clear c27
   try clear c27b0
   try clear c27b1
   try clear c34
   try clear c35
   try clear c36
   try clear c37
   obtain ⟨kq, x2_12, rfl, HA, HJ12, BK381, HB⟩ := hcut
   cases kq with
   | zero => exact absurd HA.out (by simp [cabinetrylaw03_TableValidates.j0])
   | succ kj12 =>
    have H := HA.out
    clear HA
    simp only [cabinetrylaw03_TableValidates.j0] at H
    obtain rfl := Option.some.inj H
    go_wp2
    go_ret
    exact ⟨by first | rfl | (simp [errW_none, errW_some] <;> rfl) | (simp [*, errW_none, errW_some] <;> rfl), V0⟩
end Go.Proofs.YtldpdidlfbphcaaGreatDoor.P
end
section
namespace Go.Proofs.YtldpdidlfbphcaaGreatDoor.P
open Go.RowKit Go.Proofs.YtldpdidlfbphcaaGreatDoorW.PrintWords Go.Proofs.YtldpdidlfbphcaaGreatDoorW.PrintLast Go.Proofs.YtldpdidlfbphcaaGreatDoorW.PrintMore
def offs : List S23 → Int → List Int
 | [], _ => []
 | x :: r, a => a :: offs r (wrap64 (a + x.f2))
theorem offs_go (l : List S23) (hL : l.length ≤ 1048576) : ∀ (r : List S23) (i k : Nat) (acc : List Int) (a : Int), l.drop i = r → r.length < k → acc.length = i → table_Offsets.l0 k acc a l (l.length : Int) (i : Int) = some (acc ++ offs r a, 0)
 | [], i, k, acc, a, hd, hk, ha => by
  obtain ⟨m, rfl⟩ : ∃ m, k = m + 1 := ⟨k - 1, by simp at hk; omega⟩
  simp only [table_Offsets.l0]
  rw [if_neg (rd_end hd)]
  simp [offs]
 | x :: r, i, k, acc, a, hd, hk, ha => by
  obtain ⟨m, rfl⟩ : ∃ m, k = m + 1 := ⟨k - 1, by simp at hk; omega⟩
  obtain ⟨hlt, hx, hr, _⟩ := rd_drop hd
  simp only [table_Offsets.l0]
  rw [if_pos (by omega), if_pos (by omega), if_pos (by omega), if_pos (by omega), hx, wrapL hlt hL, offs_go l hL r (i + 1) m _ _ hr (by simp at hk; omega) (by simp [ha])]
  simp [offs]
theorem refOffs_go (l : List S23) (hL : l.length ≤ 1048576) : ∀ (r : List S23) (i k : Nat) (acc : List Int) (a : Int), l.drop i = r → r.length < k → acc.length = i → cabinetryref03_Offsets.l0 k l acc a (i : Int) = some (acc ++ offs r a, 0)
 | [], i, k, acc, a, hd, hk, ha => by
  obtain ⟨m, rfl⟩ : ∃ m, k = m + 1 := ⟨k - 1, by simp at hk; omega⟩
  simp only [cabinetryref03_Offsets.l0]
  rw [if_neg (rd_end hd)]
  simp [offs]
 | x :: r, i, k, acc, a, hd, hk, ha => by
  obtain ⟨m, rfl⟩ : ∃ m, k = m + 1 := ⟨k - 1, by simp at hk; omega⟩
  obtain ⟨hlt, hx, hr, _⟩ := rd_drop hd
  simp only [cabinetryref03_Offsets.l0]
  rw [if_pos (by omega), if_pos (by omega), if_pos (by omega), hx, wrapL hlt hL, refOffs_go l hL r (i + 1) m _ _ hr (by simp at hk; omega) (by simp [ha])]
  simp [offs]
theorem offs_len : ∀ (l : List S23) (a : Int), (offs l a).length = l.length
 | [], _ => rfl
 | x :: r, a => by simp [offs, offs_len r]
theorem sameInts_go (l : List Int) (hL : l.length ≤ 1048576) : ∀ (n i k : Nat), i + n = l.length → n < k → cabinetryref01_SameInts.l0 k l l (i : Int) = some true
 | 0, i, k, h, hk => by
  obtain ⟨m, rfl⟩ : ∃ m, k = m + 1 := ⟨k - 1, by omega⟩
  simp only [cabinetryref01_SameInts.l0]
  rw [if_neg (by omega)]
 | n + 1, i, k, h, hk => by
  obtain ⟨m, rfl⟩ : ∃ m, k = m + 1 := ⟨k - 1, by omega⟩
  have hi : i < l.length := by omega
  simp only [cabinetryref01_SameInts.l0]
  rw [if_pos (by omega), if_pos (by omega), if_pos (by omega), if_pos trivial, wrapL hi hL]
  exact sameInts_go l hL n (i + 1) m (by omega) (by omega)
theorem sameInts_self (l : List Int) (hL : l.length ≤ 1048576) (k : Nat) (hk : l.length < k) : cabinetryref01_SameInts.f k l l = some true := by
 unfold cabinetryref01_SameInts.f
 rw [if_pos rfl]
 exact sameInts_go l hL l.length 0 k (by omega) hk
theorem TableValidates_pure (pg : Int) (fs : List S23) (rs : List S46) (h : smallF fs) (hr : smallR rs) (hz : ∀ y ∈ rs, ∀ v ∈ y.f1, v.f2.size ≤ 1048576) : ∃ k, cabinetrylaw03_TableValidates.f k pg fs rs = some true := by
 obtain ⟨K, hK⟩ := refVF_is fs h
 obtain ⟨K2, hK2⟩ := refValidateT_is pg fs rs h
 have hL := h.1
 obtain ⟨m, hm1, hm2, hm3⟩ : ∃ m : Nat, K ≤ m ∧ 3200001 ≤ m ∧ K2 ≤ m := ⟨K + K2 + 3200001, by omega, by omega, by omega⟩
 have hV : cabinetryref03_Validate.f (m + 1) pg fs rs = some (tableV pg fs rs) := hK2 (m + 1) (by omega)
 refine ⟨m + 1, ?_⟩
 unfold cabinetrylaw03_TableValidates.f cabinetrylaw03_over.f
 obtain ⟨r, hw⟩ := weight_some pg fs rs hL hr (m + 1) (by omega)
 rw [hw]
 simp only [Option.bind_some]
 split
 ·rfl
 ·have hv : table_ValidateFields.f fs = some (vfS fs) := by unfold table_ValidateFields.f; rw [if_pos (by omega)]
  have e1 : table_Length.f (m + 1) fs = some (if vfS fs = 0 then (lenS fs, 0) else (0, vfS fs)) := by
   unfold table_Length.f
   rw [hv]
   simp only [Option.bind_some]
   by_cases h0 : vfS fs = 0
   ·rw [if_pos h0, if_pos h0, length_is fs (by omega) (vfS_all h0).1 (m + 1) (by omega)]
    rfl
   ·rw [if_neg h0, if_neg h0]
  have e2 : cabinetryref03_Length.f (m + 1) fs = some (if vfS fs = 0 then (lenS fs, 0) else (0, vfS fs)) := by
   unfold cabinetryref03_Length.f
   rw [hK _ (by omega)]
   simp only [Option.bind_some]
   by_cases h0 : vfS fs = 0
   ·rw [if_pos h0, if_pos h0, ref_wide_is fs hL (vfS_all h0).1 (m + 1) (by omega)]
    rfl
   ·rw [if_neg h0, if_neg h0]
  have e3 : table_Offsets.f (m + 1) fs = some (if vfS fs = 0 then (offs fs (wrap64 (1 + (((nullsN fs + 7) / 8 : Nat) : Int))), 0) else ([], vfS fs)) := by
   unfold table_Offsets.f
   rw [hv]
   simp only [Option.bind_some]
   by_cases h0 : vfS fs = 0
   ·rw [if_pos h0, if_pos h0, nulls_is fs (by omega) (m + 1) (by omega)]
    simp only [Option.bind_some]
    exact offs_go fs hL fs 0 (m + 1) [] _ List.drop_zero (by omega) rfl
   ·rw [if_neg h0, if_neg h0]
  have e4 : cabinetryref03_Offsets.f (m + 1) fs = some (if vfS fs = 0 then (offs fs (wrap64 (1 + (((nullsN fs + 7) / 8 : Nat) : Int))), 0) else ([], vfS fs)) := by
   unfold cabinetryref03_Offsets.f
   rw [hK _ (by omega)]
   simp only [Option.bind_some]
   by_cases h0 : vfS fs = 0
   ·rw [if_pos h0, if_pos h0, ref_nulls_is fs hL (m + 1) (by omega)]
    simp only [Option.bind_some]
    exact refOffs_go fs hL fs 0 (m + 1) [] _ List.drop_zero (by omega) rfl
   ·rw [if_neg h0, if_neg h0]
  rw [e1, e2, e3, e4, validate_is pg fs rs hL (m + 1) (by omega), hV, hv, hK _ (by omega)]
  simp only [Option.bind_some]
  generalize hq : (if vfS fs = 0 then (lenS fs, (0 : Int)) else (0, vfS fs)) = q
  generalize hp : (if vfS fs = 0 then (offs fs (wrap64 (1 + (((nullsN fs + 7) / 8 : Nat) : Int))), (0 : Int)) else ([], vfS fs)) = p
  have hp2 : p.1.length ≤ 1048576 := by
   rw [← hp]
   split
   ·simp [offs_len, hL]
   ·simp
  rw [sameInts_self p.1 hp2 _ (by omega)]
  simp only [Option.bind_some, if_true]
  rfl
end Go.Proofs.YtldpdidlfbphcaaGreatDoor.P
end
section
namespace Go.Proofs.YtldpdidlfbphcaaGreatDoor.tableValidates
open Go.ChangeShapes Go.WideShapes Go.ChangeAt Go.RowKit
open Go.ChangeMaps (open_string shut_string)
def zargs : Array Value := #[.agg #[.int .i64 0, .slice none 0 0, .slice none 0 0]]
theorem laid_met (os : Os) : laidMet Tryz.prog Rows.tableValidatesUptoRow.laid ((R.laidWorld os).forCall (fun _ _ => 0) ⟨#[], zargs, []⟩).memory :=
 laidMet_of_run' 8 (by kernel_rfl) (by kernel_rfl)
theorem reads (os : Os) {H : Type} (enc : TypeId × Value → H) : ∃ places, DataW.whole enc Tryz.prog ((R.laidWorld os).forCall (fun _ _ => 0) ⟨#[], zargs, []⟩).memory Tryz.f6.params.toList Rows.tableValidatesSpec.vars false zargs.toList 8 = some ([.agg [.lit (.int .i64 0), .nil, .nil]], [], places) :=
 ⟨[], by kernel_rfl⟩
set_option maxRecDepth 100000 in
theorem contract (H : Type) (enc : TypeId × Value → H) (W : World) (base : Nat) (args : Array Value) (ds gs : List (DataW H)) (before : List MemPlace)
  (hval : ∀ (j : Nat) t v, Tryz.f6.params[j]? = some t → args[j]? = some v → Value.okWide Tryz.prog W .any base t v)
  (hW : DataW.Whole enc Tryz.prog Tryz.f6.params.toList Rows.tableValidatesSpec.vars false W args.toList ds gs before) (hk : Rows.uptoSmall H (ds ++ gs) = true) :
  Calls Tryz.prog 6 args W fun e W' => ∃ v, e = .returned v ∧ Rows.tableValidatesSpec.post enc Tryz.prog Tryz.f6 false true false false W args v W' := by
 have hbk : Rows.uptoBulkAll (ds ++ gs) ≤ 1048576 := of_decide_eq_true hk
 clear hk
 have hW' := hW
 obtain ⟨p, q, hA0, hV, rfl, hfz, hnd⟩ := hW
 have hA : DataW.TrodAll enc Tryz.prog W 0 (fun _ => true) true Tryz.f6.params.toList args.toList ds p := hA0
 rw [Tryz.params6] at hA hval
 obtain ⟨v0, vs0, d0, ds0, p0, q0, hargs, rfl, rfl, h0, r0⟩ := trodAll_cons hA
 obtain ⟨rfl, rfl, rfl⟩ := trodAll_nil r0
 obtain rfl : args = #[v0] := by cases args; simp_all
 obtain ⟨rfl, rfl⟩ := trodVars_none hV
 rw [List.append_nil] at hbk
 simp only [Rows.uptoBulkAll] at hbk
 have lt0 : ∀ x ∈ p0, x.block < W.heap.size := by obtain ⟨m, hm⟩ := h0; exact DataW.trod_lt m _ _ _ hm
 have k0 := h0
 obtain ⟨pg0, A0, c0, l0, B0, e0, m0, rfl, hc0, hC0, he0, hE0, hb0⟩ := R.open_table (hval 0 35 v0 rfl rfl) h0
 have sm0 := R.small_fields (xs := l0) (by omega)
 have sn0 := R.small_recs (ys := m0) (by omega)
 obtain ⟨k, hk⟩ := P.TableValidates_pure pg0 l0 m0 sm0 sn0.1 sn0.2
 refine (P.cabinetrylaw03_TableValidates.calls1 k pg0 _ _ l0 _ _ m0 true W rfl hC0 hc0 hE0 he0 hk).mono fun e W' ⟨he, bel⟩ => ?_
 subst he
 exact ⟨_, rfl, _, _, _, [], _, [], hW', trodAll_mk1 (shut_bool Tryz.underlying4 _), (trodAll_cons_mk (Below.trod R.laidOut (by kernel_rfl) (of_decide_eq_true (by kernel_rfl)) k0 bel lt0) trodAll_mk0), rfl, bel.frame _, fun h => by cases h⟩
set_option maxRecDepth 100000 in
theorem lifted (os : Os) (started : os.Started) (H : Type) (enc : TypeId × Value → H) (F : Stop.Interp) :
  ReturnsInHanded {} Tryz.checked os 6 .any ((Rows.OpenSpec.upto Rows.tableValidatesSpec).preRow enc Tryz.prog Tryz.f6 Rows.tableValidatesUptoRow.domain false Rows.tableValidatesUptoRow.laid) (((Rows.OpenSpec.upto Rows.tableValidatesSpec).at F).post enc Tryz.prog Tryz.f6 false true false false) := by
 obtain ⟨places, hx⟩ := reads os enc
 refine returnsInHanded_of_row (C := Tryz.checked) (s := Rows.OpenSpec.upto Rows.tableValidatesSpec) R.own started (by kernel_rfl) Tryz.func6
  (witness_row_at (enc := enc) (C := Tryz.checked) false (R.laidWorld os) zargs rfl (by kernel_rfl) (by kernel_rfl) (by kernel_rfl)
   (OpenSpec.preRow_of_cond 8 hx (by kernel_rfl) (fun k hk => by cases hk; kernel_rfl) (by kernel_rfl) (laid_met os))) ?_
 intro W base args ds gs before hval hW _ hcond _ hL _ _
 exact contract H enc W base args ds gs before hval hW (hcond _ rfl)
theorem said : Rows.TableValidatesUptoSaid :=
 OpenClaim.holds_of_cond 6 Tryz.f6 rfl rfl rfl rfl rfl rfl rfl ⟨rfl, rfl, rfl, rfl, rfl⟩ rfl rfl rfl rfl rfl (by kernel_rfl) Tryz.func6 (by kernel_rfl)
  (of_decide_eq_true (by kernel_rfl)) (by unfold Func.isWrapper; first | (rw [if_pos (by decide +kernel)]; kernel_rfl) | (rw [if_neg (by decide +kernel)]; exact ⟨rfl, rfl⟩))
  (fun os started H enc _ F => by rw [OpenClaim.pre_eq_preRow]; exact lifted os started H enc F)
theorem plain (f : FuncId) (fn : Func) (hf : Tryz.pinned.checked.prog.funcNamed "cabinetry/cabinetrylaw03.TableValidates" = some f) (hfn : Tryz.pinned.checked.prog.funcs[f]? = some fn) :
  false = Tryz.pinned.checked.prog.looks [] ∧ ∀ (j : Nat) t, fn.params[j]? = some t → Tryz.pinned.checked.prog.wantsStandIn t = false := by
 obtain rfl : f = 6 := Option.some.inj ((show Tryz.prog.funcNamed "cabinetry/cabinetrylaw03.TableValidates" = some 6 by kernel_rfl).symm.trans hf) |>.symm
 obtain rfl : fn = Tryz.f6 := (Option.some.inj (Tryz.func6.symm.trans hfn)).symm
 refine ⟨by kernel_rfl, fun j t ht => ?_⟩
 rw [Tryz.params6] at ht
 have hm := Array.mem_of_getElem? ht
 simp only [List.mem_toArray, List.mem_cons, List.not_mem_nil, or_false] at hm
 have hall : ∀ t, t = 35 → Tryz.prog.wantsStandIn t = false := by
  intro t h
  rcases h with rfl
  ·kernel_rfl
 rcases hm with rfl
 ·exact hall _ (by simp)
theorem card : Rows.TableValidatesUptoCardSaid :=
 Claim7.holds_tied_plain_at .later [] _ _ _ _ said (fun _ h => by cases h) (by kernel_rfl) (fun _ h => by cases h) tableValidatesUpto_row_tie rfl ⟨rfl, rfl⟩ (by kernel_rfl) rfl plain (by kernel_rfl)
#print axioms card
end Go.Proofs.YtldpdidlfbphcaaGreatDoor.tableValidates
namespace Go.Proofs.YtldpdidlfbphcaaGreatDoor
theorem tableValidates_card_holds : Rows.TableValidatesUptoCardSaid := tableValidates.card
end Go.Proofs.YtldpdidlfbphcaaGreatDoor
end
