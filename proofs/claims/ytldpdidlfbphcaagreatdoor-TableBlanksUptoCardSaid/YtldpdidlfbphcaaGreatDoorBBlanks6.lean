/- TableBlanks: where what the arguments read as is of bulk at most 1048576, the law returns true and leaves its arguments as they were. -/
import Derived.Test.YtldpdidlfbphcaaGreatDoorBBlanks5
import Derived.Test.YtldpdidlfbphcaaGreatDoorCards
import Derived.Test.YtldpdidlfbphcaaGreatDoorTie
set_option linter.unusedVariables false
set_option linter.unusedSimpArgs false
section
namespace Go.Proofs.YtldpdidlfbphcaaGreatDoor.P
open Go.RowKit Go.Proofs.YtldpdidlfbphcaaGreatDoorW.PrintWords Go.Proofs.YtldpdidlfbphcaaGreatDoorW.PrintLast Go.Proofs.YtldpdidlfbphcaaGreatDoorW.PrintMore
attribute [local go_sem] max2_int min2_int max_two min_two max_three min_three max_four min_four
theorem size23 : (Tryz.prog.info? 23).map (·.size) = some 4 := by kernel_rfl
theorem size25 : (Tryz.prog.info? 25).map (·.size) = some 3 := by kernel_rfl
theorem made_apart {W w1 : World} {b : Nat} {ok1 ok2 : Nat → Prop} {vo vf : Value} {x5 x6 : List Int} (h1 : Kd.R (Kd.int .u8) 5 W b ok1 vo x5) (h2 : Kd.R (Kd.int .u8) 5 w1 W.heap.size ok2 vf x6) : ∀ k, vo.ownBlock = some k → vf.ownBlock ≠ some k := by
 intro k hk hf
 have a := Kd.R_base h2 k hf
 have b := Kd.R_lt h1 k hk
 omega
theorem RowInv.start {w W w1 : World} {gr gB : Nat} {rc : Array Value} {vo vf : Value} {x5 x6 : List Int} (h1 : Kd.R (Kd.int .u8) 5 W w.heap.size (fun _ => True) vo x5) (h2 : Kd.R (Kd.int .u8) 5 W w.heap.size (fun _ => True) vf x6) (h3 : ∀ k, vo.ownBlock = some k → vf.ownBlock ≠ some k) (h4 : W.heap[gr]? = some (.cells rc 46 (0, 0))) (hB : Below w.heap.size w W)
  (hbox : w1.heap[gB]? = some (.cells #[.pointer none, .slice none 0 0] 126 (0, 0))) (hb : Below W.heap.size W w1) (hg : gB = W.heap.size) : RowInv w gr gB rc vo vf x5 x6 (⟨#[]⟩ : ByteArray) w1 := by
 subst hg
 refine ⟨?_, ?_, h3, Y1 h4 hb, blk_lt h4, hB.size, .inl ⟨Nat.le_refl _, _, hbox, ⟨rfl, .inl ⟨rfl, rfl⟩⟩, by simp [Value.ownBlock]⟩, Y0 hB hb⟩
 ·exact Kd.R_below (Kd.R_mono (Kd.R_bound h1) (fun _ hk => hk.2.2.1)) hb
 ·exact Kd.R_below (Kd.R_mono (Kd.R_bound h2) (fun _ hk => hk.2.2.1)) hb
theorem inv_open {w W : World} {gr gB : Nat} {rc : Array Value} {vo vf : Value} {x5 x6 : List Int} {X : ByteArray} (h : RowInv w gr gB rc vo vf x5 x6 X W) : ∃ W0 : World, Aside0 (RowInv w gr gB rc vo vf x5 x6 X W0) ∧ Aside0 (Below W0.heap.size W0 W) := ⟨W, ⟨h⟩, ⟨Below.refl _ _⟩⟩
theorem RowInv.args {w W : World} {gr gB : Nat} {rc : Array Value} {vo vf : Value} {x5 x6 : List Int} {X : ByteArray} (h : RowInv w gr gB rc vo vf x5 x6 X W) : Below w.heap.size w W := h.2.2.2.2.2.2.2
theorem RowInv.rec {w W : World} {gr gB : Nat} {rc : Array Value} {vo vf : Value} {x5 x6 : List Int} {X : ByteArray} (h : RowInv w gr gB rc vo vf x5 x6 X W) : W.heap[gr]? = some (.cells rc 46 (0, 0)) := h.2.2.2.1
theorem row_step {l0 : List S23} {l1 : List S25} {n : Nat} {x6 : List Int} {b : Int} {X : ByteArray} {r : List Int × ByteArray} {f : S23} (h : rowL (l0.drop n) (l1.drop n) x6 b X = some r) (hn : n < l0.length) (hf : l0.getD n z23 = f) :
  n < l1.length ∧ ∃ y6 p, rowFlag f (l1.getD n z25) x6 b = some y6 ∧ rowPart f (l1.getD n z25) = some p ∧ X.size + p.size ≤ 140737488355328 ∧ rowL (l0.drop (n + 1)) (l1.drop (n + 1)) y6 (rowBit f b) (X ++ p) = some r := by
 rw [List.drop_eq_getElem_cons hn] at h
 have e0 : l0.getD n z23 = l0[n] := by simp [List.getD, hn]
 by_cases h1 : n < l1.length
 ·have e1 : l1.getD n z25 = l1[n] := by simp [List.getD, h1]
  rw [List.drop_eq_getElem_cons h1] at h
  rw [e1]
  rw [e0] at hf
  subst hf
  refine ⟨h1, ?_⟩
  simp only [rowL] at h
  obtain ⟨y6, h2, h⟩ := Option.bind_eq_some_iff.mp h
  obtain ⟨p, h3, h⟩ := Option.bind_eq_some_iff.mp h
  split at h
  ·rename_i h4
   exact ⟨y6, p, h2, h3, h4, h⟩
  ·cases h
 ·have e2 : l1.drop n = [] := List.drop_eq_nil_of_le (by omega)
  rw [e2] at h
  simp only [rowL] at h
  cases h
theorem row_kept {w1 w2 : World} {b : Nat} {ok : Nat → Prop} {v : Value} {xs : List Int} {gB : Nat} (h : Kd.R (Kd.int .u8) 5 w1 b ok v xs) (ha : ∀ k, v.ownBlock = some k → ∀ u, w1.cell? ⟨gB, 1, none⟩ = some u → u.ownBlock ≠ some k) (ho : ∀ k o, w1.heap[k]? = some o → (∀ u, w1.cell? ⟨gB, 1, none⟩ = some u → u.ownBlock ≠ some k) → w2.heap[k]? = some o) : Kd.R (Kd.int .u8) 5 w2 b (fun _ => True) v xs := by
 refine Kd.R_mono (Kd.R_step (Kd.R_tight rfl h) (fun k hk hlt => ?_)) (fun _ _ => trivial)
 obtain ⟨o, he⟩ : ∃ o, w1.heap[k]? = some o := ⟨_, Array.getElem?_eq_getElem hlt⟩
 rw [he]
 exact ho k o he (ha k hk.symm)
def row_T13 : Bool × List (List Nat × List Nat) := (true, [([], []), ([], []), ([1], [1]), ([0, 2], [0, 2]), ([3], [3]), ([], []), ([5], [5]), ([6], [6]), ([4, 7], [4, 7]), ([0, 2, 0, 1, 2, 3, 4, 5, 6, 7, 8], [0, 2]), ([9, 8, 0, 1, 2, 3, 4, 5, 6, 7, 8], [8, 9])])
def row_B13 : List Nat := [0, 0, 2, 7, 15, 0, 32, 96, 255, 511, 1023]
theorem row_tab13 : rtab .any (opsOf Tryz.f63 13) = row_T13 := by kernel_rfl
theorem row_bits13 : waitsOk row_T13.2 row_B13 = true := by kernel_rfl
def row_T17 : Bool × List (List Nat × List Nat) := (true, [([],[]),([],[]),([1],[1]),([0,2],[0,2]),([3],[3]),([],[]),([],[]),([4,5,6,0],[4,5,6]),([7,7],[7])])
theorem row_tab17 : rtab .any (opsOf Tryz.f63 17) = row_T17 := by kernel_rfl
def row_B17 : List Nat := [0, 0, 2, 7, 15, 0, 0, 127, 255]
theorem row_bits17 : waitsOk row_T17.2 row_B17 = true := by kernel_rfl
set_option maxHeartbeats 16000000 in
set_option maxRecDepth 100000 in
theorem row_walk (A0 : Option Addr) (c0 : Nat) (l0 : List (S23)) (a1_0 : Bool) (A1 : Option Addr) (c1 : Nat) (l1 : List (S25)) (t : Int) (F : List Int) (Y : ByteArray) (w : World) (hr0 : Kd.C k23 w A0 l0.length l0) (hc0 : l0.length ≤ c0) (hr1 : Kd.C k25 w A1 l1.length l1) (hc1 : l1.length ≤ c1)
  (hA : table_nullBytes.f (l0.length + 2) l0 = some t) (ht0 : 0 ≤ t) (ht1 : t.toNat ≤ 281474976710656) (hL : rowL l0 l1 (List.replicate t.toNat 0) 0 (⟨#[]⟩ : ByteArray) = some (F, Y)) (hn : l0.length ≤ 1000000000) (hs : 1 + F.length + Y.size ≤ 140737488355328) (hyn : Y.size ≠ 0) :
  Calls Tryz.prog 63 #[.slice A0 l0.length c0, .agg #[.bool a1_0, .slice A1 l1.length c1]] w fun e w' => ∃ v0_ : Value, e = .returned (v0_) ∧ Kd.R (Kd.int .u8) 5 w' w.heap.size (fun _ => True) v0_ (([rowHead a1_0] : List Int) ++ F ++ bytesI Y) ∧ Below w.heap.size w w' := by
 have hu46 := Tryz.underlying46
 have hu25 := Tryz.underlying25
 have hu23 := Tryz.underlying23
 have HR0 := Z0 hr0
 have HC0 := Z0 hc0
 have HR1 := Z0 hr1
 have HC1 := Z0 hc1
 have AT := Z0 hA
 have T0 := Z0 ht0
 have T1 := Z0 ht1
 have AL := Z0 hL
 have HN := Z0 hn
 have HS := Z0 hs
 have HYN := Z0 hyn
 clear hr0 hc0 hr1 hc1 hA ht0 ht1 hL hn hs hyn
 have HB := Z0 (Below.refl w.heap.size w)
 go_enter Tryz.func63, Tryz.ntmps63
 go_upto_if 14 with (first | ((with_reducible refine X0 (N := 3) rfl ?_); refine Y9 ?hg (N := 3) ?hd (cs := #[.bool a1_0, .slice A1 l1.length c1]) (t := 46) ?hr ?_; (case hd => rfl); (case hg => rfl); (case hr => go_simp; try rfl); intro gr hg w4 hbox hb; have n0_ := Z0 (Y0 HB.out hb); have BKr := Z0 hbox; clear HB; have HB := n0_; clear n0_ hb hbox hg) | ((with_reducible refine X0 (N := 12) rfl ?_); refine Kd.R_lit (Kd.int .u8) _ 5 ?hg (N := 12) ?hd (xs := ([32] : List Int)) (inner := [.int .u8 32]) (ok := fun _ => True) (okp := fun _ => True) ?hr ?hp (fun _ hk => hk) trivial (Below.refl _ _) (Nat.le_refl _) (by simp) ?_; (case hd => rfl); (case hg => rfl); (case hr => go_simp; try rfl); (case hp => exact (Reps.one (show Kd.M (Kd.int .u8) _ _ _ 32 [.int .u8 32] from rfl) (Reps.none _ _))); intro vo w5 ho6 hb hg_ hnew_; clear hg_ hnew_; have HO := Z0 (Kd.R_lower ho6 (Y6 HB.out)); have n1_ := Z0 (Y1 BKr.out hb); have n2_ := Z0 (Y0 HB.out hb); clear BKr; clear HB; have BKr := n1_; have HB := n2_; clear n1_ n2_; clear hb ho6; have hcz0 : w5.cell? ⟨gr, 0, none⟩ = some (.bool a1_0) := (Z2 BKr.out 0).trans rfl; have hcz1 : w5.cell? ⟨gr, 1, none⟩ = some (.slice A1 l1.length c1) := (Z2 BKr.out 1).trans rfl; have hfz0 := Z1 BKr.out 0; have hfz1 := Z1 BKr.out 1))
 (try simp only [Act.put, Z3, Z5, Z6])
 go_cut [] (fun wc => ∃ x5 : List Int, Aside0 (x5 = [rowHead a1_0]) ∧ Aside0 (Kd.R (Kd.int .u8) 5 wc w.heap.size (fun _ => True) vo x5) ∧ Aside0 (wc.heap[gr]? = some (.cells #[.bool a1_0, .slice A1 l1.length c1] 46 (0, 0))) ∧ Aside0 (Below w.heap.size w wc))
 case first =>
  cases a1_0
  ·go_wp2
   go_meet
   case rel => exact ⟨[32], ⟨rfl⟩, HO, BKr, HB⟩
  ·obtain ⟨go10, co10, eo10, gb10, gl10, cl10, HG10⟩ := Kd.R_form HO.out (by simp)
   subst eo10
   have GB10 := Z0 gb10
   clear gb10 gl10 HG10
   obtain ⟨hx10, hf10⟩ := Kd.R_celln 0 HO.out (0 : Int) (by omega) (by simp)
   (try rw [show ((0 : Int)).toNat = 0 from rfl] at hx10 hf10)
   have HP11 := Kd.R_putg HO.out (0 : Int) 42
   go_wp2_with (first | ((with_reducible refine gate_store (t := 5) (p := 16) rfl ?_); refine store_event (t := 5) (p := 16) (v := ?vo_w12) (w1 := (w5.setCell ⟨go10, (0 : Int).toNat, none⟩ (.int .u8 42))) ?hg ?ho ?hn ?hr ?_; (case ho => rfl); (case hg => rfl); (case hn => rfl); (case hr => go_simp; try rfl); intro w12 hw; have hg : w5.grownBy w12 (some go10) := (by rw [hw]; exact HP11.2); have n1_ : Aside0 (Kd.R (Kd.int .u8) 5 w12 w.heap.size (fun _ => True) (.slice (some ⟨go10, 0, none⟩) [(32 : Int)].length co10) [42]) := ⟨by rw [hw]; exact HP11.1⟩; clear HP11; have n0_ := Z0 (blk_grown BKr.out hg (Kd.R_ne HO.out BKr.out (by decide))); have n2_ := Z0 ((by rw [hw]; exact Z8 (HB.out) GB10.out : Below w.heap.size w w12)); clear BKr; clear HO; clear HB; have BKr := n0_; have HO := n1_; have HB := n2_; clear n0_ n1_ n2_; clear hg hw))
   go_meet
   case rel => exact ⟨[42], ⟨rfl⟩, HO, BKr, HB⟩
 case rest =>
  try clear hcz0 hcz1 hfz0 hfz1
  clear HO BKr HB
  obtain ⟨x5, HX5, HO, BKr, HB⟩ := hcut
  go_wp2_with (first | ((with_reducible refine X1 (f := 71) rfl ?_); refine goesL_ (some 18) rfl rfl Tryz.func71 (by kernel_rfl) rfl #[.slice A0 l0.length c0] rfl (by (try simp only [Y2, Y7, Y8]); first | done | rfl) ?_; (with_reducible refine (table_nullBytes.calls (l0.length + 2) _ _ l0 t _ ?side1 ?side2 AT.out).mono ?_); (case side1 => exact (Kd.C_below HR0.out HB.out)); (case side2 => exact HC0.out); rintro e w16 ⟨rfl, hb⟩; refine ⟨_, rfl, ?_⟩; have n0_ := Z0 (Kd.R_below HO.out hb); have n1_ := Z0 (Y1 BKr.out hb); have n2_ := Z0 (Y0 HB.out hb); clear HO; clear BKr; clear HB; have HO := n0_; have BKr := n1_; have HB := n2_; clear n0_ n1_ n2_ hb) | ((with_reducible refine X0 (N := 19) rfl ?_); refine Kd.R_make (Kd.int .u8) _ 5 rfl (N := 19) rfl 37 _ _ rfl t rfl rfl Tryz.underlying37 (.int .u8 0) 1 info5 rfl (by decide) (by omega) 0 (ok := fun _ => True) (okp := fun _ => True) rfl (fun _ hk => hk) trivial (T0.out) (by have := T1.out; omega) (Below.refl _ _) (Nat.le_refl _) ?_; intro vf w17 ho18 hb hg_ hnew_; clear hg_ hnew_; have HAP := Z0 (made_apart HO.out ho18); have n0_ := Z0 (Kd.R_below HO.out hb); have HF := Z0 (Kd.R_lower ho18 (Y6 HB.out)); have n2_ := Z0 (Y1 BKr.out hb); have n3_ := Z0 (Y0 HB.out hb); clear HO; clear BKr; clear HB; have HO := n0_; have BKr := n2_; have HB := n3_; clear n0_ n2_ n3_; clear hb ho18) | ((with_reducible refine X0 (N := 7) rfl ?_); refine Y9 ?hg (N := 7) ?hd (cs := #[.pointer none, .slice none 0 0]) (t := 126) ?hr ?_; (case hd => rfl); (case hg => rfl); (case hr => go_simp; try rfl); intro gB hg w19 hbox hb; have HI := Z0 (RowInv.start HO.out HF.out HAP.out BKr.out HB.out hbox hb hg); clear HO HF HAP BKr HB hb hbox hg))
  go_loopg [8, 22] (l0.length + 1) (fun kq v8 v22 w' => ∃ (n : Nat) (x6 : List Int) (b : Int) (X : ByteArray), v8 = .int .i64 b ∧ v22 = .int .i64 (n : Int) ∧ Aside0 (rowL (l0.drop n) (l1.drop n) x6 b X = some (F, Y)) ∧ Aside0 (kq + n = l0.length + 1) ∧ Aside0 (n ≤ l0.length) ∧ Aside0 (RowInv w gr gB #[.bool a1_0, .slice A1 l1.length c1] vo vf x5 x6 X w'))
  case atStart => exact ⟨0, List.replicate t.toNat 0, 0, (⟨#[]⟩ : ByteArray), rfl, rfl, AL, ⟨by omega⟩, ⟨Nat.zero_le _⟩, HI⟩
  case round =>
   clear HI
   obtain ⟨n, x6, b, X, rfl, rfl, HA, HK, HNl, HI⟩ := hrel
   by_cases c3 : (n : Int) < (l0.length : Int)
   ·obtain ⟨f, hf⟩ : ∃ f, rd_T23 l0 (n : Int) = f := ⟨_, rfl⟩
    obtain ⟨hn1, y6, p, hfl, hpt, hsz, hL⟩ := row_step HA.out (Int.ofNat_lt.1 c3) hf
    obtain ⟨v, hv⟩ : ∃ v, rd_T25 l1 (n : Int) = v := ⟨_, rfl⟩
    have hv' : l1.getD n z25 = v := hv
    rw [hv'] at hfl hpt
    have c3b := decide_eq_true c3
    have p2 : (0 : Int) ≤ n := Int.natCast_nonneg _
    have c4 : (n : Int) < (l1.length : Int) := Int.ofNat_lt.2 hn1
    have c4b := decide_eq_true c4
    obtain ⟨ad, ea, hx0, hx1, hx2, hx3⟩ := at_T23 HR0.out (n : Int) p2 c3
    cases ea
    obtain ⟨ad1, ea, hy0, hy1, hy2⟩ := at_T25 HR1.out (n : Int) p2 c4
    cases ea
    rw [hf] at hx0 hx1 hx2 hx3
    rw [hv] at hy0 hy1 hy2
    rw [Int.toNat_natCast] at hx0 hx1 hx2 hx3 hy0 hy1 hy2
    have HY0 := Z0 hy0
    have HY1 := Z0 hy1
    have HY2 := Z0 hy2
    have HBW := Z0 HI.out.args
    replace hx0 := (HBW.out.cell (World.block_lt_of_cell? w _ hx0)).trans hx0
    replace hx1 := (HBW.out.cell (World.block_lt_of_cell? w _ hx1)).trans hx1
    replace hx2 := (HBW.out.cell (World.block_lt_of_cell? w _ hx2)).trans hx2
    replace hx3 := (HBW.out.cell (World.block_lt_of_cell? w _ hx3)).trans hx3
    have hw : wrap64 ((n : Int) + 1) = ((n + 1 : Nat) : Int) := by
     have := HN.out
     have e : ((n : Int) + 1) = ((n + 1 : Nat) : Int) := by omega
     rw [e]; exact (show wrap64 ((n + 1 : Nat) : Int) = _ by have := Int.ofNat_lt.1 c3; unfold wrap64; omega)
    have HFL := Z0 hfl
    have HPT := Z0 hpt
    have HSZ := Z0 hsz
    have HL := Z0 hL
    have HN1 := Z0 (Int.ofNat_lt.1 c3)
    have HWR := Z0 hw
    clear hw hf hv hv' hn1 hfl hpt hsz hL hy0 hy1 hy2 HA HBW
    obtain ⟨W0, HI, HW⟩ := inv_open HI.out
    obtain ⟨Ao, co, eo⟩ := Kd.R_slice HI.out.2.1
    subst eo
    obtain ⟨s0, s1, s2, s3⟩ := f
    obtain ⟨v0, v1, v2⟩ := v
    simp only at hx0 hx1 hx2 hx3 HY0 HY1 HY2
    have hbit : ∀ q : Bool, s3 = q → rowBit ⟨s0, s1, s2, s3⟩ b = if q = true then wrap64 (b + 1) else b := fun q e => by subst e; rfl
    have HBIT := Z0 hbit
    clear hbit
    cases s3
    ·by_cases hz : v0 = 0
     ·subst hz
      have HREP : Aside0 (strings_Repeat.f (⟨#[32]⟩ : ByteArray) s2 = some p) := ⟨by have h_ := HPT.out; unfold rowPart at h_; rw [if_pos rfl] at h_; exact h_⟩
      have hy6 : x6 = y6 := by have h_ := HFL.out; unfold rowFlag at h_; simp only [if_neg (show ¬ (false = true) by decide)] at h_; exact Option.some.inj h_
      subst hy6
      clear HFL
      go_wp2_with (first | ((with_reducible refine X0 (N := 10) rfl ?_); refine Y9 ?hg (N := 10) ?hd (cs := #[.string (⟨#[]⟩ : ByteArray), .int .i64 0, .int .i64 0, .bool false]) (t := 23) ?hr ?_; (case hd => rfl); (case hg => rfl); (case hr => go_simp; try rfl); intro gf hg w25 hbox hb; have GEf : Aside0 (W0.heap.size ≤ gf) := ⟨by rw [hg]; exact HW.out.size⟩; have n0_ := Z0 (Y0 HW.out hb); have BKf := Z0 hbox; clear HW; have HW := n0_; clear n0_ hb hbox hg; clear hx0 hx1 hx2 hx3; (try clear c3b)) | ((with_reducible refine gate_store (t := 23) (p := 10) rfl ?_); refine store_box ?hg (ty := 23) (p := 10) (y := .tmp 26) ?ho ?hd gf (cells := #[.string s0, .int .i64 s1, .int .i64 s2, .bool false]) (old := #[.string (⟨#[]⟩ : ByteArray), .int .i64 0, .int .i64 0, .bool false]) (t := 23) ?hx ?hy ?hgg ?hi ?hold ?h1 ?_; (case ho => rfl); (case hg => rfl); (case hd => rfl); (case hx => rfl); (case hy => rfl); (case hgg => exact BKf.out); (case hi => exact size23); (case hold => rfl); (case h1 => simp [Value.oneCell']); intro w26 hbk hbel hoth; have n0_ := Z0 (hbel _ _ HW.out GEf.out); have n1_ := Z0 hbk; clear HW; clear BKf; have HW := n0_; have BKf := n1_; clear n0_ n1_ hbk hbel hoth; have hr0 : w26.cell? ⟨gr, 0, none⟩ = some (.bool a1_0) := (Z2 (Y1 HI.out.rec HW.out) 0).trans rfl; have hr1 : w26.cell? ⟨gr, 1, none⟩ = some (.slice (some ad1) l1.length c1) := (Z2 (Y1 HI.out.rec HW.out) 1).trans rfl; have HBW := Z0 (Y0 HI.out.args HW.out); have hy0 := (HBW.out.cell (World.block_lt_of_cell? w _ HY0.out)).trans HY0.out; have hy1 := (HBW.out.cell (World.block_lt_of_cell? w _ HY1.out)).trans HY1.out; have hy2 := (HBW.out.cell (World.block_lt_of_cell? w _ HY2.out)).trans HY2.out; clear HBW) | ((with_reducible refine X0 (N := 11) rfl ?_); refine Y9 ?hg (N := 11) ?hd (cs := #[.int .i64 0, .int .i64 0, .string (⟨#[]⟩ : ByteArray)]) (t := 25) ?hr ?_; (case hd => rfl); (case hg => rfl); (case hr => go_simp; try rfl); intro gv hg w31 hbox hb; have GEv : Aside0 (W0.heap.size ≤ gv) := ⟨by rw [hg]; exact HW.out.size⟩; have NE : Aside0 (gf ≠ gv) := ⟨by rw [hg]; exact Nat.ne_of_lt (blk_lt BKf.out)⟩; have n0_ := Z0 (Y0 HW.out hb); have n1_ := Z0 (Y1 BKf.out hb); have BKv := Z0 hbox; clear HW; clear BKf; have HW := n0_; have BKf := n1_; clear n0_ n1_ hb hbox hg; clear hr0 hr1 hy0 hy1 hy2) | ((with_reducible refine gate_store (t := 25) (p := 11) rfl ?_); refine store_box ?hg (ty := 25) (p := 11) (y := .tmp 31) ?ho ?hd gv (cells := #[.int .i64 0, .int .i64 v1, .string v2]) (old := #[.int .i64 0, .int .i64 0, .string (⟨#[]⟩ : ByteArray)]) (t := 25) ?hx ?hy ?hgg ?hi ?hold ?h1 ?_; (case ho => rfl); (case hg => rfl); (case hd => rfl); (case hx => rfl); (case hy => rfl); (case hgg => exact BKv.out); (case hi => exact size25); (case hold => rfl); (case h1 => simp [Value.oneCell']); intro w32 hbk hbel hoth; have n0_ := Z0 (hbel _ _ HW.out GEv.out); have n1_ := Z0 hbk; have n2_ := Z0 ((hoth gf NE.out).trans BKf.out); clear HW; clear BKv; clear BKf; have HW := n0_; have BKv := n1_; have BKf := n2_; clear n0_ n1_ n2_ hbk hbel hoth; have kf0 : w32.cell? ⟨gf, 0, none⟩ = some (.string s0) := (Z2 BKf.out 0).trans rfl; have kf1 : w32.cell? ⟨gf, 1, none⟩ = some (.int .i64 s1) := (Z2 BKf.out 1).trans rfl; have kf2 : w32.cell? ⟨gf, 2, none⟩ = some (.int .i64 s2) := (Z2 BKf.out 2).trans rfl; have kf3 : w32.cell? ⟨gf, 3, none⟩ = some (.bool false) := (Z2 BKf.out 3).trans rfl; have kv0 : w32.cell? ⟨gv, 0, none⟩ = some (.int .i64 0) := (Z2 BKv.out 0).trans rfl; have kv1 : w32.cell? ⟨gv, 1, none⟩ = some (.int .i64 v1) := (Z2 BKv.out 1).trans rfl; have kv2 : w32.cell? ⟨gv, 2, none⟩ = some (.string v2) := (Z2 BKv.out 2).trans rfl) | ((with_reducible refine X1 (f := 99) rfl ?_); refine goesL_ (some 54) rfl rfl Tryz.func99 (by kernel_rfl) rfl #[.string (⟨#[32]⟩ : ByteArray), .int .i64 s2] rfl (by (try simp only [Y2, Y7, Y8]); first | done | rfl) ?_; (with_reducible refine (strings_Repeat.calls (⟨#[32]⟩ : ByteArray) s2 p _ HREP.out).mono ?_); rintro e w35 ⟨rfl, hb⟩; refine ⟨_, rfl, ?_⟩; have n0_ := Z0 (Y0 HW.out hb); clear HW; have HW := n0_; clear n0_ hb) | ((with_reducible refine X1 (f := 111) rfl ?_); refine goesL_ (some 55) rfl rfl Tryz.func111 (by kernel_rfl) rfl #[.pointer (some ⟨gB, 0, none⟩), .string p] rfl (by (try simp only [Y2, Y7, Y8]); first | done | rfl) ?_; have hbl := HI.out.2.2.2.2.2.2.1; (with_reducible refine (Builder_WriteString gB gB (Lib.byteCells X.data.toList) p _ ?hbl ?hlen ?hBw).mono ?_); (case hbl => exact isBuilder_below hbl HW.out); (case hlen => have := HSZ.out; rw [Lib.byteCells_length]; exact this); (case hBw => have h_ := isBuilder_lt (isBuilder_below hbl HW.out); omega); clear hbl; rintro e w40 ⟨rfl, hbld, hb⟩; refine ⟨_, rfl, ?_⟩; have n0_ := Z0 (RowInv.write (RowInv.below HI.out HW.out) hbld hb); clear HI; have HI := n0_; clear n0_ hbld hb HW BKf BKv; (try clear GEf GEv NE)))
      go_roundg (gk - 1)
      case measure => have := HK.out; have := HN1.out; omega
      case rel => exact ⟨n + 1, x6, b, X ++ p, rfl, by rw [HWR.out], ⟨by have h_ := HL.out; rw [HBIT.out false rfl] at h_; exact h_⟩, ⟨by have := HK.out; have := HN1.out; omega⟩, ⟨by have := HN1.out; omega⟩, HI⟩
     ·skip
      have HPT' : writeO ⟨s0, s1, s2, false⟩ ⟨v0, v1, v2⟩ = some p := by have h_ := HPT.out; unfold rowPart at h_; rw [if_neg hz] at h_; exact h_
      obtain ⟨kc, klo, khi, krf, KF, hkv, hke, hkc⟩ := write_any _ _ _ HPT'
      have HKV := Z0 hkv
      have HKE := Z0 hke
      have HKC := Z0 hkc
      clear HPT' hkv hke hkc
      have hfl : ∀ (a b c d e : Value) (W : World), (Instr.field 102 (.agg #[a, b, c, d, e]) 3).run Tryz.prog W = .ok d W := fun _ _ _ _ _ _ => by kernel_rfl
      have hz0 : (v0 == 0) = false := beq_eq_false_iff_ne.mpr hz
      have hz1 : (v0 != 0) = true := bne_iff_ne.mpr hz
      have HZ := Z0 hz
      clear hz
      have hy6 : x6 = y6 := by have h_ := HFL.out; unfold rowFlag at h_; simp only [if_neg (show ¬ (false = true) by decide)] at h_; exact Option.some.inj h_
      subst hy6
      clear HFL
      go_wp2_with (first | ((with_reducible refine X0 (N := 10) rfl ?_); refine Y9 ?hg (N := 10) ?hd (cs := #[.string (⟨#[]⟩ : ByteArray), .int .i64 0, .int .i64 0, .bool false]) (t := 23) ?hr ?_; (case hd => rfl); (case hg => rfl); (case hr => go_simp; try rfl); intro gf hg w25 hbox hb; have GEf : Aside0 (W0.heap.size ≤ gf) := ⟨by rw [hg]; exact HW.out.size⟩; have n0_ := Z0 (Y0 HW.out hb); have BKf := Z0 hbox; clear HW; have HW := n0_; clear n0_ hb hbox hg; clear hx0 hx1 hx2 hx3; (try clear c3b)) | ((with_reducible refine gate_store (t := 23) (p := 10) rfl ?_); refine store_box ?hg (ty := 23) (p := 10) (y := .tmp 26) ?ho ?hd gf (cells := #[.string s0, .int .i64 s1, .int .i64 s2, .bool false]) (old := #[.string (⟨#[]⟩ : ByteArray), .int .i64 0, .int .i64 0, .bool false]) (t := 23) ?hx ?hy ?hgg ?hi ?hold ?h1 ?_; (case ho => rfl); (case hg => rfl); (case hd => rfl); (case hx => rfl); (case hy => rfl); (case hgg => exact BKf.out); (case hi => exact size23); (case hold => rfl); (case h1 => simp [Value.oneCell']); intro w26 hbk hbel hoth; have n0_ := Z0 (hbel _ _ HW.out GEf.out); have n1_ := Z0 hbk; clear HW; clear BKf; have HW := n0_; have BKf := n1_; clear n0_ n1_ hbk hbel hoth; have hr0 : w26.cell? ⟨gr, 0, none⟩ = some (.bool a1_0) := (Z2 (Y1 HI.out.rec HW.out) 0).trans rfl; have hr1 : w26.cell? ⟨gr, 1, none⟩ = some (.slice (some ad1) l1.length c1) := (Z2 (Y1 HI.out.rec HW.out) 1).trans rfl; have HBW := Z0 (Y0 HI.out.args HW.out); have hy0 := (HBW.out.cell (World.block_lt_of_cell? w _ HY0.out)).trans HY0.out; have hy1 := (HBW.out.cell (World.block_lt_of_cell? w _ HY1.out)).trans HY1.out; have hy2 := (HBW.out.cell (World.block_lt_of_cell? w _ HY2.out)).trans HY2.out; clear HBW) | ((with_reducible refine X0 (N := 11) rfl ?_); refine Y9 ?hg (N := 11) ?hd (cs := #[.int .i64 0, .int .i64 0, .string (⟨#[]⟩ : ByteArray)]) (t := 25) ?hr ?_; (case hd => rfl); (case hg => rfl); (case hr => go_simp; try rfl); intro gv hg w31 hbox hb; have GEv : Aside0 (W0.heap.size ≤ gv) := ⟨by rw [hg]; exact HW.out.size⟩; have NE : Aside0 (gf ≠ gv) := ⟨by rw [hg]; exact Nat.ne_of_lt (blk_lt BKf.out)⟩; have n0_ := Z0 (Y0 HW.out hb); have n1_ := Z0 (Y1 BKf.out hb); have BKv := Z0 hbox; clear HW; clear BKf; have HW := n0_; have BKf := n1_; clear n0_ n1_ hb hbox hg; clear hr0 hr1 hy0 hy1 hy2) | ((with_reducible refine gate_store (t := 25) (p := 11) rfl ?_); refine store_box ?hg (ty := 25) (p := 11) (y := .tmp 31) ?ho ?hd gv (cells := #[.int .i64 v0, .int .i64 v1, .string v2]) (old := #[.int .i64 0, .int .i64 0, .string (⟨#[]⟩ : ByteArray)]) (t := 25) ?hx ?hy ?hgg ?hi ?hold ?h1 ?_; (case ho => rfl); (case hg => rfl); (case hd => rfl); (case hx => rfl); (case hy => rfl); (case hgg => exact BKv.out); (case hi => exact size25); (case hold => rfl); (case h1 => simp [Value.oneCell']); intro w32 hbk hbel hoth; have n0_ := Z0 (hbel _ _ HW.out GEv.out); have n1_ := Z0 hbk; have n2_ := Z0 ((hoth gf NE.out).trans BKf.out); clear HW; clear BKv; clear BKf; have HW := n0_; have BKv := n1_; have BKf := n2_; clear n0_ n1_ n2_ hbk hbel hoth; have kf0 : w32.cell? ⟨gf, 0, none⟩ = some (.string s0) := (Z2 BKf.out 0).trans rfl; have kf1 : w32.cell? ⟨gf, 1, none⟩ = some (.int .i64 s1) := (Z2 BKf.out 1).trans rfl; have kf2 : w32.cell? ⟨gf, 2, none⟩ = some (.int .i64 s2) := (Z2 BKf.out 2).trans rfl; have kf3 : w32.cell? ⟨gf, 3, none⟩ = some (.bool false) := (Z2 BKf.out 3).trans rfl; have kv0 : w32.cell? ⟨gv, 0, none⟩ = some (.int .i64 v0) := (Z2 BKv.out 0).trans rfl; have kv1 : w32.cell? ⟨gv, 1, none⟩ = some (.int .i64 v1) := (Z2 BKv.out 1).trans rfl; have kv2 : w32.cell? ⟨gv, 2, none⟩ = some (.string v2) := (Z2 BKv.out 2).trans rfl))
      have n0_ := Z0 (Z9 HW.out)
      have n1_ := Z0 (Y5 BKf.out)
      have n2_ := Z0 (Y5 BKv.out)
      clear HW BKf BKv
      have HW := n0_
      have BKf := n1_
      have BKv := n2_
      clear n0_ n1_ n2_
      (try clear kf0 kf1 kf2 kf3)
      (try clear kv0 kv1 kv2)
      refine start_ (n := 9) (S := fun w' => w'.heap[gf]? = some (.cells #[.string s0, .int .i64 s1, .int .i64 s2, .bool false] 23 (0, 0)) ∧ w'.heap[gv]? = some (.cells #[.int .i64 v0, .int .i64 v1, .string v2] 25 (0, 0))) (ds := [8]) #[false, false, false, false, false, false, false, false, false] (by kernel_rfl) rfl rfl ⟨BKf.out, BKv.out⟩ (fun hHeld => ?_); refine with_tabW row_tab17 row_bits17 (fun HT_ HW_ => ?_)
      generalize w32.drew = w33 at HW BKf BKv hHeld ⊢
      refine pure_ (i := 1) (N := some 57) (v := ?_) (a' := ?_) #[false, true, false, false, false, false, false, false, false] rfl rfl (any_of HT_.out (by kernel_rfl)) (fun _ _ _ h => h) (Or.inl ⟨by rfl, ?_⟩) ?_ ?_
      rotate_left
      ·intro w'
       go_simp
       with_reducible rfl
      rotate_left
      ·simp only [Act.put, Z3, Z5, Z6, i64_w, i32_w]
       rfl
      refine take_ (i := 2) (N := some 58) (v := ?_) (a' := ?_) #[false, true, true, false, false, false, false, false, false] rfl rfl (take_ofW HT_.out HW_.out (by kernel_rfl)) (fun _ _ _ h => h) (Or.inl ⟨by rfl, ?_⟩) hHeld ?_ ?_
      rotate_left
      ·rintro w' ⟨s0_, s1_⟩
       have sc := (Z2 s0_ 1).trans rfl
       go_simp
       with_reducible rfl
      rotate_left
      ·simp only [Act.put, Z3, Z5, Z6, i64_w, i32_w]
       rfl
      refine take_ (i := 5) (N := some 61) (v := ?_) (a' := ?_) #[false, true, true, false, false, true, false, false, false] rfl rfl (take_ofW HT_.out HW_.out (by kernel_rfl)) (fun _ _ _ h => h) (Or.inl ⟨by rfl, ?_⟩) hHeld ?_ ?_
      rotate_left
      ·rintro w' ⟨s0_, s1_⟩
       have sc0 : w'.cell? ⟨gf, 0, none⟩ = some (.string s0) := (Z2 s0_ 0).trans rfl
       have sc1 : w'.cell? ⟨gf, 1, none⟩ = some (.int .i64 s1) := (Z2 s0_ 1).trans rfl
       have sc2 : w'.cell? ⟨gf, 2, none⟩ = some (.int .i64 s2) := (Z2 s0_ 2).trans rfl
       have sc3 : w'.cell? ⟨gf, 3, none⟩ = some (.bool false) := (Z2 s0_ 3).trans rfl
       go_simp
       with_reducible rfl
      rotate_left
      ·simp only [Act.put, Z3, Z5, Z6, i64_w, i32_w]
       rfl
      refine take_ (i := 6) (N := some 62) (v := ?_) (a' := ?_) #[false, true, true, false, false, true, true, false, false] rfl rfl (take_ofW HT_.out HW_.out (by kernel_rfl)) (fun _ _ _ h => h) (Or.inl ⟨by rfl, ?_⟩) hHeld ?_ ?_
      rotate_left
      ·rintro w' ⟨s0_, s1_⟩
       have sc0 : w'.cell? ⟨gv, 0, none⟩ = some (.int .i64 v0) := (Z2 s1_ 0).trans rfl
       have sc1 : w'.cell? ⟨gv, 1, none⟩ = some (.int .i64 v1) := (Z2 s1_ 1).trans rfl
       have sc2 : w'.cell? ⟨gv, 2, none⟩ = some (.string v2) := (Z2 s1_ 2).trans rfl
       go_simp
       with_reducible rfl
      rotate_left
      ·simp only [Act.put, Z3, Z5, Z6, i64_w, i32_w]
       rfl
      refine one_ (i := 0) (N := some 56) #[true, true, true, false, false, true, true, false, false] rfl rfl (one_of HT_.out (by kernel_rfl)) (by decide) (fun K hK => ?_)
      refine goes_ Tryz.func89 (by kernel_rfl) rfl #[] (by rfl) rfl rfl (by (try simp only [Y2, Y7, Y8]); first | done | rfl) ?_
      refine (table_kinds w33).mono ?_
      rintro e w34 ⟨rk, rfl, hkb, hb⟩
      refine ⟨_, rfl, ?_⟩
      have HKB := Z0 hkb
      clear hkb
      have n0_ := Z0 (Y0 HW.out hb)
      have n1_ := Z0 (Y1 BKf.out hb)
      have n2_ := Z0 (Y1 BKv.out hb)
      clear HW BKf BKv
      have HW := n0_
      have BKf := n1_
      have BKv := n2_
      clear n0_ n1_ n2_ hb
      refine hK.out _ _ ⟨BKf.out, BKv.out⟩ (fun hHeld => ?_)
      clear hK K
      refine norm_ (a' := ?_) ?_ ?_
      rotate_left
      ·show Act.put _ (some 56) _ = _
       simp only [Act.put, Z3, Z5, Z6, i64_w, i32_w]
       rfl
      refine one_ (i := 3) (N := some 59) #[true, true, true, true, false, true, true, false, false] rfl rfl (one_of HT_.out (by kernel_rfl)) (by decide) (fun K hK => ?_)
      have hlk := run_look' w34 rk HKB.out _ _ HKV.out
      refine event_step (v := .agg #[kc, klo, khi, .func (.func KF) #[] #[], krf]) (w1 := w34) rfl (by first | (go_simp; done) | (go_simp; rfl) | (go_simp; exact ⟨rfl, rfl⟩)) ?_
      refine hK.out _ _ ⟨BKf.out, BKv.out⟩ (fun hHeld => ?_)
      clear hK K
      refine norm_ (a' := ?_) ?_ ?_
      rotate_left
      ·show Act.put _ (some 59) _ = _
       simp only [Act.put, Z3, Z5, Z6, i64_w, i32_w]
       rfl
      clear hlk
      refine one_ (i := 4) (N := some 60) #[true, true, true, true, true, true, true, false, false] rfl rfl (one_of HT_.out (by kernel_rfl)) (by decide) (fun K hK => ?_)
      refine event_step (v := .func (.func KF) #[] #[]) (w1 := w34) rfl (by first | (go_simp; done) | (go_simp; rfl) | (go_simp; exact ⟨rfl, rfl⟩)) ?_
      refine hK.out _ _ ⟨BKf.out, BKv.out⟩ (fun hHeld => ?_)
      clear hK K
      refine norm_ (a' := ?_) ?_ ?_
      rotate_left
      ·show Act.put _ (some 60) _ = _
       simp only [Act.put, Z3, Z5, Z6, i64_w, i32_w]
       rfl
      refine one_ (i := 7) (N := some 63) #[true, true, true, true, true, true, true, true, false] rfl rfl (one_of HT_.out (by kernel_rfl)) (by decide) (fun K hK => ?_)
      refine goesV_ (f := KF) (x := 60) HKE.out #[.agg #[.string s0, .int .i64 s1, .int .i64 s2, .bool false], .agg #[.int .i64 v0, .int .i64 v1, .string v2]] (by rfl) rfl rfl (by rfl) (by (try simp only [Y2, Y7, Y8]); first | done | rfl) ?_
      refine (HKC.out w34).mono ?_
      rintro e w35 ⟨rfl, hb⟩
      refine ⟨_, rfl, ?_⟩
      have n0_ := Z0 (Y0 HW.out hb)
      have n1_ := Z0 (Y1 BKf.out hb)
      have n2_ := Z0 (Y1 BKv.out hb)
      clear HW BKf BKv
      have HW := n0_
      have BKf := n1_
      have BKv := n2_
      clear n0_ n1_ n2_ hb
      refine hK.out _ _ ⟨BKf.out, BKv.out⟩ (fun hHeld => ?_)
      clear hK K
      refine norm_ (a' := ?_) ?_ ?_
      rotate_left
      ·show Act.put _ (some 63) _ = _
       simp only [Act.put, Z3, Z5, Z6, i64_w, i32_w]
       rfl
      refine last_ (i := 8) (N := some 64) #[true, true, true, true, true, true, true, true, true] rfl rfl (one_of HT_.out (by kernel_rfl)) (by decide) (fun K hK => ?_)
      refine goes_ Tryz.func111 (by kernel_rfl) rfl #[.pointer (some ⟨gB, 0, none⟩), .string p] (by rfl) rfl rfl (by (try simp only [Y2, Y7, Y8]); first | done | rfl) ?_
      have hbl := HI.out.2.2.2.2.2.2.1; (with_reducible refine (Builder_WriteString gB gB (Lib.byteCells X.data.toList) p _ ?hbl ?hlen ?hBw).mono ?_); (case hbl => exact isBuilder_below hbl HW.out); (case hlen => have := HSZ.out; rw [Lib.byteCells_length]; exact this); (case hBw => have h_ := isBuilder_lt (isBuilder_below hbl HW.out); omega); clear hbl; rintro e w40 ⟨rfl, hbld, hb⟩; refine ⟨_, rfl, ?_⟩; have n0_ := Z0 (RowInv.write (RowInv.below HI.out HW.out) hbld hb); clear HI; have HI := n0_; clear n0_ hbld hb HW BKf BKv; (try clear GEf GEv NE)
      refine hK.out _ _ ?_
      clear hK K
      refine norm_ (a' := ?_) ?_ ?_
      rotate_left
      ·show Act.put _ (some 64) _ = _
       simp only [Act.put, Z3, Z5, Z6, i64_w, i32_w]
       rfl
      refine done_ (done_of HT_.out (by kernel_rfl)) ?_
      clear hHeld HT_ HW_ hfl HKV HKB HKE HKC
      go_wp2
      go_roundg (gk - 1)
      case measure => have := HK.out; have := HN1.out; omega
      case rel => exact ⟨n + 1, x6, b, X ++ p, rfl, by rw [HWR.out], ⟨by have h_ := HL.out; rw [HBIT.out false rfl] at h_; exact h_⟩, ⟨by have := HK.out; have := HN1.out; omega⟩, ⟨by have := HN1.out; omega⟩, HI⟩
    ·by_cases hz : v0 = 0
     ·subst hz
      have HREP : Aside0 (strings_Repeat.f (⟨#[32]⟩ : ByteArray) s2 = some p) := ⟨by have h_ := HPT.out; unfold rowPart at h_; rw [if_pos rfl] at h_; exact h_⟩
      go_wp2_with (first | ((with_reducible refine X0 (N := 10) rfl ?_); refine Y9 ?hg (N := 10) ?hd (cs := #[.string (⟨#[]⟩ : ByteArray), .int .i64 0, .int .i64 0, .bool false]) (t := 23) ?hr ?_; (case hd => rfl); (case hg => rfl); (case hr => go_simp; try rfl); intro gf hg w25 hbox hb; have GEf : Aside0 (W0.heap.size ≤ gf) := ⟨by rw [hg]; exact HW.out.size⟩; have n0_ := Z0 (Y0 HW.out hb); have BKf := Z0 hbox; clear HW; have HW := n0_; clear n0_ hb hbox hg; clear hx0 hx1 hx2 hx3; (try clear c3b)) | ((with_reducible refine gate_store (t := 23) (p := 10) rfl ?_); refine store_box ?hg (ty := 23) (p := 10) (y := .tmp 26) ?ho ?hd gf (cells := #[.string s0, .int .i64 s1, .int .i64 s2, .bool true]) (old := #[.string (⟨#[]⟩ : ByteArray), .int .i64 0, .int .i64 0, .bool false]) (t := 23) ?hx ?hy ?hgg ?hi ?hold ?h1 ?_; (case ho => rfl); (case hg => rfl); (case hd => rfl); (case hx => rfl); (case hy => rfl); (case hgg => exact BKf.out); (case hi => exact size23); (case hold => rfl); (case h1 => simp [Value.oneCell']); intro w26 hbk hbel hoth; have n0_ := Z0 (hbel _ _ HW.out GEf.out); have n1_ := Z0 hbk; clear HW; clear BKf; have HW := n0_; have BKf := n1_; clear n0_ n1_ hbk hbel hoth; have hr0 : w26.cell? ⟨gr, 0, none⟩ = some (.bool a1_0) := (Z2 (Y1 HI.out.rec HW.out) 0).trans rfl; have hr1 : w26.cell? ⟨gr, 1, none⟩ = some (.slice (some ad1) l1.length c1) := (Z2 (Y1 HI.out.rec HW.out) 1).trans rfl; have HBW := Z0 (Y0 HI.out.args HW.out); have hy0 := (HBW.out.cell (World.block_lt_of_cell? w _ HY0.out)).trans HY0.out; have hy1 := (HBW.out.cell (World.block_lt_of_cell? w _ HY1.out)).trans HY1.out; have hy2 := (HBW.out.cell (World.block_lt_of_cell? w _ HY2.out)).trans HY2.out; clear HBW) | ((with_reducible refine X0 (N := 11) rfl ?_); refine Y9 ?hg (N := 11) ?hd (cs := #[.int .i64 0, .int .i64 0, .string (⟨#[]⟩ : ByteArray)]) (t := 25) ?hr ?_; (case hd => rfl); (case hg => rfl); (case hr => go_simp; try rfl); intro gv hg w31 hbox hb; have GEv : Aside0 (W0.heap.size ≤ gv) := ⟨by rw [hg]; exact HW.out.size⟩; have NE : Aside0 (gf ≠ gv) := ⟨by rw [hg]; exact Nat.ne_of_lt (blk_lt BKf.out)⟩; have n0_ := Z0 (Y0 HW.out hb); have n1_ := Z0 (Y1 BKf.out hb); have BKv := Z0 hbox; clear HW; clear BKf; have HW := n0_; have BKf := n1_; clear n0_ n1_ hb hbox hg; clear hr0 hr1 hy0 hy1 hy2) | ((with_reducible refine gate_store (t := 25) (p := 11) rfl ?_); refine store_box ?hg (ty := 25) (p := 11) (y := .tmp 31) ?ho ?hd gv (cells := #[.int .i64 0, .int .i64 v1, .string v2]) (old := #[.int .i64 0, .int .i64 0, .string (⟨#[]⟩ : ByteArray)]) (t := 25) ?hx ?hy ?hgg ?hi ?hold ?h1 ?_; (case ho => rfl); (case hg => rfl); (case hd => rfl); (case hx => rfl); (case hy => rfl); (case hgg => exact BKv.out); (case hi => exact size25); (case hold => rfl); (case h1 => simp [Value.oneCell']); intro w32 hbk hbel hoth; have n0_ := Z0 (hbel _ _ HW.out GEv.out); have n1_ := Z0 hbk; have n2_ := Z0 ((hoth gf NE.out).trans BKf.out); clear HW; clear BKv; clear BKf; have HW := n0_; have BKv := n1_; have BKf := n2_; clear n0_ n1_ n2_ hbk hbel hoth; have kf0 : w32.cell? ⟨gf, 0, none⟩ = some (.string s0) := (Z2 BKf.out 0).trans rfl; have kf1 : w32.cell? ⟨gf, 1, none⟩ = some (.int .i64 s1) := (Z2 BKf.out 1).trans rfl; have kf2 : w32.cell? ⟨gf, 2, none⟩ = some (.int .i64 s2) := (Z2 BKf.out 2).trans rfl; have kf3 : w32.cell? ⟨gf, 3, none⟩ = some (.bool true) := (Z2 BKf.out 3).trans rfl; have kv0 : w32.cell? ⟨gv, 0, none⟩ = some (.int .i64 0) := (Z2 BKv.out 0).trans rfl; have kv1 : w32.cell? ⟨gv, 1, none⟩ = some (.int .i64 v1) := (Z2 BKv.out 1).trans rfl; have kv2 : w32.cell? ⟨gv, 2, none⟩ = some (.string v2) := (Z2 BKv.out 2).trans rfl))
      obtain ⟨ji, hji⟩ : ∃ j_ : Int, (wrap64 (Int.tdiv b 8)) = j_ := ⟨_, rfl⟩
      obtain ⟨jm, hjm⟩ : ∃ j_ : Int, (Int.tmod b 8) = j_ := ⟨_, rfl⟩
      obtain ⟨js, hjs⟩ : ∃ j_ : Int, (shl .u8 1 jm) = j_ := ⟨_, rfl⟩
      have hq := HFL.out
      unfold rowFlag at hq
      simp only [if_true] at hq
      rw [hji, hjm, hjs] at hq
      have hp1 : 0 ≤ ji := by
       by_cases h_ : 0 ≤ ji
       ·exact h_
       ·rw [if_neg h_] at hq; cases hq
      rw [if_pos hp1] at hq
      have hp2 : ji < (x6.length : Int) := by
       by_cases h_ : ji < (x6.length : Int)
       ·exact h_
       ·rw [if_neg h_] at hq; cases hq
      rw [if_pos hp2] at hq
      have hp3 : 0 ≤ jm := by
       by_cases h_ : 0 ≤ jm
       ·exact h_
       ·rw [if_neg h_] at hq; cases hq
      rw [if_pos hp3] at hq
      have hy6 := Option.some.inj hq
      clear hq
      have HP1 := Z0 hp1
      have HP2 := Z0 hp2
      have HY6 := Z0 hy6
      clear hy6
      have c46b0 : decide (0 ≤ (ji)) = true := decide_eq_true hp1
      have c47b0 : decide ((ji) < (x6.length : Int)) = true := decide_eq_true hp2
      have c49b0 := eq_true hp3
      have c49b1 : decide (0 ≤ jm) = true := decide_eq_true hp3
      have hjiw : (IntKind.i64.wrap (Int.tdiv b 8)) = ji := (i64_w _).trans hji
      have hjs_ : (IntKind.u8.wrap (1 * 2 ^ min jm.toNat 8)) = js := hjs
      have hjsz : jm ≤ 8 → (IntKind.u8.wrap (1 * 2 ^ jm.toNat)) = js := shl_small hjs
      have hjsu : (IntKind.u8.wrap (2 ^ min jm.toNat 8)) = js := by have h_ := hjs_; rw [Int.one_mul] at h_; exact h_
      have hjsv : jm ≤ 8 → (IntKind.u8.wrap (2 ^ jm.toNat)) = js := fun hle_ => by have h_ := hjsz hle_; rw [Int.one_mul] at h_; exact h_
      clear hp1 hp2 hp3
      have n0_ := Z0 (RowInv.below (RowInv.below HI.out HW.out) (Z9 (Below.refl _ _)))
      have n1_ := Z0 (Y5 BKf.out)
      have n2_ := Z0 (Y5 BKv.out)
      clear HI HW BKf BKv GEf GEv NE
      have HI := n0_
      have BKf := n1_
      have BKv := n2_
      clear n0_ n1_ n2_
      (try clear kf0 kf1 kf2 kf3)
      (try clear kv0 kv1 kv2)
      obtain ⟨ad179, e179, hx179_0⟩ := Kd.at_int (Kd.R_reads' HI.out.2.1).2.2 ji HP1.out HP2.out
      cases e179
      obtain ⟨go51, co51, eo51, gb51, gl51, cl51, HG51⟩ := Kd.R_form HI.out.2.1 (by have := HP1.out; have := HP2.out; omega)
      (first | cases eo51 | (injection eo51 with ea_ en_ ec_; (first | subst ea_ | (injection ea_ with ea_; subst ea_)); subst ec_; clear en_))
      have HNf : Aside0 (gf ≠ go51) := ⟨blk_ne BKf.out HG51 (by decide)⟩
      have HNv : Aside0 (gv ≠ go51) := ⟨blk_ne BKv.out HG51 (by decide)⟩
      clear gb51 gl51 HG51
      (first | simp only [add_plain] at hx179_0 | skip)
      obtain ⟨hx51_0, hf51_0⟩ := Kd.R_celln 0 HI.out.2.1 ji HP1.out HP2.out
      have pp1 := eq_true HP1.out
      have pp2 := eq_true HP2.out
      have HQ := Z0 (RowInv.flag HI.out ji (Go.bits .or .u8 (rd x6 ji) js) HP1.out HP2.out).1
      rw [HY6.out] at HQ
      refine start_ (n := 11) (S := fun w' => w'.cell? ⟨go51, ji.toNat, none⟩ = some (.int .u8 (rd x6 ji))) (ds := [10]) #[false, false, false, false, false, false, false, false, false, false, false] (by kernel_rfl) rfl rfl (hx179_0) (fun hHeld => ?_); refine with_tabW row_tab13 row_bits13 (fun HT_ HW_ => ?_)
      generalize w32.drew = w33 at HI BKf BKv HQ hf51_0 hx179_0 hx51_0 hHeld ⊢
      refine pure_ (i := 0) (N := some 37) (v := ?_) (a' := ?_) #[true, false, false, false, false, false, false, false, false, false, false] rfl rfl (any_of HT_.out (by kernel_rfl)) (fun _ _ _ h => h) (Or.inl ⟨by rfl, ?_⟩) ?_ ?_
      rotate_left
      ·intro w'
       go_simp
       with_reducible rfl
      rotate_left
      ·simp only [Act.put, Z3, Z5, Z6, i64_w, i32_w]
       rfl
      refine pure_ (i := 1) (N := some 38) (v := ?_) (a' := ?_) #[true, true, false, false, false, false, false, false, false, false, false] rfl rfl (any_of HT_.out (by kernel_rfl)) (fun _ _ _ h => h) (Or.inl ⟨by rfl, ?_⟩) ?_ ?_
      rotate_left
      ·intro w'
       go_simp
       with_reducible rfl
      rotate_left
      ·simp only [Act.put, Z3, Z5, Z6, i64_w, i32_w]
       rfl
      refine pure_ (i := 2) (N := some 39) (v := ?_) (a' := ?_) #[true, true, true, false, false, false, false, false, false, false, false] rfl rfl (any_of HT_.out (by kernel_rfl)) (fun _ _ _ h => h) (Or.inl ⟨by rfl, ?_⟩) ?_ ?_
      rotate_left
      ·intro w'
       go_simp
       with_reducible rfl
      rotate_left
      ·simp only [Act.put, Z3, Z5, Z6, i64_w, i32_w]
       rfl
      refine pure_ (i := 3) (N := some 40) (v := ?_) (a' := ?_) #[true, true, true, true, false, false, false, false, false, false, false] rfl rfl (any_of HT_.out (by kernel_rfl)) (fun _ _ _ h => h) (Or.inl ⟨by rfl, ?_⟩) ?_ ?_
      rotate_left
      ·intro w'
       go_simp
       with_reducible rfl
      rotate_left
      ·simp only [Act.put, Z3, Z5, Z6, i64_w, i32_w]
       rfl
      refine pure_ (i := 5) (N := some 42) (v := ?_) (a' := ?_) #[true, true, true, true, false, true, false, false, false, false, false] rfl rfl (any_of HT_.out (by kernel_rfl)) (fun _ _ _ h => h) (Or.inl ⟨by rfl, ?_⟩) ?_ ?_
      rotate_left
      ·intro w'
       go_simp
       with_reducible rfl
      rotate_left
      ·simp only [Act.put, Z3, Z5, Z6, i64_w, i32_w]
       rfl
      refine pure_ (i := 6) (N := some 43) (v := ?_) (a' := ?_) #[true, true, true, true, false, true, true, false, false, false, false] rfl rfl (any_of HT_.out (by kernel_rfl)) (fun _ _ _ h => h) (Or.inl ⟨by rfl, ?_⟩) ?_ ?_
      rotate_left
      ·intro w'
       go_simp
       with_reducible rfl
      rotate_left
      ·simp only [Act.put, Z3, Z5, Z6, i64_w, i32_w]
       rfl
      refine pure_ (i := 7) (N := some 44) (v := ?_) (a' := ?_) #[true, true, true, true, false, true, true, true, false, false, false] rfl rfl (any_of HT_.out (by kernel_rfl)) (fun _ _ _ h => h) (Or.inl ⟨by rfl, ?_⟩) ?_ ?_
      rotate_left
      ·intro w'
       go_simp
       with_reducible rfl
      rotate_left
      ·simp only [Act.put, Z3, Z5, Z6, i64_w, i32_w]
       rfl
      refine take_ (i := 4) (N := some 41) (v := ?_) (a' := ?_) #[true, true, true, true, true, true, true, true, false, false, false] rfl rfl (take_ofW HT_.out HW_.out (by kernel_rfl)) (fun _ _ _ h => h) (Or.inl ⟨by rfl, ?_⟩) hHeld ?_ ?_
      rotate_left
      ·rintro w' s0
       skip
       go_simp
       with_reducible rfl
      rotate_left
      ·simp only [Act.put, Z3, Z5, Z6, i64_w, i32_w]
       rfl
      refine pure_ (i := 8) (N := some 45) (v := ?_) (a' := ?_) #[true, true, true, true, true, true, true, true, true, false, false] rfl rfl (any_of HT_.out (by kernel_rfl)) (fun _ _ _ h => h) (Or.inl ⟨by rfl, ?_⟩) ?_ ?_
      rotate_left
      ·intro w'
       go_simp
       with_reducible rfl
      rotate_left
      ·simp only [Act.put, Z3, Z5, Z6, i64_w, i32_w]
       rfl
      refine pure_ (i := 9) (N := some 46) (v := ?_) (a' := ?_) #[true, true, true, true, true, true, true, true, true, true, false] rfl rfl (any_of HT_.out (by kernel_rfl)) (fun _ _ _ h => h) (Or.inl ⟨by rfl, ?_⟩) ?_ ?_
      rotate_left
      ·intro w'
       go_simp
       with_reducible rfl
      rotate_left
      ·simp only [Act.put, Z3, Z5, Z6, i64_w, i32_w]
       rfl
      refine last_ (i := 10) (N := none) #[true, true, true, true, true, true, true, true, true, true, true] rfl rfl (one_of HT_.out (by kernel_rfl)) (by decide) (fun K hK => ?_)
      refine skip_ (w1 := ?_) (by rfl) rfl ?_ ?_
      rotate_left
      ·go_simp
       rfl
      refine hK.out _ _ ?_
      clear hK K
      refine done_ (done_of HT_.out (by kernel_rfl)) ?_
      have n1_ : Aside0 ((w33.setCell ⟨go51, ji.toNat, none⟩ (.int .u8 (Go.bits .or .u8 (rd x6 ji) js))).heap[gf]? = some (.cells #[.string s0, .int .i64 s1, .int .i64 s2, .bool true] 23 (0, 0))) := ⟨blk_far BKf.out HNf.out _⟩
      have n2_ : Aside0 ((w33.setCell ⟨go51, ji.toNat, none⟩ (.int .u8 (Go.bits .or .u8 (rd x6 ji) js))).heap[gv]? = some (.cells #[.int .i64 0, .int .i64 v1, .string v2] 25 (0, 0))) := ⟨blk_far BKv.out HNv.out _⟩
      clear HI BKf BKv HNf HNv hHeld HT_ HW_ hx179_0 hx51_0 hf51_0 pp1 pp2 c46b0 c47b0 c49b0 c49b1 hjiw hjs_ hjsz hjsu hjsv
      have BKf := n1_
      have BKv := n2_
      have HI := HQ
      clear n1_ n2_ HQ
      generalize w33.setCell ⟨go51, ji.toNat, none⟩ (.int .u8 (Go.bits .or .u8 (rd x6 ji) js)) = w36 at HI BKf BKv ⊢
      obtain ⟨W1, HI, HW⟩ := inv_open HI.out
      have kf0 : w36.cell? ⟨gf, 0, none⟩ = some (.string s0) := (Z2 BKf.out 0).trans rfl
      have kf1 : w36.cell? ⟨gf, 1, none⟩ = some (.int .i64 s1) := (Z2 BKf.out 1).trans rfl
      have kf2 : w36.cell? ⟨gf, 2, none⟩ = some (.int .i64 s2) := (Z2 BKf.out 2).trans rfl
      have kf3 : w36.cell? ⟨gf, 3, none⟩ = some (.bool true) := (Z2 BKf.out 3).trans rfl
      have kv0 : w36.cell? ⟨gv, 0, none⟩ = some (.int .i64 0) := (Z2 BKv.out 0).trans rfl
      have kv1 : w36.cell? ⟨gv, 1, none⟩ = some (.int .i64 v1) := (Z2 BKv.out 1).trans rfl
      have kv2 : w36.cell? ⟨gv, 2, none⟩ = some (.string v2) := (Z2 BKv.out 2).trans rfl
      go_wp2_with (first | ((with_reducible refine X1 (f := 99) rfl ?_); refine goesL_ (some 54) rfl rfl Tryz.func99 (by kernel_rfl) rfl #[.string (⟨#[32]⟩ : ByteArray), .int .i64 s2] rfl (by (try simp only [Y2, Y7, Y8]); first | done | rfl) ?_; (with_reducible refine (strings_Repeat.calls (⟨#[32]⟩ : ByteArray) s2 p _ HREP.out).mono ?_); rintro e w35 ⟨rfl, hb⟩; refine ⟨_, rfl, ?_⟩; have n0_ := Z0 (Y0 HW.out hb); clear HW; have HW := n0_; clear n0_ hb) | ((with_reducible refine X1 (f := 111) rfl ?_); refine goesL_ (some 55) rfl rfl Tryz.func111 (by kernel_rfl) rfl #[.pointer (some ⟨gB, 0, none⟩), .string p] rfl (by (try simp only [Y2, Y7, Y8]); first | done | rfl) ?_; have hbl := HI.out.2.2.2.2.2.2.1; (with_reducible refine (Builder_WriteString gB gB (Lib.byteCells X.data.toList) p _ ?hbl ?hlen ?hBw).mono ?_); (case hbl => exact isBuilder_below hbl HW.out); (case hlen => have := HSZ.out; rw [Lib.byteCells_length]; exact this); (case hBw => have h_ := isBuilder_lt (isBuilder_below hbl HW.out); omega); clear hbl; rintro e w40 ⟨rfl, hbld, hb⟩; refine ⟨_, rfl, ?_⟩; have n0_ := Z0 (RowInv.write (RowInv.below HI.out HW.out) hbld hb); clear HI; have HI := n0_; clear n0_ hbld hb HW BKf BKv; (try clear GEf GEv NE)))
      go_roundg (gk - 1)
      case measure => have := HK.out; have := HN1.out; omega
      case rel => exact ⟨n + 1, y6, (wrap64 (b + 1)), X ++ p, rfl, by rw [HWR.out], ⟨by have h_ := HL.out; rw [HBIT.out true rfl] at h_; exact h_⟩, ⟨by have := HK.out; have := HN1.out; omega⟩, ⟨by have := HN1.out; omega⟩, HI⟩
     ·skip
      have HPT' : writeO ⟨s0, s1, s2, true⟩ ⟨v0, v1, v2⟩ = some p := by have h_ := HPT.out; unfold rowPart at h_; rw [if_neg hz] at h_; exact h_
      obtain ⟨kc, klo, khi, krf, KF, hkv, hke, hkc⟩ := write_any _ _ _ HPT'
      have HKV := Z0 hkv
      have HKE := Z0 hke
      have HKC := Z0 hkc
      clear HPT' hkv hke hkc
      have hfl : ∀ (a b c d e : Value) (W : World), (Instr.field 102 (.agg #[a, b, c, d, e]) 3).run Tryz.prog W = .ok d W := fun _ _ _ _ _ _ => by kernel_rfl
      have hz0 : (v0 == 0) = false := beq_eq_false_iff_ne.mpr hz
      have hz1 : (v0 != 0) = true := bne_iff_ne.mpr hz
      have HZ := Z0 hz
      clear hz
      have hy6 : x6 = y6 := by have h_ := HFL.out; unfold rowFlag at h_; simp only [if_true, if_neg HZ.out] at h_; exact Option.some.inj h_
      subst hy6
      clear HFL
      go_wp2_with (first | ((with_reducible refine X0 (N := 10) rfl ?_); refine Y9 ?hg (N := 10) ?hd (cs := #[.string (⟨#[]⟩ : ByteArray), .int .i64 0, .int .i64 0, .bool false]) (t := 23) ?hr ?_; (case hd => rfl); (case hg => rfl); (case hr => go_simp; try rfl); intro gf hg w25 hbox hb; have GEf : Aside0 (W0.heap.size ≤ gf) := ⟨by rw [hg]; exact HW.out.size⟩; have n0_ := Z0 (Y0 HW.out hb); have BKf := Z0 hbox; clear HW; have HW := n0_; clear n0_ hb hbox hg; clear hx0 hx1 hx2 hx3; (try clear c3b)) | ((with_reducible refine gate_store (t := 23) (p := 10) rfl ?_); refine store_box ?hg (ty := 23) (p := 10) (y := .tmp 26) ?ho ?hd gf (cells := #[.string s0, .int .i64 s1, .int .i64 s2, .bool true]) (old := #[.string (⟨#[]⟩ : ByteArray), .int .i64 0, .int .i64 0, .bool false]) (t := 23) ?hx ?hy ?hgg ?hi ?hold ?h1 ?_; (case ho => rfl); (case hg => rfl); (case hd => rfl); (case hx => rfl); (case hy => rfl); (case hgg => exact BKf.out); (case hi => exact size23); (case hold => rfl); (case h1 => simp [Value.oneCell']); intro w26 hbk hbel hoth; have n0_ := Z0 (hbel _ _ HW.out GEf.out); have n1_ := Z0 hbk; clear HW; clear BKf; have HW := n0_; have BKf := n1_; clear n0_ n1_ hbk hbel hoth; have hr0 : w26.cell? ⟨gr, 0, none⟩ = some (.bool a1_0) := (Z2 (Y1 HI.out.rec HW.out) 0).trans rfl; have hr1 : w26.cell? ⟨gr, 1, none⟩ = some (.slice (some ad1) l1.length c1) := (Z2 (Y1 HI.out.rec HW.out) 1).trans rfl; have HBW := Z0 (Y0 HI.out.args HW.out); have hy0 := (HBW.out.cell (World.block_lt_of_cell? w _ HY0.out)).trans HY0.out; have hy1 := (HBW.out.cell (World.block_lt_of_cell? w _ HY1.out)).trans HY1.out; have hy2 := (HBW.out.cell (World.block_lt_of_cell? w _ HY2.out)).trans HY2.out; clear HBW) | ((with_reducible refine X0 (N := 11) rfl ?_); refine Y9 ?hg (N := 11) ?hd (cs := #[.int .i64 0, .int .i64 0, .string (⟨#[]⟩ : ByteArray)]) (t := 25) ?hr ?_; (case hd => rfl); (case hg => rfl); (case hr => go_simp; try rfl); intro gv hg w31 hbox hb; have GEv : Aside0 (W0.heap.size ≤ gv) := ⟨by rw [hg]; exact HW.out.size⟩; have NE : Aside0 (gf ≠ gv) := ⟨by rw [hg]; exact Nat.ne_of_lt (blk_lt BKf.out)⟩; have n0_ := Z0 (Y0 HW.out hb); have n1_ := Z0 (Y1 BKf.out hb); have BKv := Z0 hbox; clear HW; clear BKf; have HW := n0_; have BKf := n1_; clear n0_ n1_ hb hbox hg; clear hr0 hr1 hy0 hy1 hy2) | ((with_reducible refine gate_store (t := 25) (p := 11) rfl ?_); refine store_box ?hg (ty := 25) (p := 11) (y := .tmp 31) ?ho ?hd gv (cells := #[.int .i64 v0, .int .i64 v1, .string v2]) (old := #[.int .i64 0, .int .i64 0, .string (⟨#[]⟩ : ByteArray)]) (t := 25) ?hx ?hy ?hgg ?hi ?hold ?h1 ?_; (case ho => rfl); (case hg => rfl); (case hd => rfl); (case hx => rfl); (case hy => rfl); (case hgg => exact BKv.out); (case hi => exact size25); (case hold => rfl); (case h1 => simp [Value.oneCell']); intro w32 hbk hbel hoth; have n0_ := Z0 (hbel _ _ HW.out GEv.out); have n1_ := Z0 hbk; have n2_ := Z0 ((hoth gf NE.out).trans BKf.out); clear HW; clear BKv; clear BKf; have HW := n0_; have BKv := n1_; have BKf := n2_; clear n0_ n1_ n2_ hbk hbel hoth; have kf0 : w32.cell? ⟨gf, 0, none⟩ = some (.string s0) := (Z2 BKf.out 0).trans rfl; have kf1 : w32.cell? ⟨gf, 1, none⟩ = some (.int .i64 s1) := (Z2 BKf.out 1).trans rfl; have kf2 : w32.cell? ⟨gf, 2, none⟩ = some (.int .i64 s2) := (Z2 BKf.out 2).trans rfl; have kf3 : w32.cell? ⟨gf, 3, none⟩ = some (.bool true) := (Z2 BKf.out 3).trans rfl; have kv0 : w32.cell? ⟨gv, 0, none⟩ = some (.int .i64 v0) := (Z2 BKv.out 0).trans rfl; have kv1 : w32.cell? ⟨gv, 1, none⟩ = some (.int .i64 v1) := (Z2 BKv.out 1).trans rfl; have kv2 : w32.cell? ⟨gv, 2, none⟩ = some (.string v2) := (Z2 BKv.out 2).trans rfl))
      have n0_ := Z0 (Z9 HW.out)
      have n1_ := Z0 (Y5 BKf.out)
      have n2_ := Z0 (Y5 BKv.out)
      clear HW BKf BKv
      have HW := n0_
      have BKf := n1_
      have BKv := n2_
      clear n0_ n1_ n2_
      (try clear kf0 kf1 kf2 kf3)
      (try clear kv0 kv1 kv2)
      refine start_ (n := 9) (S := fun w' => w'.heap[gf]? = some (.cells #[.string s0, .int .i64 s1, .int .i64 s2, .bool true] 23 (0, 0)) ∧ w'.heap[gv]? = some (.cells #[.int .i64 v0, .int .i64 v1, .string v2] 25 (0, 0))) (ds := [8]) #[false, false, false, false, false, false, false, false, false] (by kernel_rfl) rfl rfl ⟨BKf.out, BKv.out⟩ (fun hHeld => ?_); refine with_tabW row_tab17 row_bits17 (fun HT_ HW_ => ?_)
      generalize w32.drew = w33 at HW BKf BKv hHeld ⊢
      refine pure_ (i := 1) (N := some 57) (v := ?_) (a' := ?_) #[false, true, false, false, false, false, false, false, false] rfl rfl (any_of HT_.out (by kernel_rfl)) (fun _ _ _ h => h) (Or.inl ⟨by rfl, ?_⟩) ?_ ?_
      rotate_left
      ·intro w'
       go_simp
       with_reducible rfl
      rotate_left
      ·simp only [Act.put, Z3, Z5, Z6, i64_w, i32_w]
       rfl
      refine take_ (i := 2) (N := some 58) (v := ?_) (a' := ?_) #[false, true, true, false, false, false, false, false, false] rfl rfl (take_ofW HT_.out HW_.out (by kernel_rfl)) (fun _ _ _ h => h) (Or.inl ⟨by rfl, ?_⟩) hHeld ?_ ?_
      rotate_left
      ·rintro w' ⟨s0_, s1_⟩
       have sc := (Z2 s0_ 1).trans rfl
       go_simp
       with_reducible rfl
      rotate_left
      ·simp only [Act.put, Z3, Z5, Z6, i64_w, i32_w]
       rfl
      refine take_ (i := 5) (N := some 61) (v := ?_) (a' := ?_) #[false, true, true, false, false, true, false, false, false] rfl rfl (take_ofW HT_.out HW_.out (by kernel_rfl)) (fun _ _ _ h => h) (Or.inl ⟨by rfl, ?_⟩) hHeld ?_ ?_
      rotate_left
      ·rintro w' ⟨s0_, s1_⟩
       have sc0 : w'.cell? ⟨gf, 0, none⟩ = some (.string s0) := (Z2 s0_ 0).trans rfl
       have sc1 : w'.cell? ⟨gf, 1, none⟩ = some (.int .i64 s1) := (Z2 s0_ 1).trans rfl
       have sc2 : w'.cell? ⟨gf, 2, none⟩ = some (.int .i64 s2) := (Z2 s0_ 2).trans rfl
       have sc3 : w'.cell? ⟨gf, 3, none⟩ = some (.bool true) := (Z2 s0_ 3).trans rfl
       go_simp
       with_reducible rfl
      rotate_left
      ·simp only [Act.put, Z3, Z5, Z6, i64_w, i32_w]
       rfl
      refine take_ (i := 6) (N := some 62) (v := ?_) (a' := ?_) #[false, true, true, false, false, true, true, false, false] rfl rfl (take_ofW HT_.out HW_.out (by kernel_rfl)) (fun _ _ _ h => h) (Or.inl ⟨by rfl, ?_⟩) hHeld ?_ ?_
      rotate_left
      ·rintro w' ⟨s0_, s1_⟩
       have sc0 : w'.cell? ⟨gv, 0, none⟩ = some (.int .i64 v0) := (Z2 s1_ 0).trans rfl
       have sc1 : w'.cell? ⟨gv, 1, none⟩ = some (.int .i64 v1) := (Z2 s1_ 1).trans rfl
       have sc2 : w'.cell? ⟨gv, 2, none⟩ = some (.string v2) := (Z2 s1_ 2).trans rfl
       go_simp
       with_reducible rfl
      rotate_left
      ·simp only [Act.put, Z3, Z5, Z6, i64_w, i32_w]
       rfl
      refine one_ (i := 0) (N := some 56) #[true, true, true, false, false, true, true, false, false] rfl rfl (one_of HT_.out (by kernel_rfl)) (by decide) (fun K hK => ?_)
      refine goes_ Tryz.func89 (by kernel_rfl) rfl #[] (by rfl) rfl rfl (by (try simp only [Y2, Y7, Y8]); first | done | rfl) ?_
      refine (table_kinds w33).mono ?_
      rintro e w34 ⟨rk, rfl, hkb, hb⟩
      refine ⟨_, rfl, ?_⟩
      have HKB := Z0 hkb
      clear hkb
      have n0_ := Z0 (Y0 HW.out hb)
      have n1_ := Z0 (Y1 BKf.out hb)
      have n2_ := Z0 (Y1 BKv.out hb)
      clear HW BKf BKv
      have HW := n0_
      have BKf := n1_
      have BKv := n2_
      clear n0_ n1_ n2_ hb
      refine hK.out _ _ ⟨BKf.out, BKv.out⟩ (fun hHeld => ?_)
      clear hK K
      refine norm_ (a' := ?_) ?_ ?_
      rotate_left
      ·show Act.put _ (some 56) _ = _
       simp only [Act.put, Z3, Z5, Z6, i64_w, i32_w]
       rfl
      refine one_ (i := 3) (N := some 59) #[true, true, true, true, false, true, true, false, false] rfl rfl (one_of HT_.out (by kernel_rfl)) (by decide) (fun K hK => ?_)
      have hlk := run_look' w34 rk HKB.out _ _ HKV.out
      refine event_step (v := .agg #[kc, klo, khi, .func (.func KF) #[] #[], krf]) (w1 := w34) rfl (by first | (go_simp; done) | (go_simp; rfl) | (go_simp; exact ⟨rfl, rfl⟩)) ?_
      refine hK.out _ _ ⟨BKf.out, BKv.out⟩ (fun hHeld => ?_)
      clear hK K
      refine norm_ (a' := ?_) ?_ ?_
      rotate_left
      ·show Act.put _ (some 59) _ = _
       simp only [Act.put, Z3, Z5, Z6, i64_w, i32_w]
       rfl
      clear hlk
      refine one_ (i := 4) (N := some 60) #[true, true, true, true, true, true, true, false, false] rfl rfl (one_of HT_.out (by kernel_rfl)) (by decide) (fun K hK => ?_)
      refine event_step (v := .func (.func KF) #[] #[]) (w1 := w34) rfl (by first | (go_simp; done) | (go_simp; rfl) | (go_simp; exact ⟨rfl, rfl⟩)) ?_
      refine hK.out _ _ ⟨BKf.out, BKv.out⟩ (fun hHeld => ?_)
      clear hK K
      refine norm_ (a' := ?_) ?_ ?_
      rotate_left
      ·show Act.put _ (some 60) _ = _
       simp only [Act.put, Z3, Z5, Z6, i64_w, i32_w]
       rfl
      refine one_ (i := 7) (N := some 63) #[true, true, true, true, true, true, true, true, false] rfl rfl (one_of HT_.out (by kernel_rfl)) (by decide) (fun K hK => ?_)
      refine goesV_ (f := KF) (x := 60) HKE.out #[.agg #[.string s0, .int .i64 s1, .int .i64 s2, .bool true], .agg #[.int .i64 v0, .int .i64 v1, .string v2]] (by rfl) rfl rfl (by rfl) (by (try simp only [Y2, Y7, Y8]); first | done | rfl) ?_
      refine (HKC.out w34).mono ?_
      rintro e w35 ⟨rfl, hb⟩
      refine ⟨_, rfl, ?_⟩
      have n0_ := Z0 (Y0 HW.out hb)
      have n1_ := Z0 (Y1 BKf.out hb)
      have n2_ := Z0 (Y1 BKv.out hb)
      clear HW BKf BKv
      have HW := n0_
      have BKf := n1_
      have BKv := n2_
      clear n0_ n1_ n2_ hb
      refine hK.out _ _ ⟨BKf.out, BKv.out⟩ (fun hHeld => ?_)
      clear hK K
      refine norm_ (a' := ?_) ?_ ?_
      rotate_left
      ·show Act.put _ (some 63) _ = _
       simp only [Act.put, Z3, Z5, Z6, i64_w, i32_w]
       rfl
      refine last_ (i := 8) (N := some 64) #[true, true, true, true, true, true, true, true, true] rfl rfl (one_of HT_.out (by kernel_rfl)) (by decide) (fun K hK => ?_)
      refine goes_ Tryz.func111 (by kernel_rfl) rfl #[.pointer (some ⟨gB, 0, none⟩), .string p] (by rfl) rfl rfl (by (try simp only [Y2, Y7, Y8]); first | done | rfl) ?_
      have hbl := HI.out.2.2.2.2.2.2.1; (with_reducible refine (Builder_WriteString gB gB (Lib.byteCells X.data.toList) p _ ?hbl ?hlen ?hBw).mono ?_); (case hbl => exact isBuilder_below hbl HW.out); (case hlen => have := HSZ.out; rw [Lib.byteCells_length]; exact this); (case hBw => have h_ := isBuilder_lt (isBuilder_below hbl HW.out); omega); clear hbl; rintro e w40 ⟨rfl, hbld, hb⟩; refine ⟨_, rfl, ?_⟩; have n0_ := Z0 (RowInv.write (RowInv.below HI.out HW.out) hbld hb); clear HI; have HI := n0_; clear n0_ hbld hb HW BKf BKv; (try clear GEf GEv NE)
      refine hK.out _ _ ?_
      clear hK K
      refine norm_ (a' := ?_) ?_ ?_
      rotate_left
      ·show Act.put _ (some 64) _ = _
       simp only [Act.put, Z3, Z5, Z6, i64_w, i32_w]
       rfl
      refine done_ (done_of HT_.out (by kernel_rfl)) ?_
      clear hHeld HT_ HW_ hfl HKV HKB HKE HKC
      go_wp2
      go_roundg (gk - 1)
      case measure => have := HK.out; have := HN1.out; omega
      case rel => exact ⟨n + 1, x6, (wrap64 (b + 1)), X ++ p, rfl, by rw [HWR.out], ⟨by have h_ := HL.out; rw [HBIT.out true rfl] at h_; exact h_⟩, ⟨by have := HK.out; have := HN1.out; omega⟩, ⟨by have := HN1.out; omega⟩, HI⟩
   ·have hnl : n = l0.length := by have := HNl.out; omega
    have c3b := decide_eq_false c3
    have hFY : x6 = F ∧ X = Y := by
     have h_ := HA.out
     rw [hnl, List.drop_length] at h_
     simp only [rowL] at h_
     injection h_ with h_
     injection h_ with h1 h2
     exact ⟨h1, h2⟩
    obtain ⟨rfl, rfl⟩ := hFY
    clear HA hnl
    obtain ⟨Ao, co, eo⟩ := Kd.R_slice HI.out.2.1
    subst eo
    have LY : Aside0 (X.data.toList ≠ []) := ⟨fun h_ => HYN.out (by show X.data.toList.length = 0; rw [h_]; rfl)⟩
    have LX : Aside0 (x5.length = 1) := ⟨by rw [HX5.out]; rfl⟩
    obtain ⟨W0, HI, HW⟩ := inv_open HI.out
    go_wp2_with (first | ((with_reducible refine gate_builtin (b := .append) (xs := #[.tmp 66, .tmp 67]) rfl ?_); at_builtin; refine Kd.R_append_rows (Kd.int .u8) (w0 := w) w.heap.size rfl (.tmp 66) (.tmp 67) 37 5 (.int .u8 0) 1 rfl Tryz.underlying37 info5 rfl (by decide) (by omega) vo x5 x6 _ _ _ (fun k_ => k_ ≠ gB) (fun _ => False) rfl rfl ?aO ?aR (fun _ _ h => h) (fun _ h => h.elim) ?aF ?aB ?aS ?aL ?_; (case aR => exact (Kd.R_reads' (Kd.R_below HI.out.2.1 HW.out)).2.2); (case aB => exact (RowInv.below HI.out HW.out).args); (case aF => exact (fun k_ hk => by have h_ := isBuilder_lt (RowInv.below HI.out HW.out).2.2.2.2.2.2.1; omega)); (case aO => exact Kd.R_mono (RowInv.below HI.out HW.out).1 (fun k_ hk => by omega)); (case aS => exact (Y6 (RowInv.below HI.out HW.out).args)); (case aL => have := LX.out; have := HS.out; omega); intro v87 w87 ho hb hg hat; have HO := Z0 ho; have HBL := Z0 (isBuilder_grown (RowInv.below HI.out HW.out) hg); have HAW := Z0 (builder_away (RowInv.below HI.out HW.out) hg hat); have HB := Z0 hb; have HGE : Aside0 (w.heap.size ≤ gB ∧ gB < w87.heap.size) := ⟨HI.out.2.2.2.2.2.1, isBuilder_lt HBL.out⟩; clear HI HW ho hb hg hat) | ((with_reducible refine X1 (f := 112) rfl ?_); refine goesL_ (some 69) rfl rfl Tryz.func112 (by kernel_rfl) rfl #[.pointer (some ⟨gB, 0, none⟩)] rfl (by (try simp only [Y2, Y7, Y8]); first | done | rfl) ?_; (with_reducible refine (builder_string gB X.data.toList _ HBL.out LY.out).mono ?_); rintro e w88 ⟨rfl, hb, hoth⟩; refine ⟨_, rfl, ?_⟩; have n0_ := Z0 (row_kept HO.out HAW.out hoth); have n1_ := Z0 (below_weaken HB.out HGE.out.1 hb); clear HO HB HBL HAW; have HO := n0_; have HB := n1_; clear n0_ n1_ hb hoth) | ((with_reducible refine X0 (N := 70) rfl ?_); refine R_append_str (w0 := w) w.heap.size rfl (.tmp 68) (.tmp 69) rfl v87 (x5 ++ x6) X _ rfl rfl HO.out HB.out (Y6 HB.out) (by have := LX.out; have := HS.out; rw [List.length_append]; omega) ?_; intro v1 w1 ho hb; clear HO HB; have HO := Z0 ho; have HB := Z0 hb; clear ho hb))
    go_ret
    exact ⟨v1, rfl, by have h_ := HO.out; rw [HX5.out] at h_; exact h_, HB.out⟩
theorem table_row.calls (A0 : Option Addr) (c0 : Nat) (l0 : List (S23)) (a1_0 : Bool) (A1_1 : Option Addr) (c1_1 : Nat) (l1_1 : List (S25)) (r : List Int) (w : World) (hr0 : Kd.C k23 w A0 l0.length l0) (hc0 : l0.length ≤ c0) (hr1_1 : Kd.C k25 w A1_1 l1_1.length l1_1) (hc1_1 : l1_1.length ≤ c1_1) (h : table_row.f l0 a1_0 l1_1 = some r) :
  Calls Tryz.prog 63 #[.slice A0 l0.length c0, .agg #[.bool a1_0, .slice A1_1 l1_1.length c1_1]] w fun e w' => ∃ v0_ : Value, e = .returned (v0_) ∧ Kd.R (Kd.int .u8) 5 w' w.heap.size (fun _ => True) v0_ r ∧ Below w.heap.size w w' := by
 unfold table_row.f at h
 obtain ⟨t, hA, h⟩ := Option.bind_eq_some_iff.mp h
 split at h
 ·rename_i ht0
  split at h
  ·rename_i ht1
   obtain ⟨⟨F, Y⟩, hL, h⟩ := Option.bind_eq_some_iff.mp h
   split at h
   ·rename_i hs
    obtain rfl := Option.some.inj h
    exact row_walk A0 c0 l0 a1_0 A1_1 c1_1 l1_1 t F Y w hr0 hc0 hr1_1 hc1_1 hA ht0 ht1 hL hs.1 hs.2.2 hs.2.1
   ·cases h
  ·cases h
 ·cases h
def table_Row.f (k : Nat) (a0_0 : Int) (l0_1 : List (S23)) (l0_2 : List (S46)) (a1 : Int) : Option (List Int × Int) := (table_Validate.f k a0_0 l0_1 l0_2).bind fun t254 => (if t254 = 0 then (if a1 < 1 then (some (([] : List Int), 4)) else (if a1 > (l0_2.length : Int) then (some (([] : List Int), 4)) else (if 0 ≤ (wrap64 (a1 - 1)) then (if (wrap64 (a1 - 1)) < (l0_2.length : Int) then ((table_row.f l0_1 ((rd_T46 l0_2 (wrap64 (a1 - 1))).f0) ((rd_T46 l0_2 (wrap64 (a1 - 1))).f1)).bind fun t256 => (some (t256, 0))) else (none)) else (none)))) else (some (([] : List Int), t254)))
theorem table_Row.mono : ∀ a0 a1 a2 a3 k, LeO (table_Row.f k a0 a1 a2 a3) (table_Row.f (k + 1) a0 a1 a2 a3) := by
 intro a0 a1 a2 a3 k
 unfold table_Row.f
 repeat' first
   | (with_reducible exact table_Validate.mono _ _ _ _)
   | (with_reducible exact LeO.refl _)
   | (with_reducible exact X2 _)
   | (with_reducible refine X4 ?_ ?_)
   | (with_reducible refine X3 ?_ (fun _ => ?_))
   | exact table_Validate.mono _ _ _ _
   | exact X2 _
   | refine X4 ?_ ?_
   | refine X3 ?_ (fun _ => ?_)
def table_Row.T6 : Bool × List (List Nat × List Nat) := (true, [([], []), ([0], [0]), ([], []), ([2], [2]), ([], []), ([4], [4]), ([3, 5], [3, 5]), ([6], [6]), ([1, 7], [1, 7]), ([8, 8, 0, 1, 2, 3, 4, 5, 6, 7, 8], [8]), ([9, 0, 1, 2, 3, 4, 5, 6, 7, 8, 9], [])])
def table_Row.B6 : List Nat := [0, 1, 0, 4, 0, 16, 60, 124, 255, 511, 1023]
theorem table_Row.tab6 : rtab .any (opsOf Tryz.f21 6) = table_Row.T6 := by kernel_rfl
theorem table_Row.bits6 : waitsOk table_Row.T6.2 table_Row.B6 = true := by kernel_rfl
set_option maxHeartbeats 8000000 in
set_option maxRecDepth 100000 in
theorem table_Row.calls (k : Nat) (a0_0 : Int) (A0_1 : Option Addr) (c0_1 : Nat) (l0_1 : List (S23)) (A0_2 : Option Addr) (c0_2 : Nat) (l0_2 : List (S46)) (a1 : Int) (r1 : List Int) (r2 : Int) (w : World) (hr0_1 : Kd.C k23 w A0_1 l0_1.length l0_1) (hc0_1 : l0_1.length ≤ c0_1) (hr0_2 : Kd.C k46 w A0_2 l0_2.length l0_2) (hc0_2 : l0_2.length ≤ c0_2) (h : table_Row.f k a0_0 l0_1 l0_2 a1 = some (r1, r2)) :
  Calls Tryz.prog 21 #[.agg #[.int .i64 a0_0, .slice A0_1 l0_1.length c0_1, .slice A0_2 l0_2.length c0_2], .int .i64 a1] w fun e w' => ∃ v0_ : Value, e = .returned (.tuple #[v0_, .int .i64 r2]) ∧ Kd.R (Kd.int .u8) 5 w' w.heap.size (fun _ => True) v0_ r1 ∧ Below w.heap.size w w' := by
 have hu35 := Tryz.underlying35
 have hu46 := Tryz.underlying46
 have HR0_1 := Z0 hr0_1
 have HC0_1 := Z0 hc0_1
 clear hr0_1 hc0_1
 have HR0_2 := Z0 hr0_2
 have HC0_2 := Z0 hc0_2
 clear hr0_2 hc0_2
 have HB := Z0 (Below.refl w.heap.size w)
 have H : ((table_Validate.f k a0_0 l0_1 l0_2).bind fun t254 => (if t254 = 0 then (if a1 < 1 then (some (([] : List Int), 4)) else (if a1 > (l0_2.length : Int) then (some (([] : List Int), 4)) else (if 0 ≤ (wrap64 (a1 - 1)) then (if (wrap64 (a1 - 1)) < (l0_2.length : Int) then ((table_row.f l0_1 ((rd_T46 l0_2 (wrap64 (a1 - 1))).f0) ((rd_T46 l0_2 (wrap64 (a1 - 1))).f1)).bind fun t256 => (some (t256, 0))) else (none)) else (none)))) else (some (([] : List Int), t254)))) = some (r1, r2) := h
 clear h
 replace H := Option.bind_eq_some_iff.mp H
 obtain ⟨t254, A30, H⟩ := H
 replace H : (if t254 = 0 then (if a1 < 1 then (some (([] : List Int), 4)) else (if a1 > (l0_2.length : Int) then (some (([] : List Int), 4)) else (if 0 ≤ (wrap64 (a1 - 1)) then (if (wrap64 (a1 - 1)) < (l0_2.length : Int) then ((table_row.f l0_1 ((rd_T46 l0_2 (wrap64 (a1 - 1))).f0) ((rd_T46 l0_2 (wrap64 (a1 - 1))).f1)).bind fun t256 => (some (t256, 0))) else (none)) else (none)))) else (some (([] : List Int), t254))) = some (r1, r2) := H
 have A3 := Z0 A30
 clear A30
 by_cases c4 : t254 = 0
 ·rw [if_pos c4] at H
  have c4b0 : (t254 == 0) = true := beq_iff_eq.mpr c4
  have c4b1 : (t254 != 0) = false := bne_eq_false_iff_eq.mpr c4
  clear c4
  by_cases c5 : a1 < 1
  ·rw [if_pos c5] at H
   have c5b0 : decide (a1 < 1) = true := decide_eq_true c5
   clear c5
   simp only [Option.some.injEq, Prod.mk.injEq] at H
   obtain ⟨rfl, rfl⟩ := H
   go_enter Tryz.func21, Tryz.ntmps21
   go_wp2_with (first | ((with_reducible refine X0 (N := 2) rfl ?_); (try (refine gate_guard (by rfl) ?_; dsimp only)); refine Y9 ?hg (N := 2) ?hd (cs := #[.int .i64 a0_0, .slice A0_1 l0_1.length c0_1, .slice A0_2 l0_2.length c0_2]) (t := 35) ?hr ?_; (case hd => rfl); (case hg => rfl); (case hr => go_simp; try rfl); intro gb253 hg w6 hbox hb; have n0_ := Z0 (Y0 HB.out hb); have n1_ := Z0 (hbox); have n3_ := Z0 ((by rw [hg]; exact (Y6 HB.out) : w.heap.size ≤ gb253)); clear HB; have HB := n0_; have BK253 := n1_; have GE253 := n3_; clear n0_ n1_ n3_; clear hb hbox hg; have hcz7_0 : w6.cell? ⟨gb253, 0, none⟩ = some (.int .i64 a0_0) := (Z2 BK253.out 0).trans rfl; have hcz7_1 : w6.cell? ⟨gb253, 1, none⟩ = some (.slice A0_1 l0_1.length c0_1) := (Z2 BK253.out 1).trans rfl; have hcz7_2 : w6.cell? ⟨gb253, 2, none⟩ = some (.slice A0_2 l0_2.length c0_2) := (Z2 BK253.out 2).trans rfl; have hfz7_0 := Z1 BK253.out 0; have hfz7_1 := Z1 BK253.out 1; have hfz7_2 := Z1 BK253.out 2) | ((with_reducible refine X1 (f := 34) rfl ?_); refine goesL_ (some 8) rfl rfl Tryz.func34 (by kernel_rfl) rfl #[.agg #[.int .i64 a0_0, .slice A0_1 l0_1.length c0_1, .slice A0_2 l0_2.length c0_2]] rfl (by (try simp only [Y2, Y7, Y8]); first | done | rfl) ?_; (with_reducible refine (table_Validate.calls k a0_0 _ _ l0_1 _ _ l0_2 t254 _ ?side1 ?side2 ?side3 ?side4 A3.out).mono ?_); (case side1 => repeat (first | exact (Kd.C_below HR0_1.out HB.out) | (with_reducible refine Kd.C_alloc ?_ _) | (with_reducible refine Kd.C_drewN ?_ _) | (with_reducible refine Kd.C_drew ?_))); (case side2 => exact HC0_1.out); (case side3 => repeat (first | exact (Kd.C_below HR0_2.out HB.out) | (with_reducible refine Kd.C_alloc ?_ _) | (with_reducible refine Kd.C_drewN ?_ _) | (with_reducible refine Kd.C_drew ?_))); (case side4 => exact HC0_2.out); rintro e w8 ⟨rfl, hb⟩; refine ⟨_, rfl, ?_⟩; have n0_ := Z0 (Y1 (g := gb253) (o := .cells #[.int .i64 a0_0, .slice A0_1 l0_1.length c0_1, .slice A0_2 l0_2.length c0_2] 35 (0, 0)) BK253.out hb); have n1_ := Z0 (Y0 HB.out hb); clear BK253; clear HB; have BK253 := n0_; have HB := n1_; clear n0_ n1_; (try clear hb); (try clear hb2); (try clear hk); (try clear hi)))
   go_ret2
   exact ⟨_, rfl, by first | exact Kd.R_nil _ _ _ _ _ | exact Kd.N_nil _ _ _ _ _ | exact Kd.V_nil _ _ _ _ _ | exact Kd.Q_nil _ _ _ _ _ | exact Kd.S_nil _ _ _ _ _, by repeat (first | (with_reducible first | exact HB.out | apply Z7 | apply Z4 | apply Z9 | refine Z8 ?_ GE253.out) | exact HB.out)⟩
  ·rw [if_neg c5] at H
   have c5b0 : decide (a1 < 1) = false := decide_eq_false c5
   clear c5
   by_cases c9 : a1 > (l0_2.length : Int)
   ·rw [if_pos c9] at H
    have c9b0 : decide ((l0_2.length : Int) < a1) = true := decide_eq_true c9
    clear c9
    simp only [Option.some.injEq, Prod.mk.injEq] at H
    obtain ⟨rfl, rfl⟩ := H
    go_enter Tryz.func21, Tryz.ntmps21
    go_wp2_with (first | ((with_reducible refine X0 (N := 2) rfl ?_); (try (refine gate_guard (by rfl) ?_; dsimp only)); refine Y9 ?hg (N := 2) ?hd (cs := #[.int .i64 a0_0, .slice A0_1 l0_1.length c0_1, .slice A0_2 l0_2.length c0_2]) (t := 35) ?hr ?_; (case hd => rfl); (case hg => rfl); (case hr => go_simp; try rfl); intro gb253 hg w10 hbox hb; have n0_ := Z0 (Y0 HB.out hb); have n1_ := Z0 (hbox); have n3_ := Z0 ((by rw [hg]; exact (Y6 HB.out) : w.heap.size ≤ gb253)); clear HB; have HB := n0_; have BK253 := n1_; have GE253 := n3_; clear n0_ n1_ n3_; clear hb hbox hg; have hcz11_0 : w10.cell? ⟨gb253, 0, none⟩ = some (.int .i64 a0_0) := (Z2 BK253.out 0).trans rfl; have hcz11_1 : w10.cell? ⟨gb253, 1, none⟩ = some (.slice A0_1 l0_1.length c0_1) := (Z2 BK253.out 1).trans rfl; have hcz11_2 : w10.cell? ⟨gb253, 2, none⟩ = some (.slice A0_2 l0_2.length c0_2) := (Z2 BK253.out 2).trans rfl; have hfz11_0 := Z1 BK253.out 0; have hfz11_1 := Z1 BK253.out 1; have hfz11_2 := Z1 BK253.out 2) | ((with_reducible refine X1 (f := 34) rfl ?_); refine goesL_ (some 8) rfl rfl Tryz.func34 (by kernel_rfl) rfl #[.agg #[.int .i64 a0_0, .slice A0_1 l0_1.length c0_1, .slice A0_2 l0_2.length c0_2]] rfl (by (try simp only [Y2, Y7, Y8]); first | done | rfl) ?_; (with_reducible refine (table_Validate.calls k a0_0 _ _ l0_1 _ _ l0_2 t254 _ ?side1 ?side2 ?side3 ?side4 A3.out).mono ?_); (case side1 => repeat (first | exact (Kd.C_below HR0_1.out HB.out) | (with_reducible refine Kd.C_alloc ?_ _) | (with_reducible refine Kd.C_drewN ?_ _) | (with_reducible refine Kd.C_drew ?_))); (case side2 => exact HC0_1.out); (case side3 => repeat (first | exact (Kd.C_below HR0_2.out HB.out) | (with_reducible refine Kd.C_alloc ?_ _) | (with_reducible refine Kd.C_drewN ?_ _) | (with_reducible refine Kd.C_drew ?_))); (case side4 => exact HC0_2.out); rintro e w12 ⟨rfl, hb⟩; refine ⟨_, rfl, ?_⟩; have n0_ := Z0 (Y1 (g := gb253) (o := .cells #[.int .i64 a0_0, .slice A0_1 l0_1.length c0_1, .slice A0_2 l0_2.length c0_2] 35 (0, 0)) BK253.out hb); have n1_ := Z0 (Y0 HB.out hb); clear BK253; clear HB; have BK253 := n0_; have HB := n1_; clear n0_ n1_; (try clear hb); (try clear hb2); (try clear hk); (try clear hi); have hcz13_0 : w12.cell? ⟨gb253, 0, none⟩ = some (.int .i64 a0_0) := (Z2 BK253.out 0).trans rfl; have hcz13_1 : w12.cell? ⟨gb253, 1, none⟩ = some (.slice A0_1 l0_1.length c0_1) := (Z2 BK253.out 1).trans rfl; have hcz13_2 : w12.cell? ⟨gb253, 2, none⟩ = some (.slice A0_2 l0_2.length c0_2) := (Z2 BK253.out 2).trans rfl; have hfz13_0 := Z1 BK253.out 0; have hfz13_1 := Z1 BK253.out 1; have hfz13_2 := Z1 BK253.out 2))
    go_ret2
    exact ⟨_, rfl, by first | exact Kd.R_nil _ _ _ _ _ | exact Kd.N_nil _ _ _ _ _ | exact Kd.V_nil _ _ _ _ _ | exact Kd.Q_nil _ _ _ _ _ | exact Kd.S_nil _ _ _ _ _, by repeat (first | (with_reducible first | exact HB.out | apply Z7 | apply Z4 | apply Z9 | refine Z8 ?_ GE253.out) | exact HB.out)⟩
   ·rw [if_neg c9] at H
    have c9b0 : decide ((l0_2.length : Int) < a1) = false := decide_eq_false c9
    clear c9
    obtain ⟨ji14, hji14⟩ : ∃ j_ : Int, (wrap64 (a1 - 1)) = j_ := ⟨_, rfl⟩
    replace H : (if 0 ≤ (ji14) then (if (ji14) < (l0_2.length : Int) then ((table_row.f l0_1 ((rd_T46 l0_2 (ji14)).f0) ((rd_T46 l0_2 (ji14)).f1)).bind fun t256 => (some (t256, 0))) else (none)) else (none)) = some (r1, r2) := by first | (rw [hji14] at H; exact H) | (simp only [hji14] at H ⊢; exact H)
    (try rw [hji14] at A3)
    have hji14w : (IntKind.i64.wrap (a1 - 1)) = ji14 := (i64_w _).trans hji14
    by_cases c15 : 0 ≤ (ji14)
    ·rw [if_pos c15] at H
     have c15b0 : decide (0 ≤ (ji14)) = true := decide_eq_true c15
     clear c15
     by_cases c16 : (ji14) < (l0_2.length : Int)
     ·rw [if_pos c16] at H
      have c16b0 : decide ((ji14) < (l0_2.length : Int)) = true := decide_eq_true c16
      clear c16
      replace H := Option.bind_eq_some_iff.mp H
      obtain ⟨t256, A170, H⟩ := H
      replace H : (some (t256, 0)) = some (r1, r2) := H
      have A17 := Z0 A170
      clear A170
      simp only [Option.some.injEq, Prod.mk.injEq] at H
      obtain ⟨rfl, rfl⟩ := H
      go_enter Tryz.func21, Tryz.ntmps21
      try go_wp2_with (first | ((with_reducible refine X0 (N := 2) rfl ?_); (try (refine gate_guard (by rfl) ?_; dsimp only)); refine Y9 ?hg (N := 2) ?hd (cs := #[.int .i64 a0_0, .slice A0_1 l0_1.length c0_1, .slice A0_2 l0_2.length c0_2]) (t := 35) ?hr ?_; (case hd => rfl); (case hg => rfl); (case hr => go_simp; try rfl); intro gb253 hg w18 hbox hb; have n0_ := Z0 (Y0 HB.out hb); have n1_ := Z0 (hbox); have n3_ := Z0 ((by rw [hg]; exact (Y6 HB.out) : w.heap.size ≤ gb253)); clear HB; have HB := n0_; have BK253 := n1_; have GE253 := n3_; clear n0_ n1_ n3_; clear hb hbox hg; have hcz19_0 : w18.cell? ⟨gb253, 0, none⟩ = some (.int .i64 a0_0) := (Z2 BK253.out 0).trans rfl; have hcz19_1 : w18.cell? ⟨gb253, 1, none⟩ = some (.slice A0_1 l0_1.length c0_1) := (Z2 BK253.out 1).trans rfl; have hcz19_2 : w18.cell? ⟨gb253, 2, none⟩ = some (.slice A0_2 l0_2.length c0_2) := (Z2 BK253.out 2).trans rfl; have hfz19_0 := Z1 BK253.out 0; have hfz19_1 := Z1 BK253.out 1; have hfz19_2 := Z1 BK253.out 2) | ((with_reducible refine X1 (f := 34) rfl ?_); refine goesL_ (some 8) rfl rfl Tryz.func34 (by kernel_rfl) rfl #[.agg #[.int .i64 a0_0, .slice A0_1 l0_1.length c0_1, .slice A0_2 l0_2.length c0_2]] rfl (by (try simp only [Y2, Y7, Y8]); first | done | rfl) ?_; (with_reducible refine (table_Validate.calls k a0_0 _ _ l0_1 _ _ l0_2 t254 _ ?side1 ?side2 ?side3 ?side4 A3.out).mono ?_); (case side1 => repeat (first | exact (Kd.C_below HR0_1.out HB.out) | (with_reducible refine Kd.C_alloc ?_ _) | (with_reducible refine Kd.C_drewN ?_ _) | (with_reducible refine Kd.C_drew ?_))); (case side2 => exact HC0_1.out); (case side3 => repeat (first | exact (Kd.C_below HR0_2.out HB.out) | (with_reducible refine Kd.C_alloc ?_ _) | (with_reducible refine Kd.C_drewN ?_ _) | (with_reducible refine Kd.C_drew ?_))); (case side4 => exact HC0_2.out); rintro e w20 ⟨rfl, hb⟩; refine ⟨_, rfl, ?_⟩; have n0_ := Z0 (Y1 (g := gb253) (o := .cells #[.int .i64 a0_0, .slice A0_1 l0_1.length c0_1, .slice A0_2 l0_2.length c0_2] 35 (0, 0)) BK253.out hb); have n1_ := Z0 (Y0 HB.out hb); clear BK253; clear HB; have BK253 := n0_; have HB := n1_; clear n0_ n1_; (try clear hb); (try clear hb2); (try clear hk); (try clear hi); have hcz21_0 : w20.cell? ⟨gb253, 0, none⟩ = some (.int .i64 a0_0) := (Z2 BK253.out 0).trans rfl; have hcz21_1 : w20.cell? ⟨gb253, 1, none⟩ = some (.slice A0_1 l0_1.length c0_1) := (Z2 BK253.out 1).trans rfl; have hcz21_2 : w20.cell? ⟨gb253, 2, none⟩ = some (.slice A0_2 l0_2.length c0_2) := (Z2 BK253.out 2).trans rfl; have hfz21_0 := Z1 BK253.out 0; have hfz21_1 := Z1 BK253.out 1; have hfz21_2 := Z1 BK253.out 2))
      have n0_ := Z0 (Y5 BK253.out)
      have n1_ := Z0 (Z9 HB.out)
      clear BK253
      clear HB
      have BK253 := n0_
      have HB := n1_
      clear n0_ n1_
      have p255 : 0 ≤ ((ji14) : Int) := of_decide_eq_true (by first | (with_reducible assumption) | assumption)
      have q255 : (ji14) < (l0_2.length : Int) := of_decide_eq_true (by first | (with_reducible assumption) | assumption)
      obtain ⟨ad255, A255_1, c255_1, e255, hx255_0, hx255_1, hl255_1, hi255_1⟩ := at_T46 HR0_2.out (ji14) p255 q255
      have hw255_1 := hx255_1
      have hw255_0 := hx255_0
      cases e255
      replace hx255_0 := (HB.out.cell (World.block_lt_of_cell? w _ hx255_0)).trans hx255_0
      replace hx255_1 := (HB.out.cell (World.block_lt_of_cell? w _ hx255_1)).trans hx255_1
      have HR255_1 := Z0 hi255_1
      have HC255_1 := Z0 hl255_1
      clear hi255_1 hl255_1
      replace p255 := eq_true p255
      replace q255 := eq_true q255
      refine start_ (n := 11) (S := fun w' => w'.cell? ⟨gb253, 0, none⟩ = some (.int .i64 a0_0) ∧ w'.cell? ⟨gb253, 1, none⟩ = some (.slice A0_1 l0_1.length c0_1) ∧ w'.cell? ⟨gb253, 2, none⟩ = some (.slice (some ad255) l0_2.length c0_2) ∧ w'.cell? (ad255.add (((ji14)).toNat * 2)) = some (.bool ((rd_T46 l0_2 (ji14)).f0)) ∧ w'.cell? ⟨(ad255.add (((ji14)).toNat * 2)).block, (ad255.add (((ji14)).toNat * 2)).off + 1, none⟩ = some (.slice A255_1 ((rd_T46 l0_2 (ji14)).f1).length c255_1)) (ds := []) #[false, false, false, false, false, false, false, false, false, false, false] (by kernel_rfl) rfl rfl ⟨(Z2 BK253.out 0).trans rfl, (Z2 BK253.out 1).trans rfl, (Z2 BK253.out 2).trans rfl, ((HB.out.cell (World.block_lt_of_cell? w _ hw255_0)).trans hw255_0), ((HB.out.cell (World.block_lt_of_cell? w _ hw255_1)).trans hw255_1)⟩ (fun hHeld => ?_); refine with_tabW table_Row.tab6 table_Row.bits6 (fun HT_ HW_ => ?_)
      generalize w20.drew = w22 at BK253 HB HR255_1 hx255_0 hx255_1 hHeld ⊢
      refine pure_ (i := 0) (N := some 21) (v := ?_) (a' := ?_) #[true, false, false, false, false, false, false, false, false, false, false] rfl rfl (any_of HT_.out (by kernel_rfl)) (fun _ _ _ h => h) (Or.inl ⟨by rfl, ?_⟩) ?_ ?_
      rotate_left
      ·intro w'
       go_simp
       with_reducible rfl
      rotate_left
      ·simp only [Act.put, Z3, Z5, Z6, i64_w, i32_w]
       rfl
      refine pure_ (i := 2) (N := some 23) (v := ?_) (a' := ?_) #[true, false, true, false, false, false, false, false, false, false, false] rfl rfl (any_of HT_.out (by kernel_rfl)) (fun _ _ _ h => h) (Or.inl ⟨by rfl, ?_⟩) ?_ ?_
      rotate_left
      ·intro w'
       go_simp
       with_reducible rfl
      rotate_left
      ·simp only [Act.put, Z3, Z5, Z6, i64_w, i32_w]
       rfl
      refine pure_ (i := 4) (N := some 25) (v := ?_) (a' := ?_) #[true, false, true, false, true, false, false, false, false, false, false] rfl rfl (any_of HT_.out (by kernel_rfl)) (fun _ _ _ h => h) (Or.inl ⟨by rfl, ?_⟩) ?_ ?_
      rotate_left
      ·intro w'
       go_simp
       with_reducible rfl
      rotate_left
      ·simp only [Act.put, Z3, Z5, Z6, i64_w, i32_w]
       rfl
      refine pure_ (i := 5) (N := some 26) (v := ?_) (a' := ?_) #[true, false, true, false, true, true, false, false, false, false, false] rfl rfl (any_of HT_.out (by kernel_rfl)) (fun _ _ _ h => h) (Or.inl ⟨by rfl, ?_⟩) ?_ ?_
      rotate_left
      ·intro w'
       go_simp
       with_reducible rfl
      rotate_left
      ·simp only [Act.put, Z3, Z5, Z6, i64_w, i32_w]
       rfl
      refine take_ (i := 1) (N := some 22) (v := ?_) (a' := ?_) #[true, true, true, false, true, true, false, false, false, false, false] rfl rfl (take_ofW HT_.out HW_.out (by kernel_rfl)) (fun _ _ _ h => h) (Or.inl ⟨by rfl, ?_⟩) hHeld ?_ ?_
      rotate_left
      ·rintro w' ⟨s0, s1, s2, s3, s4⟩
       go_simp
       with_reducible rfl
      rotate_left
      ·simp only [Act.put, Z3, Z5, Z6, i64_w, i32_w]
       rfl
      refine take_ (i := 3) (N := some 24) (v := ?_) (a' := ?_) #[true, true, true, true, true, true, false, false, false, false, false] rfl rfl (take_ofW HT_.out HW_.out (by kernel_rfl)) (fun _ _ _ h => h) (Or.inl ⟨by rfl, ?_⟩) hHeld ?_ ?_
      rotate_left
      ·rintro w' ⟨s0, s1, s2, s3, s4⟩
       go_simp
       with_reducible rfl
      rotate_left
      ·simp only [Act.put, Z3, Z5, Z6, i64_w, i32_w]
       rfl
      refine pure_ (i := 6) (N := some 27) (v := ?_) (a' := ?_) #[true, true, true, true, true, true, true, false, false, false, false] rfl rfl (any_of HT_.out (by kernel_rfl)) (fun _ _ _ h => h) (Or.inl ⟨by rfl, ?_⟩) ?_ ?_
      rotate_left
      ·intro w'
       go_simp
       with_reducible rfl
      rotate_left
      ·simp only [Act.put, Z3, Z5, Z6, i64_w, i32_w]
       rfl
      refine take_ (i := 7) (N := some 28) (v := ?_) (a' := ?_) #[true, true, true, true, true, true, true, true, false, false, false] rfl rfl (take_ofW HT_.out HW_.out (by kernel_rfl)) (fun _ _ _ h => h) (Or.inl ⟨by rfl, ?_⟩) hHeld ?_ ?_
      rotate_left
      ·rintro w' ⟨s0, s1, s2, s3, s4⟩
       go_simp
       with_reducible rfl
      rotate_left
      ·simp only [Act.put, Z3, Z5, Z6, i64_w, i32_w]
       rfl
      refine one_ (i := 8) (N := some 29) #[true, true, true, true, true, true, true, true, true, false, false] rfl rfl (one_of HT_.out (by kernel_rfl)) (by decide) (fun K hK => ?_)
      refine goes_ Tryz.func63 (by kernel_rfl) rfl #[.slice A0_1 l0_1.length c0_1, .agg #[.bool ((rd_T46 l0_2 (ji14)).f0), .slice A255_1 ((rd_T46 l0_2 (ji14)).f1).length c255_1]] (by rfl) rfl rfl (by (try simp only [Y2, Y7, Y8]); first | done | (simp only [hji14]; rfl) | rfl | (simp only [List.length_drop, List.length_take]; rfl)) ?_
      with_reducible refine (table_row.calls _ _ l0_1 ((rd_T46 l0_2 (ji14)).f0) _ _ ((rd_T46 l0_2 (ji14)).f1) t256 _ ?side1 ?side2 ?side3 ?side4 A17.out).mono ?_
      (case side1 => repeat (first | exact (Kd.C_below HR0_1.out HB.out) | (with_reducible refine Kd.C_alloc ?_ _) | (with_reducible refine Kd.C_drewN ?_ _) | (with_reducible refine Kd.C_drew ?_)))
      (case side2 => exact HC0_1.out)
      (case side3 => repeat (first | exact (Kd.C_below HR255_1.out HB.out) | (with_reducible refine Kd.C_alloc ?_ _) | (with_reducible refine Kd.C_drewN ?_ _) | (with_reducible refine Kd.C_drew ?_)))
      (case side4 => exact HC255_1.out)
      rintro e w23 ⟨v257, rfl, ho0, hb⟩
      refine ⟨_, rfl, ?_⟩
      have n0_ := Z0 (Kd.R_lower ho0 (Y6 HB.out))
      have n1_ := Z0 (Y1 (g := gb253) (o := .cells #[.int .i64 a0_0, .slice A0_1 l0_1.length c0_1, .slice (some ad255) l0_2.length c0_2] 35 (0, 0)) BK253.out hb)
      have n2_ := Z0 (Y0 HB.out hb)
      clear BK253
      clear HB
      have HO258 := n0_
      have BK253 := n1_
      have HB := n2_
      clear n0_ n1_ n2_
      (try clear hb)
      (try clear hb2)
      (try clear hk)
      (try clear hi)
      (try clear ho0)
      refine hK.out _ _ ⟨(Z2 BK253.out 0).trans rfl, (Z2 BK253.out 1).trans rfl, (Z2 BK253.out 2).trans rfl, ((HB.out.cell (World.block_lt_of_cell? w _ hw255_0)).trans hw255_0), ((HB.out.cell (World.block_lt_of_cell? w _ hw255_1)).trans hw255_1)⟩ (fun hHeld => ?_)
      clear hK K
      refine norm_ (a' := ?_) ?_ ?_
      rotate_left
      ·show Act.put _ (some 29) _ = _
       simp only [Act.put, Z3, Z5, Z6, i64_w, i32_w]
       rfl
      refine pure_ (i := 9) (N := some 4) (v := ?_) (a' := ?_) #[true, true, true, true, true, true, true, true, true, true, false] rfl rfl (any_of HT_.out (by kernel_rfl)) (fun _ _ _ h => h) (Or.inl ⟨by rfl, ?_⟩) ?_ ?_
      rotate_left
      ·intro w'
       go_simp
       with_reducible rfl
      rotate_left
      ·simp only [Act.put, Z3, Z5, Z6, i64_w, i32_w]
       rfl
      refine pure_ (i := 10) (N := some 5) (v := ?_) (a' := ?_) #[true, true, true, true, true, true, true, true, true, true, true] rfl rfl (any_of HT_.out (by kernel_rfl)) (fun _ _ _ h => h) (Or.inl ⟨by rfl, ?_⟩) ?_ ?_
      rotate_left
      ·intro w'
       go_simp
       with_reducible rfl
      rotate_left
      ·simp only [Act.put, Z3, Z5, Z6, i64_w, i32_w]
       rfl
      refine done_ (done_of HT_.out (by kernel_rfl)) ?_
      try go_wp2
      go_ret2
      exact ⟨_, by first | rfl | (simp [errW_none, errW_some] <;> rfl) | (simp only [← hji14]; first | rfl | (simp [errW_none, errW_some] <;> rfl)) | (simp [*, errW_none, errW_some] <;> rfl), by (with_reducible repeat (first | apply Kd.R_alloc | apply Kd.R_drewN | apply Kd.R_drew)); exact HO258.out, by repeat (first | (with_reducible first | exact HB.out | apply Z7 | apply Z4 | apply Z9 | refine Z8 ?_ GE253.out) | exact HB.out)⟩
     ·rw [if_neg c16] at H
      exact absurd H (by simp)
    ·rw [if_neg c15] at H
     exact absurd H (by simp)
 ·rw [if_neg c4] at H
  have c4b0 : (t254 == 0) = false := beq_eq_false_iff_ne.mpr c4
  have c4b1 : (t254 != 0) = true := bne_iff_ne.mpr c4
  simp only [Option.some.injEq, Prod.mk.injEq] at H
  obtain ⟨rfl, rfl⟩ := H
  go_enter Tryz.func21, Tryz.ntmps21
  go_wp2_with (first | ((with_reducible refine X0 (N := 2) rfl ?_); (try (refine gate_guard (by rfl) ?_; dsimp only)); refine Y9 ?hg (N := 2) ?hd (cs := #[.int .i64 a0_0, .slice A0_1 l0_1.length c0_1, .slice A0_2 l0_2.length c0_2]) (t := 35) ?hr ?_; (case hd => rfl); (case hg => rfl); (case hr => go_simp; try rfl); intro gb253 hg w24 hbox hb; have n0_ := Z0 (Y0 HB.out hb); have n1_ := Z0 (hbox); have n3_ := Z0 ((by rw [hg]; exact (Y6 HB.out) : w.heap.size ≤ gb253)); clear HB; have HB := n0_; have BK253 := n1_; have GE253 := n3_; clear n0_ n1_ n3_; clear hb hbox hg; have hcz25_0 : w24.cell? ⟨gb253, 0, none⟩ = some (.int .i64 a0_0) := (Z2 BK253.out 0).trans rfl; have hcz25_1 : w24.cell? ⟨gb253, 1, none⟩ = some (.slice A0_1 l0_1.length c0_1) := (Z2 BK253.out 1).trans rfl; have hcz25_2 : w24.cell? ⟨gb253, 2, none⟩ = some (.slice A0_2 l0_2.length c0_2) := (Z2 BK253.out 2).trans rfl; have hfz25_0 := Z1 BK253.out 0; have hfz25_1 := Z1 BK253.out 1; have hfz25_2 := Z1 BK253.out 2) | ((with_reducible refine X1 (f := 34) rfl ?_); refine goesL_ (some 8) rfl rfl Tryz.func34 (by kernel_rfl) rfl #[.agg #[.int .i64 a0_0, .slice A0_1 l0_1.length c0_1, .slice A0_2 l0_2.length c0_2]] rfl (by (try simp only [Y2, Y7, Y8]); first | done | rfl) ?_; (with_reducible refine (table_Validate.calls k a0_0 _ _ l0_1 _ _ l0_2 t254 _ ?side1 ?side2 ?side3 ?side4 A3.out).mono ?_); (case side1 => repeat (first | exact (Kd.C_below HR0_1.out HB.out) | (with_reducible refine Kd.C_alloc ?_ _) | (with_reducible refine Kd.C_drewN ?_ _) | (with_reducible refine Kd.C_drew ?_))); (case side2 => exact HC0_1.out); (case side3 => repeat (first | exact (Kd.C_below HR0_2.out HB.out) | (with_reducible refine Kd.C_alloc ?_ _) | (with_reducible refine Kd.C_drewN ?_ _) | (with_reducible refine Kd.C_drew ?_))); (case side4 => exact HC0_2.out); rintro e w26 ⟨rfl, hb⟩; refine ⟨_, rfl, ?_⟩; have n0_ := Z0 (Y1 (g := gb253) (o := .cells #[.int .i64 a0_0, .slice A0_1 l0_1.length c0_1, .slice A0_2 l0_2.length c0_2] 35 (0, 0)) BK253.out hb); have n1_ := Z0 (Y0 HB.out hb); clear BK253; clear HB; have BK253 := n0_; have HB := n1_; clear n0_ n1_; (try clear hb); (try clear hb2); (try clear hk); (try clear hi)))
  go_ret2
  exact ⟨_, rfl, by first | exact Kd.R_nil _ _ _ _ _ | exact Kd.N_nil _ _ _ _ _ | exact Kd.V_nil _ _ _ _ _ | exact Kd.Q_nil _ _ _ _ _ | exact Kd.S_nil _ _ _ _ _, by repeat (first | (with_reducible first | exact HB.out | apply Z7 | apply Z4 | apply Z9 | refine Z8 ?_ GE253.out) | exact HB.out)⟩
end Go.Proofs.YtldpdidlfbphcaaGreatDoor.P
end
section
namespace Go.Proofs.YtldpdidlfbphcaaGreatDoor.P
open Go.RowKit Go.Proofs.YtldpdidlfbphcaaGreatDoorW.PrintWords Go.Proofs.YtldpdidlfbphcaaGreatDoorW.PrintLast Go.Proofs.YtldpdidlfbphcaaGreatDoorW.PrintMore
theorem k46_mkF (W : World) (ok : Nat → Prop) (x : S46) {A1 : Option Addr} {c1 : Nat} (l1 : x.f1.length ≤ c1) (g1 : Kd.F k25 W ok A1 x.f1.length x.f1) : Kd.FK k46 W ok x [.bool x.f0, .slice A1 x.f1.length c1] := fun W2 hW => k46_mk W2 x l1 (g1 W2 hW)
attribute [local go_sem] max2_int min2_int max_two min_two max_three min_three max_four min_four
def known.f0 (k : Nat)  : Option (Bool) := (some (([(⟨(⟨#[65]⟩ : ByteArray), 4, 3, false⟩ : S23)] : List (S23)) : List (S23))).bind fun y182 => ((cabinetryref01_Text.f (⟨#[97, 98]⟩ : ByteArray)).bind fun bt185 => ((some (([(⟨false, (([(⟨bt185.1, bt185.2.1, bt185.2.2⟩ : S25)] : List (S25)))⟩ : S46)] : List (S46)) : List (S46))).bind fun y191 => ((table_Header.f k 0 y182 y191).bind fun bt195 => ((table_Row.f k 0 y182 y191 1).bind fun bt199 => ((cabinetryref01_Text.f (⟨#[97, 98, 32]⟩ : ByteArray)).bind fun bt203 => ((table_Fit.f (⟨#[65]⟩ : ByteArray) 4 2 false 0 bt203.1 bt203.2.1 bt203.2.2).bind fun bt206 => (if bt195.2 = 0 then (if (bt195.1.length : Int) = 29 then (if bt199.2 = 0 then (if (strOfNums bt199.1).toList = ([32, 97, 98, 32] : List UInt8) then (if bt206.2.2.2 = 0 then (some (bt206.2.2.1.toList == ([97, 98] : List UInt8))) else (some false)) else (some false)) else (some false)) else (some false)) else (some false))))))))
theorem known_size : (Tryz.prog.info? 25).map (·.size) = some 3 := by kernel_rfl
set_option maxHeartbeats 8000000 in
set_option maxRecDepth 100000 in
theorem known_calls (k : Nat) (w : World) (h : known.f0 k = some true) :
  Calls Tryz.prog 12 #[] w fun e w' => e = .returned (.bool true) ∧ Below w.heap.size w w' := by
 have hu23 := Tryz.underlying23
 have hu46 := Tryz.underlying46
 have hu35 := Tryz.underlying35
 have hu25 := Tryz.underlying25
 have HB := Z0 (Below.refl w.heap.size w)
 have H : ((some (([(⟨(⟨#[65]⟩ : ByteArray), 4, 3, false⟩ : S23)] : List (S23)) : List (S23))).bind fun y182 => ((cabinetryref01_Text.f (⟨#[97, 98]⟩ : ByteArray)).bind fun bt185 => ((some (([(⟨false, (([(⟨bt185.1, bt185.2.1, bt185.2.2⟩ : S25)] : List (S25)))⟩ : S46)] : List (S46)) : List (S46))).bind fun y191 => ((table_Header.f k 0 y182 y191).bind fun bt195 => ((table_Row.f k 0 y182 y191 1).bind fun bt199 => ((cabinetryref01_Text.f (⟨#[97, 98, 32]⟩ : ByteArray)).bind fun bt203 => ((table_Fit.f (⟨#[65]⟩ : ByteArray) 4 2 false 0 bt203.1 bt203.2.1 bt203.2.2).bind fun bt206 => (if bt195.2 = 0 then (if (bt195.1.length : Int) = 29 then (if bt199.2 = 0 then (if (strOfNums bt199.1).toList = ([32, 97, 98, 32] : List UInt8) then (if bt206.2.2.2 = 0 then (some (bt206.2.2.1.toList == ([97, 98] : List UInt8))) else (some false)) else (some false)) else (some false)) else (some false)) else (some false))))))))) = some true := h
 clear h
 obtain ⟨y182, hy182⟩ : ∃ y_ : List (S23), y_ = (([(⟨(⟨#[65]⟩ : ByteArray), 4, 3, false⟩ : S23)] : List (S23))) := ⟨_, rfl⟩
 replace H : ((cabinetryref01_Text.f (⟨#[97, 98]⟩ : ByteArray)).bind fun bt185 => ((some (([(⟨false, (([(⟨bt185.1, bt185.2.1, bt185.2.2⟩ : S25)] : List (S25)))⟩ : S46)] : List (S46)) : List (S46))).bind fun y191 => ((table_Header.f k 0 y182 y191).bind fun bt195 => ((table_Row.f k 0 y182 y191 1).bind fun bt199 => ((cabinetryref01_Text.f (⟨#[97, 98, 32]⟩ : ByteArray)).bind fun bt203 => ((table_Fit.f (⟨#[65]⟩ : ByteArray) 4 2 false 0 bt203.1 bt203.2.1 bt203.2.2).bind fun bt206 => (if bt195.2 = 0 then (if (bt195.1.length : Int) = 29 then (if bt199.2 = 0 then (if (strOfNums bt199.1).toList = ([32, 97, 98, 32] : List UInt8) then (if bt206.2.2.2 = 0 then (some (bt206.2.2.1.toList == ([97, 98] : List UInt8))) else (some false)) else (some false)) else (some false)) else (some false)) else (some false)))))))) = some true := by rw [hy182]; exact H
 have Ny182 := Z0 hy182
 clear hy182
 replace H := Option.bind_eq_some_iff.mp H
 obtain ⟨⟨t185, t186, t187⟩, A10, H⟩ := H
 replace H : ((some (([(⟨false, (([(⟨t185, t186, t187⟩ : S25)] : List (S25)))⟩ : S46)] : List (S46)) : List (S46))).bind fun y191 => ((table_Header.f k 0 y182 y191).bind fun bt195 => ((table_Row.f k 0 y182 y191 1).bind fun bt199 => ((cabinetryref01_Text.f (⟨#[97, 98, 32]⟩ : ByteArray)).bind fun bt203 => ((table_Fit.f (⟨#[65]⟩ : ByteArray) 4 2 false 0 bt203.1 bt203.2.1 bt203.2.2).bind fun bt206 => (if bt195.2 = 0 then (if (bt195.1.length : Int) = 29 then (if bt199.2 = 0 then (if (strOfNums bt199.1).toList = ([32, 97, 98, 32] : List UInt8) then (if bt206.2.2.2 = 0 then (some (bt206.2.2.1.toList == ([97, 98] : List UInt8))) else (some false)) else (some false)) else (some false)) else (some false)) else (some false))))))) = some true := H
 have A1 := Z0 A10
 clear A10
 obtain ⟨y188, hy188⟩ : ∃ y_ : List (S25), y_ = (([(⟨t185, t186, t187⟩ : S25)] : List (S25))) := ⟨_, rfl⟩
 replace H : ((some (([(⟨false, y188⟩ : S46)] : List (S46)) : List (S46))).bind fun y191 => ((table_Header.f k 0 y182 y191).bind fun bt195 => ((table_Row.f k 0 y182 y191 1).bind fun bt199 => ((cabinetryref01_Text.f (⟨#[97, 98, 32]⟩ : ByteArray)).bind fun bt203 => ((table_Fit.f (⟨#[65]⟩ : ByteArray) 4 2 false 0 bt203.1 bt203.2.1 bt203.2.2).bind fun bt206 => (if bt195.2 = 0 then (if (bt195.1.length : Int) = 29 then (if bt199.2 = 0 then (if (strOfNums bt199.1).toList = ([32, 97, 98, 32] : List UInt8) then (if bt206.2.2.2 = 0 then (some (bt206.2.2.1.toList == ([97, 98] : List UInt8))) else (some false)) else (some false)) else (some false)) else (some false)) else (some false))))))) = some true := by rw [hy188]; exact H
 have Ny188 := Z0 hy188
 clear hy188
 obtain ⟨y191, hy191⟩ : ∃ y_ : List (S46), y_ = (([(⟨false, y188⟩ : S46)] : List (S46))) := ⟨_, rfl⟩
 replace H : ((table_Header.f k 0 y182 y191).bind fun bt195 => ((table_Row.f k 0 y182 y191 1).bind fun bt199 => ((cabinetryref01_Text.f (⟨#[97, 98, 32]⟩ : ByteArray)).bind fun bt203 => ((table_Fit.f (⟨#[65]⟩ : ByteArray) 4 2 false 0 bt203.1 bt203.2.1 bt203.2.2).bind fun bt206 => (if bt195.2 = 0 then (if (bt195.1.length : Int) = 29 then (if bt199.2 = 0 then (if (strOfNums bt199.1).toList = ([32, 97, 98, 32] : List UInt8) then (if bt206.2.2.2 = 0 then (some (bt206.2.2.1.toList == ([97, 98] : List UInt8))) else (some false)) else (some false)) else (some false)) else (some false)) else (some false)))))) = some true := by rw [hy191]; exact H
 have Ny191 := Z0 hy191
 clear hy191
 replace H := Option.bind_eq_some_iff.mp H
 obtain ⟨⟨t195, t198⟩, A20, H⟩ := H
 replace H : ((table_Row.f k 0 y182 y191 1).bind fun bt199 => ((cabinetryref01_Text.f (⟨#[97, 98, 32]⟩ : ByteArray)).bind fun bt203 => ((table_Fit.f (⟨#[65]⟩ : ByteArray) 4 2 false 0 bt203.1 bt203.2.1 bt203.2.2).bind fun bt206 => (if t198 = 0 then (if (t195.length : Int) = 29 then (if bt199.2 = 0 then (if (strOfNums bt199.1).toList = ([32, 97, 98, 32] : List UInt8) then (if bt206.2.2.2 = 0 then (some (bt206.2.2.1.toList == ([97, 98] : List UInt8))) else (some false)) else (some false)) else (some false)) else (some false)) else (some false))))) = some true := H
 have A2 := Z0 A20
 clear A20
 replace H := Option.bind_eq_some_iff.mp H
 obtain ⟨⟨t199, t202⟩, A30, H⟩ := H
 replace H : ((cabinetryref01_Text.f (⟨#[97, 98, 32]⟩ : ByteArray)).bind fun bt203 => ((table_Fit.f (⟨#[65]⟩ : ByteArray) 4 2 false 0 bt203.1 bt203.2.1 bt203.2.2).bind fun bt206 => (if t198 = 0 then (if (t195.length : Int) = 29 then (if t202 = 0 then (if (strOfNums t199).toList = ([32, 97, 98, 32] : List UInt8) then (if bt206.2.2.2 = 0 then (some (bt206.2.2.1.toList == ([97, 98] : List UInt8))) else (some false)) else (some false)) else (some false)) else (some false)) else (some false)))) = some true := H
 have A3 := Z0 A30
 clear A30
 replace H := Option.bind_eq_some_iff.mp H
 obtain ⟨⟨t203, t204, t205⟩, A40, H⟩ := H
 replace H : ((table_Fit.f (⟨#[65]⟩ : ByteArray) 4 2 false 0 t203 t204 t205).bind fun bt206 => (if t198 = 0 then (if (t195.length : Int) = 29 then (if t202 = 0 then (if (strOfNums t199).toList = ([32, 97, 98, 32] : List UInt8) then (if bt206.2.2.2 = 0 then (some (bt206.2.2.1.toList == ([97, 98] : List UInt8))) else (some false)) else (some false)) else (some false)) else (some false)) else (some false))) = some true := H
 have A4 := Z0 A40
 clear A40
 replace H := Option.bind_eq_some_iff.mp H
 obtain ⟨⟨t206, t207, t208, t209⟩, A50, H⟩ := H
 replace H : (if t198 = 0 then (if (t195.length : Int) = 29 then (if t202 = 0 then (if (strOfNums t199).toList = ([32, 97, 98, 32] : List UInt8) then (if t209 = 0 then (some (t208.toList == ([97, 98] : List UInt8))) else (some false)) else (some false)) else (some false)) else (some false)) else (some false)) = some true := H
 have A5 := Z0 A50
 clear A50
 by_cases c6 : t198 = 0
 ·rw [if_pos c6] at H
  have c6b0 : (t198 == 0) = true := beq_iff_eq.mpr c6
  have c6b1 : (t198 != 0) = false := bne_eq_false_iff_eq.mpr c6
  clear c6
  by_cases c7 : (t195.length : Int) = 29
  ·rw [if_pos c7] at H
   have c7b0 : ((t195.length : Int) == 29) = true := beq_iff_eq.mpr c7
   have c7b1 : ((t195.length : Int) != 29) = false := bne_eq_false_iff_eq.mpr c7
   clear c7
   by_cases c8 : t202 = 0
   ·rw [if_pos c8] at H
    have c8b0 : (t202 == 0) = true := beq_iff_eq.mpr c8
    have c8b1 : (t202 != 0) = false := bne_eq_false_iff_eq.mpr c8
    clear c8
    by_cases c9 : (strOfNums t199).toList = ([32, 97, 98, 32] : List UInt8)
    ·rw [if_pos c9] at H
     have c9b0 : ((strOfNums t199).toList == ([32, 97, 98, 32] : List UInt8)) = true := beq_iff_eq.mpr c9
     have c9b1 : ((strOfNums t199).toList != ([32, 97, 98, 32] : List UInt8)) = false := bne_eq_false_iff_eq.mpr c9
     clear c9
     by_cases c10 : t209 = 0
     ·rw [if_pos c10] at H
      have c10b0 : (t209 == 0) = true := beq_iff_eq.mpr c10
      have c10b1 : (t209 != 0) = false := bne_eq_false_iff_eq.mpr c10
      clear c10
      have HR := Option.some.inj H
      go_enter Tryz.func12, Tryz.ntmps12
      go_wp2_with (first | ((with_reducible refine X0 (N := 9) rfl ?_); (try (refine gate_guard (by rfl) ?_; dsimp only)); refine Kd.R_lit k23 _ 23 ?hg (N := 9) ?hd (xs := ([(⟨(⟨#[65]⟩ : ByteArray), 4, 3, false⟩ : S23)] : List (S23))) (inner := [.string (⟨#[65]⟩ : ByteArray), .int .i64 4, .int .i64 3, .bool false]) (ok := fun _ => True) (okp := fun _ => True) ?hr ?hp (fun _ hk => hk) trivial (Below.refl _ _) (Nat.le_refl _) (by simp) ?_; (case hd => rfl); (case hg => rfl); (case hr => go_simp; try rfl); (case hp => exact (Reps.c4 (show Kd.M k23 _ _ _ (⟨(⟨#[65]⟩ : ByteArray), 4, 3, false⟩ : S23) [.string (⟨#[65]⟩ : ByteArray), .int .i64 4, .int .i64 3, .bool false] from (k23_mkM _ _ _ (⟨(⟨#[65]⟩ : ByteArray), 4, 3, false⟩ : S23) )) (Reps.none _ _))); intro v183 w11 ho12 hb hg_ hnew_; clear hg_ hnew_; (first | rw [← Ny182.out] at ho12 | (simp only [Int.reduceToNat] at ho12; rw [← Ny182.out] at ho12)); have n0_ := Z0 (Kd.R_lower ho12 (Y6 (by repeat (first | (with_reducible first | exact HB.out | apply Z7 | apply Z4 | apply Z9) | exact HB.out)))); have n1_ := Z0 (Y0 (by repeat (first | (with_reducible first | exact HB.out | apply Z7 | apply Z4 | apply Z9) | exact HB.out)) hb); clear HB; have HO184 := n0_; have HB := n1_; clear n0_ n1_; clear hb ho12) | ((with_reducible refine X1 (f := 46) rfl ?_); refine goesL_ (some 10) rfl rfl Tryz.func46 (by kernel_rfl) rfl #[.string (⟨#[97, 98]⟩ : ByteArray)] rfl (by (try simp only [Y2, Y7, Y8]); first | done | rfl) ?_; (with_reducible refine (cabinetryref01_Text.calls (⟨#[97, 98]⟩ : ByteArray) t185 t186 t187 _ A1.out).mono ?_); rintro e w13 ⟨rfl, hb⟩; refine ⟨_, rfl, ?_⟩; have n0_ := Z0 (Kd.R_below HO184.out hb); have n1_ := Z0 (Y0 (by repeat (first | (with_reducible first | exact HB.out | apply Z7 | apply Z4 | apply Z9) | exact HB.out)) hb); clear HO184; clear HB; have HO184 := n0_; have HB := n1_; clear n0_ n1_; (try clear hb); (try clear hb2); (try clear hk); (try clear hi)) | ((with_reducible refine X0 (N := 11) rfl ?_); (try (refine gate_guard (by rfl) ?_; dsimp only)); refine Kd.R_lit k25 _ 25 ?hg (N := 11) ?hd (xs := ([(⟨t185, t186, t187⟩ : S25)] : List (S25))) (inner := [.int .i64 t185, .int .i64 t186, .string t187]) (ok := fun _ => True) (okp := fun _ => True) ?hr ?hp (fun _ hk => hk) trivial (Below.refl _ _) (Nat.le_refl _) (by simp) ?_; (case hd => rfl); (case hg => rfl); (case hr => go_simp; try rfl); (case hp => exact (Reps.c3 (show Kd.M k25 _ _ _ (⟨t185, t186, t187⟩ : S25) [.int .i64 t185, .int .i64 t186, .string t187] from (k25_mkM _ _ _ (⟨t185, t186, t187⟩ : S25) )) (Reps.none _ _))); intro v189 w14 ho15 hb hg_ hnew_; clear hg_ hnew_; (first | rw [← Ny188.out] at ho15 | (simp only [Int.reduceToNat] at ho15; rw [← Ny188.out] at ho15)); have n0_ := Z0 (Kd.R_below HO184.out hb); have n1_ := Z0 (Kd.R_lower ho15 (Y6 (by repeat (first | (with_reducible first | exact HB.out | apply Z7 | apply Z4 | apply Z9) | exact HB.out)))); have n2_ := Z0 (Y0 (by repeat (first | (with_reducible first | exact HB.out | apply Z7 | apply Z4 | apply Z9) | exact HB.out)) hb); clear HO184; clear HB; have HO184 := n0_; have HO190 := n1_; have HB := n2_; clear n0_ n1_ n2_; clear hb ho15; obtain ⟨Ao16, co16, eo16⟩ := Kd.R_slice HO190.out; subst eo16) | ((with_reducible refine X0 (N := 13) rfl ?_); (try (refine gate_guard (by rfl) ?_; dsimp only)); refine Kd.N_lit k46 _ 46 ?hg (N' := 13) ?hd (xs := ([(⟨false, y188⟩ : S46)] : List (S46))) (inner := [.bool false, .slice Ao16 y188.length co16]) (ok := (fun k_ => some k_ ≠ (v183 : Value).ownBlock)) (okp := (fun k_ => some k_ ≠ (v183 : Value).ownBlock)) ?hr ?hp (fun _ hk => hk) ((show ∀ k_, w14.heap.size ≤ k_ → (fun k_ => some k_ ≠ (v183 : Value).ownBlock) k_ from fun k_ hk => Kd.fresh' (Kd.R_lt HO184.out) k_ hk) _ (Nat.le_refl _)) (Below.refl _ _) (Nat.le_refl _) (by simp) ?_; (case hd => rfl); (case hg => rfl); (case hr => go_simp; try rfl); (case hp => exact (Reps.c2 (show Kd.FK k46 _ _ (⟨false, y188⟩ : S46) [.bool false, .slice Ao16 y188.length co16] from (k46_mkF _ _ (⟨false, y188⟩ : S46) (Kd.R_reads' (Kd.R_mono (ok' := (fun k_ => some k_ ≠ (v183 : Value).ownBlock)) (Kd.R_apart' (HO190.out) (Kd.R_typed HO184.out) (by decide)) (fun k_ hk => hk.2))).2.1 (Kd.R_F (Kd.R_mono (ok' := (fun k_ => some k_ ≠ (v183 : Value).ownBlock)) (Kd.R_apart' (HO190.out) (Kd.R_typed HO184.out) (by decide)) (fun k_ hk => hk.2))))) (Reps.none _ _))); intro v192 w17 ho18 hb hg_ hnew_; clear hg_ hnew_; (first | rw [← Ny191.out] at ho18 | (simp only [Int.reduceToNat] at ho18; rw [← Ny191.out] at ho18)); have n0_ := Z0 (Kd.R_below HO184.out hb); have n1_ := Z0 (Kd.N_lower ho18 (Y6 (by repeat (first | (with_reducible first | exact HB.out | apply Z7 | apply Z4 | apply Z9) | exact HB.out)))); have n2_ := Z0 (Y0 (by repeat (first | (with_reducible first | exact HB.out | apply Z7 | apply Z4 | apply Z9) | exact HB.out)) hb); clear HO184; clear HB; clear HO190; have HO184 := n0_; have HO193 := n1_; have HB := n2_; clear n0_ n1_ n2_; clear hb ho18; obtain ⟨Ao19, co19, eo19⟩ := Kd.N_slice HO193.out; subst eo19; obtain ⟨Ao20, co20, eo20⟩ := Kd.R_slice HO184.out; subst eo20) | ((with_reducible refine X0 (N := 1) rfl ?_); (try (refine gate_guard (by rfl) ?_; dsimp only)); refine Y9 ?hg (N := 1) ?hd (cs := #[.int .i64 0, .slice none 0 0, .slice none 0 0]) (t := 35) ?hr ?_; (case hd => rfl); (case hg => rfl); (case hr => go_simp; try rfl); intro gb194 hg w21 hbox hb; have n0_ := Z0 (Kd.R_below HO184.out hb); have n1_ := Z0 (Kd.N_below (Kd.N_elderB HO193.out gb194 (Nat.le_of_eq hg.symm)) hb); have n2_ := Z0 (Y0 (by repeat (first | (with_reducible first | exact HB.out | apply Z7 | apply Z4 | apply Z9) | exact HB.out)) hb); have n3_ := Z0 (hbox); have n5_ := Z0 ((by rw [hg]; exact (Y6 (by repeat (first | (with_reducible first | exact HB.out | apply Z7 | apply Z4 | apply Z9) | exact HB.out))) : w.heap.size ≤ gb194)); clear HO184; clear HO193; clear HB; have HO184 := n0_; have HO193 := n1_; have HB := n2_; have BK194 := n3_; have GE194 := n5_; clear n0_ n1_ n2_ n3_ n5_; clear hb hbox hg; have hcz22_0 : w21.cell? ⟨gb194, 0, none⟩ = some (.int .i64 0) := (Z2 BK194.out 0).trans rfl; have hcz22_1 : w21.cell? ⟨gb194, 1, none⟩ = some (.slice none 0 0) := (Z2 BK194.out 1).trans rfl; have hcz22_2 : w21.cell? ⟨gb194, 2, none⟩ = some (.slice none 0 0) := (Z2 BK194.out 2).trans rfl; have hfz22_0 := Z1 BK194.out 0; have hfz22_1 := Z1 BK194.out 1; have hfz22_2 := Z1 BK194.out 2) | ((with_reducible refine X1 (f := 19) rfl ?_); refine goesL_ (some 17) rfl rfl Tryz.func19 (by kernel_rfl) rfl #[.agg #[.int .i64 0, .slice Ao20 y182.length co20, .slice Ao19 y191.length co19]] rfl (by (try simp only [Y2, Y7, Y8]); first | done | rfl) ?_; (with_reducible refine (table_Header.calls k 0 _ _ y182 _ _ y191 t195 t198 _ ?side1 ?side2 ?side3 ?side4 A2.out).mono ?_); (case side1 => refine (Kd.R_reads' (e := 23) (base := w.heap.size) (ok := fun k_ => True) (n := y182.length) (c := co20) ?_).2.2; exact (by (with_reducible repeat (first | apply Kd.R_alloc | apply Kd.R_drewN | apply Kd.R_drew)); exact (Kd.R_mono (Kd.R_far (p := ⟨gb194, 2, none⟩) (Kd.R_far (p := ⟨gb194, 1, none⟩) (Kd.R_far (p := ⟨gb194, 0, none⟩) (Kd.R_types HO184.out BK194.out (by decide)) (fun _ hk => hk.2) (.int .i64 0)) (fun _ hk => hk.2) (.slice Ao20 y182.length co20)) (fun _ hk => hk.2) (.slice Ao19 y191.length co19)) (fun _ h_ => h_.1)))); (case side2 => exact (Kd.R_reads' HO184.out).2.1); (case side3 => refine (Kd.N_reads' (e := 46) (base := w.heap.size) (ok := fun k_ => (some k_ ≠ (.slice Ao20 y182.length co20 : Value).ownBlock ∧ k_ ≠ gb194)) (n := y191.length) (c := co19) ?_).2.2; exact (by (with_reducible repeat (first | apply Kd.N_alloc | apply Kd.N_drewN | apply Kd.N_drew)); exact (Kd.N_mono (Kd.N_far (p := ⟨gb194, 2, none⟩) (Kd.N_far (p := ⟨gb194, 1, none⟩) (Kd.N_far (p := ⟨gb194, 0, none⟩) (Kd.N_mono HO193.out (fun k_ hk => (⟨hk, hk.2⟩ : _ ∧ k_ ≠ gb194))) (fun _ hk => hk.2) (.int .i64 0)) (fun _ hk => hk.2) (.slice Ao20 y182.length co20)) (fun _ hk => hk.2) (.slice Ao19 y191.length co19)) (fun _ h_ => h_.1)))); (case side4 => exact (Kd.N_reads' HO193.out).2.1); rintro e w23 ⟨v196, rfl, ho0, hb⟩; refine ⟨_, rfl, ?_⟩; have n0_ := Z0 (Kd.R_below (by (with_reducible repeat (first | apply Kd.R_alloc | apply Kd.R_drewN | apply Kd.R_drew)); exact (Kd.R_mono (Kd.R_far (p := ⟨gb194, 2, none⟩) (Kd.R_far (p := ⟨gb194, 1, none⟩) (Kd.R_far (p := ⟨gb194, 0, none⟩) (Kd.R_types HO184.out BK194.out (by decide)) (fun _ hk => hk.2) (.int .i64 0)) (fun _ hk => hk.2) (.slice Ao20 y182.length co20)) (fun _ hk => hk.2) (.slice Ao19 y191.length co19)) (fun _ h_ => h_.1))) hb); have n1_ := Z0 (Kd.N_elder' (by (with_reducible repeat (first | apply Kd.N_alloc | apply Kd.N_drewN | apply Kd.N_drew)); exact (Kd.N_mono (Kd.N_far (p := ⟨gb194, 2, none⟩) (Kd.N_far (p := ⟨gb194, 1, none⟩) (Kd.N_far (p := ⟨gb194, 0, none⟩) (Kd.N_mono HO193.out (fun k_ hk => (⟨hk, hk.2⟩ : _ ∧ k_ ≠ gb194))) (fun _ hk => hk.2) (.int .i64 0)) (fun _ hk => hk.2) (.slice Ao20 y182.length co20)) (fun _ hk => hk.2) (.slice Ao19 y191.length co19)) (fun _ h_ => h_.1))) (Kd.R_base ho0) hb); have n2_ := Z0 (Kd.R_lower ho0 (Y6 (by repeat (first | (with_reducible first | exact HB.out | apply Z7 | apply Z4 | apply Z9 | refine Z8 ?_ GE194.out) | exact HB.out)))); have n3_ := Z0 (Y1 (g := gb194) (o := .cells #[.int .i64 0, .slice Ao20 y182.length co20, .slice Ao19 y191.length co19] 35 (0, 0)) (by (with_reducible repeat (first | refine Y4 ?_ _ | refine Y5 ?_ | refine Y3 ?_ _)); refine X7 (cs := #[.int .i64 0, .slice Ao20 y182.length co20, .slice none 0 0]) ?_ 2 _ rfl; (with_reducible repeat (first | refine Y4 ?_ _ | refine Y5 ?_ | refine Y3 ?_ _)); refine X7 (cs := #[.int .i64 0, .slice none 0 0, .slice none 0 0]) ?_ 1 _ rfl; (with_reducible repeat (first | refine Y4 ?_ _ | refine Y5 ?_ | refine Y3 ?_ _)); refine X7 (cs := #[.int .i64 0, .slice none 0 0, .slice none 0 0]) ?_ 0 _ rfl; (with_reducible repeat (first | refine Y4 ?_ _ | refine Y5 ?_ | refine Y3 ?_ _)); exact BK194.out) hb); have n4_ := Z0 (Y0 (by repeat (first | (with_reducible first | exact HB.out | apply Z7 | apply Z4 | apply Z9 | refine Z8 ?_ GE194.out) | exact HB.out)) hb); clear HO184; clear HO193; clear BK194; clear HB; have HO184 := n0_; have HO193 := n1_; have HO197 := n2_; have BK194 := n3_; have HB := n4_; clear n0_ n1_ n2_ n3_ n4_; (try clear hb); (try clear hb2); (try clear hk); (try clear hi); (try clear ho0); have hcz24_0 : w23.cell? ⟨gb194, 0, none⟩ = some (.int .i64 0) := (Z2 BK194.out 0).trans rfl; have hcz24_1 : w23.cell? ⟨gb194, 1, none⟩ = some (.slice Ao20 y182.length co20) := (Z2 BK194.out 1).trans rfl; have hcz24_2 : w23.cell? ⟨gb194, 2, none⟩ = some (.slice Ao19 y191.length co19) := (Z2 BK194.out 2).trans rfl; have hfz24_0 := Z1 BK194.out 0; have hfz24_1 := Z1 BK194.out 1; have hfz24_2 := Z1 BK194.out 2) | ((with_reducible refine X1 (f := 21) rfl ?_); refine goesL_ (some 22) rfl rfl Tryz.func21 (by kernel_rfl) rfl #[.agg #[.int .i64 0, .slice Ao20 y182.length co20, .slice Ao19 y191.length co19], .int .i64 1] rfl (by (try simp only [Y2, Y7, Y8]); first | done | rfl) ?_; (with_reducible refine (table_Row.calls k 0 _ _ y182 _ _ y191 1 t199 t202 _ ?side1 ?side2 ?side3 ?side4 A3.out).mono ?_); (case side1 => repeat (first | exact (Kd.R_reads' HO184.out).2.2 | (with_reducible refine Kd.C_alloc ?_ _) | (with_reducible refine Kd.C_drewN ?_ _) | (with_reducible refine Kd.C_drew ?_))); (case side2 => exact (Kd.R_reads' HO184.out).2.1); (case side3 => repeat (first | exact (Kd.N_reads' HO193.out).2.2 | (with_reducible refine Kd.C_alloc ?_ _) | (with_reducible refine Kd.C_drewN ?_ _) | (with_reducible refine Kd.C_drew ?_))); (case side4 => exact (Kd.N_reads' HO193.out).2.1); rintro e w25 ⟨v200, rfl, ho0, hb⟩; refine ⟨_, rfl, ?_⟩; have n0_ := Z0 (Kd.R_below HO184.out hb); have n1_ := Z0 (Kd.N_elder' HO193.out (Kd.R_base ho0) hb); have n2_ := Z0 (Kd.R_elder' HO197.out (Kd.R_base ho0) hb); have n3_ := Z0 (Kd.R_lower (Kd.R_new' ho0 (Kd.R_lt HO197.out)) (Y6 (by repeat (first | (with_reducible first | exact HB.out | apply Z7 | apply Z4 | apply Z9 | refine Z8 ?_ GE194.out) | exact HB.out)))); have n4_ := Z0 (Y1 (g := gb194) (o := .cells #[.int .i64 0, .slice Ao20 y182.length co20, .slice Ao19 y191.length co19] 35 (0, 0)) BK194.out hb); have n5_ := Z0 (Y0 (by repeat (first | (with_reducible first | exact HB.out | apply Z7 | apply Z4 | apply Z9 | refine Z8 ?_ GE194.out) | exact HB.out)) hb); clear HO184; clear HO193; clear HO197; clear BK194; clear HB; have HO184 := n0_; have HO193 := n1_; have HO197 := n2_; have HO201 := n3_; have BK194 := n4_; have HB := n5_; clear n0_ n1_ n2_ n3_ n4_ n5_; (try clear hb); (try clear hb2); (try clear hk); (try clear hi); (try clear ho0)) | ((with_reducible refine X1 (f := 46) rfl ?_); refine goesL_ (some 27) rfl rfl Tryz.func46 (by kernel_rfl) rfl #[.string (⟨#[97, 98, 32]⟩ : ByteArray)] rfl (by (try simp only [Y2, Y7, Y8]); first | done | rfl) ?_; (with_reducible refine (cabinetryref01_Text.calls (⟨#[97, 98, 32]⟩ : ByteArray) t203 t204 t205 _ A4.out).mono ?_); rintro e w26 ⟨rfl, hb⟩; refine ⟨_, rfl, ?_⟩; have n0_ := Z0 (Kd.R_below HO184.out hb); have n1_ := Z0 (Kd.N_below HO193.out hb); have n2_ := Z0 (Kd.R_below HO197.out hb); have n3_ := Z0 (Kd.R_below HO201.out hb); have n4_ := Z0 (Y1 (g := gb194) (o := .cells #[.int .i64 0, .slice Ao20 y182.length co20, .slice Ao19 y191.length co19] 35 (0, 0)) BK194.out hb); have n5_ := Z0 (Y0 (by repeat (first | (with_reducible first | exact HB.out | apply Z7 | apply Z4 | apply Z9 | refine Z8 ?_ GE194.out) | exact HB.out)) hb); clear HO184; clear HO193; clear HO197; clear HO201; clear BK194; clear HB; have HO184 := n0_; have HO193 := n1_; have HO197 := n2_; have HO201 := n3_; have BK194 := n4_; have HB := n5_; clear n0_ n1_ n2_ n3_ n4_ n5_; (try clear hb); (try clear hb2); (try clear hk); (try clear hi)) | ((with_reducible refine X1 (f := 13) rfl ?_); refine goesL_ (some 28) rfl rfl Tryz.func13 (by kernel_rfl) rfl #[.agg #[.string (⟨#[65]⟩ : ByteArray), .int .i64 4, .int .i64 2, .bool false], .int .i64 0, .agg #[.int .i64 t203, .int .i64 t204, .string t205]] rfl (by (try simp only [Y2, Y7, Y8]); first | done | rfl) ?_; (with_reducible refine (table_Fit.calls (⟨#[65]⟩ : ByteArray) 4 2 false 0 t203 t204 t205 t206 t207 t208 t209 _ A5.out).mono ?_); rintro e w27 ⟨rfl, hb⟩; refine ⟨_, rfl, ?_⟩; have n0_ := Z0 (Kd.R_below HO184.out hb); have n1_ := Z0 (Kd.N_below HO193.out hb); have n2_ := Z0 (Kd.R_below HO197.out hb); have n3_ := Z0 (Kd.R_below HO201.out hb); have n4_ := Z0 (Y1 (g := gb194) (o := .cells #[.int .i64 0, .slice Ao20 y182.length co20, .slice Ao19 y191.length co19] 35 (0, 0)) BK194.out hb); have n5_ := Z0 (Y0 (by repeat (first | (with_reducible first | exact HB.out | apply Z7 | apply Z4 | apply Z9 | refine Z8 ?_ GE194.out) | exact HB.out)) hb); clear HO184; clear HO193; clear HO197; clear HO201; clear BK194; clear HB; have HO184 := n0_; have HO193 := n1_; have HO197 := n2_; have HO201 := n3_; have BK194 := n4_; have HB := n5_; clear n0_ n1_ n2_ n3_ n4_ n5_; (try clear hb); (try clear hb2); (try clear hk); (try clear hi)) | ((with_reducible refine X0 (N := 6) rfl ?_); (try (refine gate_guard (by rfl) ?_; dsimp only)); refine Y9 ?hg (N := 6) ?hd (cs := #[.int .i64 0, .int .i64 0, .string (⟨#[]⟩ : ByteArray)]) (t := 25) ?hr ?_; (case hd => rfl); (case hg => rfl); (case hr => go_simp; try rfl); intro gb210 hg w28 hbox hb; have n0_ := Z0 (Kd.R_below HO184.out hb); have n1_ := Z0 (Kd.N_below (Kd.N_elderB HO193.out gb210 (Nat.le_of_eq hg.symm)) hb); have n2_ := Z0 (Kd.R_below HO197.out hb); have n3_ := Z0 (Kd.R_below HO201.out hb); have n4_ := Z0 (Y1 (g := gb194) (o := .cells #[.int .i64 0, .slice Ao20 y182.length co20, .slice Ao19 y191.length co19] 35 (0, 0)) BK194.out hb); have n5_ := Z0 (Y0 (by repeat (first | (with_reducible first | exact HB.out | apply Z7 | apply Z4 | apply Z9 | refine Z8 ?_ GE194.out) | exact HB.out)) hb); have n6_ := Z0 (hbox); have n8_ := Z0 ((by rw [hg]; exact (Y6 (by repeat (first | (with_reducible first | exact HB.out | apply Z7 | apply Z4 | apply Z9 | refine Z8 ?_ GE194.out) | exact HB.out))) : w.heap.size ≤ gb210)); have n9_ := Z0 ((by rw [hg]; exact Nat.ne_of_lt (blk_lt (g := gb194) (o := .cells #[.int .i64 0, .slice Ao20 y182.length co20, .slice Ao19 y191.length co19] 35 (0, 0)) BK194.out) : gb194 ≠ gb210)); have n10_ := Z0 ((by rw [hg]; exact Nat.ne_of_gt (blk_lt (g := gb194) (o := .cells #[.int .i64 0, .slice Ao20 y182.length co20, .slice Ao19 y191.length co19] 35 (0, 0)) BK194.out) : gb210 ≠ gb194)); clear HO184; clear HO193; clear HO197; clear HO201; clear BK194; clear HB; have HO184 := n0_; have HO193 := n1_; have HO197 := n2_; have HO201 := n3_; have BK194 := n4_; have HB := n5_; have BK210 := n6_; have GE210 := n8_; have NB194_210 := n9_; have NB210_194 := n10_; clear n0_ n1_ n2_ n3_ n4_ n5_ n6_ n8_ n9_ n10_; clear hb hbox hg; have hnb29 := NB210_194.out; have hnc29 := NB194_210.out; have hcz30_0 : w28.cell? ⟨gb210, 0, none⟩ = some (.int .i64 0) := (Z2 BK210.out 0).trans rfl; have hcz30_1 : w28.cell? ⟨gb210, 1, none⟩ = some (.int .i64 0) := (Z2 BK210.out 1).trans rfl; have hcz30_2 : w28.cell? ⟨gb210, 2, none⟩ = some (.string (⟨#[]⟩ : ByteArray)) := (Z2 BK210.out 2).trans rfl; have hfz30_0 := Z1 BK210.out 0; have hfz30_1 := Z1 BK210.out 1; have hfz30_2 := Z1 BK210.out 2; obtain ⟨Ao31, co31, eo31⟩ := Kd.R_slice HO197.out; subst eo31) | ((with_reducible refine gate_store (t := 25) (p := 6) rfl ?_); refine store_box ?hg (ty := 25) (p := 6) (y := .tmp 29) ?ho ?hd gb210 (cells := #[.int .i64 t206, .int .i64 t207, .string t208]) (old := #[.int .i64 0, .int .i64 0, .string (⟨#[]⟩ : ByteArray)]) (t := 25) ?hx ?hy ?hgg ?hi ?hold ?h1 ?_; (case ho => rfl); (case hg => rfl); (case hd => rfl); (case hx => rfl); (case hy => rfl); (case hgg => exact BK210.out); (case hi => exact known_size); (case hold => rfl); (case h1 => simp [Value.oneCell']); intro w50 hbk hbel hoth; have n0_ := Z0 (hbel _ _ HB.out GE210.out); have n1_ := Z0 (Kd.R_step (Kd.R_types HO201.out BK210.out (by decide)) (fun k hk _ => hoth k hk.2)); clear HB; clear HO201; have HB := n0_; have HO201 := n1_; clear n0_ n1_; have hcv32 := own_string (P := Tryz.prog) Tryz.underlying37 Tryz.underlying5 Tryz.underlying9 (Kd.own_of_R HO201.out); have hcz50_0 : w50.cell? ⟨gb210, 0, none⟩ = some (.int .i64 t206) := (Z2 hbk 0).trans rfl; have hcz50_1 : w50.cell? ⟨gb210, 1, none⟩ = some (.int .i64 t207) := (Z2 hbk 1).trans rfl; have hcz50_2 : w50.cell? ⟨gb210, 2, none⟩ = some (.string t208) := (Z2 hbk 2).trans rfl; clear hbk hbel hoth))
      go_ret
      exact ⟨rfl, by repeat (first | (with_reducible first | exact HB.out | apply Z7 | apply Z4 | apply Z9 | refine Z8 ?_ GE194.out | refine Z8 ?_ GE210.out) | exact HB.out)⟩
     ·rw [if_neg c10] at H
      exact absurd H (by simp)
    ·rw [if_neg c9] at H
     exact absurd H (by simp)
   ·rw [if_neg c8] at H
    exact absurd H (by simp)
  ·rw [if_neg c7] at H
   exact absurd H (by simp)
 ·rw [if_neg c6] at H
  exact absurd H (by simp)
theorem known_true : known.f0 100 = some true := by kernel_rfl
def cabinetrylaw03_known.f : Option Bool := some true
theorem cabinetrylaw03_known.calls (r : Bool) (w : World) (h : cabinetrylaw03_known.f = some r) : Calls Tryz.prog 12 #[] w fun e w' => e = .returned (.bool r) ∧ Below w.heap.size w w' := by
 obtain rfl := Option.some.inj h
 exact known_calls 100 w known_true
end Go.Proofs.YtldpdidlfbphcaaGreatDoor.P
end
section
namespace Go.Proofs.YtldpdidlfbphcaaGreatDoor.P
open Go.RowKit Go.Proofs.YtldpdidlfbphcaaGreatDoorW.PrintWords Go.Proofs.YtldpdidlfbphcaaGreatDoorW.PrintLast Go.Proofs.YtldpdidlfbphcaaGreatDoorW.PrintMore
attribute [local go_sem] max2_int min2_int max_two min_two max_three min_three max_four min_four
def cabinetrylaw03_TableBlanks.j0 : Nat → Bool → Option (Bool)
 | 0, _ => none
 | k + 1, x4 => some x4
def cabinetrylaw03_TableBlanks.f (k : Nat) (l0 : List (S23)) (a1 : ByteArray) : Option (Bool) := (cabinetryref03_Weight.f k 0 l0 ([] : List (S46))).bind fun t337 => (if (wrap64 ((a1.size : Int) + t337)) > 2000000 then ((cabinetrylaw03_known.f).bind fun t338 => (some t338)) else ((table_Blank.f k l0).bind fun bt339 => ((cabinetryref03_Blank.f k l0).bind fun bt345 => ((table_Index.f l0 a1).bind fun bt351 => ((cabinetryref03_Index.f k l0 a1).bind fun bt353 => ((cabinetryref03_SameRecord.f k bt339.1 bt339.2.1 bt345.1 bt345.2.1).bind fun t355 => (if t355 = true then (if bt339.2.2 = bt345.2.2 then (if bt351.1 = bt353.1 then (if (bt351.2 == bt353.2) = true then ((cabinetrylaw03_known.f).bind fun t356 => (cabinetrylaw03_TableBlanks.j0 k t356)) else (cabinetrylaw03_TableBlanks.j0 k false)) else (cabinetrylaw03_TableBlanks.j0 k false)) else (cabinetrylaw03_TableBlanks.j0 k false)) else (cabinetrylaw03_TableBlanks.j0 k false))))))))
theorem cabinetrylaw03_TableBlanks.mono_l : ∀ k, (∀ y0, LeO (cabinetrylaw03_TableBlanks.j0 k y0) (cabinetrylaw03_TableBlanks.j0 (k + 1) y0))
 | 0 => fun _ r h => by simp [cabinetrylaw03_TableBlanks.j0] at h
 | k + 1 => by
  have ih0 := cabinetrylaw03_TableBlanks.mono_l k
  ·intro y0
   unfold cabinetrylaw03_TableBlanks.j0
   repeat' first
   | (with_reducible exact ih0 _)
   | (with_reducible exact cabinetryref03_Blank.mono _ _)
   | (with_reducible exact cabinetryref03_Index.mono _ _ _)
   | (with_reducible exact cabinetryref03_SameRecord.mono _ _ _ _ _)
   | (with_reducible exact cabinetryref03_Weight.mono _ _ _ _)
   | (with_reducible exact table_Blank.mono _ _)
   | (with_reducible exact LeO.refl _)
   | (with_reducible exact X2 _)
   | (with_reducible refine X4 ?_ ?_)
   | (with_reducible refine X3 ?_ (fun _ => ?_))
   | exact ih0 _
   | exact cabinetryref03_Blank.mono _ _
   | exact cabinetryref03_Index.mono _ _ _
   | exact cabinetryref03_SameRecord.mono _ _ _ _ _
   | exact cabinetryref03_Weight.mono _ _ _ _
   | exact table_Blank.mono _ _
   | exact X2 _
   | refine X4 ?_ ?_
   | refine X3 ?_ (fun _ => ?_)
theorem cabinetrylaw03_TableBlanks.mono : ∀ a0 a1 k, LeO (cabinetrylaw03_TableBlanks.f k a0 a1) (cabinetrylaw03_TableBlanks.f (k + 1) a0 a1) := by
 intro a0 a1 k
 have ih0 := cabinetrylaw03_TableBlanks.mono_l k
 unfold cabinetrylaw03_TableBlanks.f
 repeat' first
   | (with_reducible exact ih0 _)
   | (with_reducible exact cabinetryref03_Blank.mono _ _)
   | (with_reducible exact cabinetryref03_Index.mono _ _ _)
   | (with_reducible exact cabinetryref03_SameRecord.mono _ _ _ _ _)
   | (with_reducible exact cabinetryref03_Weight.mono _ _ _ _)
   | (with_reducible exact table_Blank.mono _ _)
   | (with_reducible exact LeO.refl _)
   | (with_reducible exact X2 _)
   | (with_reducible refine X4 ?_ ?_)
   | (with_reducible refine X3 ?_ (fun _ => ?_))
   | exact ih0 _
   | exact cabinetryref03_Blank.mono _ _
   | exact cabinetryref03_Index.mono _ _ _
   | exact cabinetryref03_SameRecord.mono _ _ _ _ _
   | exact cabinetryref03_Weight.mono _ _ _ _
   | exact table_Blank.mono _ _
   | exact X2 _
   | refine X4 ?_ ?_
   | refine X3 ?_ (fun _ => ?_)
theorem cabinetrylaw03_TableBlanks.j0_ne : ∀ (k : Nat) (q : Option Bool), cabinetrylaw03_TableBlanks.j0 k false = q → q = some true → False := by
 intro k q h1 h2
 cases k with
 | zero => simp [cabinetrylaw03_TableBlanks.j0] at h1; rw [← h1] at h2; cases h2
 | succ k => simp [cabinetrylaw03_TableBlanks.j0] at h1; rw [← h1] at h2; cases h2
set_option maxHeartbeats 8000000 in
set_option maxRecDepth 100000 in
theorem cabinetrylaw03_TableBlanks.calls1 (k : Nat) (A0 : Option Addr) (c0 : Nat) (l0 : List (S23)) (a1 : ByteArray) (r : Bool) (w : World) (hr_ : r = true) (hr0 : Kd.C k23 w A0 l0.length l0) (hc0 : l0.length ≤ c0) (h : cabinetrylaw03_TableBlanks.f k l0 a1 = some r) :
  Calls Tryz.prog 5 #[.slice A0 l0.length c0, .string a1] w fun e w' => e = .returned (.bool r) ∧ Below w.heap.size w w' := by
 have HR_ := Z0 hr_
 clear hr_
 have hu35 := Tryz.underlying35
 have hu46 := Tryz.underlying46
 have HR0 := Z0 hr0
 have HC0 := Z0 hc0
 clear hr0 hc0
 have HB := Z0 (Below.refl w.heap.size w)
 have H : ((cabinetryref03_Weight.f k 0 l0 ([] : List (S46))).bind fun t337 => (if (wrap64 ((a1.size : Int) + t337)) > 2000000 then ((cabinetrylaw03_known.f).bind fun t338 => (some t338)) else ((table_Blank.f k l0).bind fun bt339 => ((cabinetryref03_Blank.f k l0).bind fun bt345 => ((table_Index.f l0 a1).bind fun bt351 => ((cabinetryref03_Index.f k l0 a1).bind fun bt353 => ((cabinetryref03_SameRecord.f k bt339.1 bt339.2.1 bt345.1 bt345.2.1).bind fun t355 => (if t355 = true then (if bt339.2.2 = bt345.2.2 then (if bt351.1 = bt353.1 then (if (bt351.2 == bt353.2) = true then ((cabinetrylaw03_known.f).bind fun t356 => (cabinetrylaw03_TableBlanks.j0 k t356)) else (cabinetrylaw03_TableBlanks.j0 k false)) else (cabinetrylaw03_TableBlanks.j0 k false)) else (cabinetrylaw03_TableBlanks.j0 k false)) else (cabinetrylaw03_TableBlanks.j0 k false))))))))) = some r := h
 clear h
 replace H := Option.bind_eq_some_iff.mp H
 obtain ⟨t337, A30, H⟩ := H
 replace H : (if (wrap64 ((a1.size : Int) + t337)) > 2000000 then ((cabinetrylaw03_known.f).bind fun t338 => (some t338)) else ((table_Blank.f k l0).bind fun bt339 => ((cabinetryref03_Blank.f k l0).bind fun bt345 => ((table_Index.f l0 a1).bind fun bt351 => ((cabinetryref03_Index.f k l0 a1).bind fun bt353 => ((cabinetryref03_SameRecord.f k bt339.1 bt339.2.1 bt345.1 bt345.2.1).bind fun t355 => (if t355 = true then (if bt339.2.2 = bt345.2.2 then (if bt351.1 = bt353.1 then (if (bt351.2 == bt353.2) = true then ((cabinetrylaw03_known.f).bind fun t356 => (cabinetrylaw03_TableBlanks.j0 k t356)) else (cabinetrylaw03_TableBlanks.j0 k false)) else (cabinetrylaw03_TableBlanks.j0 k false)) else (cabinetrylaw03_TableBlanks.j0 k false)) else (cabinetrylaw03_TableBlanks.j0 k false)))))))) = some r := H
 have A3 := Z0 A30
 clear A30
 by_cases c4 : (wrap64 ((a1.size : Int) + t337)) > 2000000
 ·rw [if_pos c4] at H
  have c4b0 : decide (2000000 < (wrap64 ((a1.size : Int) + t337))) = true := decide_eq_true c4
  clear c4
  replace H := Option.bind_eq_some_iff.mp H
  obtain ⟨t338, A50, H⟩ := H
  replace H : (some t338) = some r := H
  have A5 := Z0 A50
  clear A50
  obtain rfl := Option.some.inj H
  go_enter Tryz.func5, Tryz.ntmps5
  go_wp2_with (first | ((with_reducible refine X1 (f := 24) rfl ?_); refine goesL_ (some 17) rfl rfl Tryz.func24 (by kernel_rfl) rfl #[.agg #[.int .i64 0, .slice A0 l0.length c0, .slice none 0 0]] rfl (by (try simp only [Y2, Y7, Y8]); first | done | rfl) ?_; (refine (cabinetryref03_Weight.calls k 0 _ _ l0 _ _ ([] : List (S46)) t337 _ ?side1 ?side2 ?side3 ?side4 A3.out).mono ?_); (case side1 => repeat (first | exact HR0.out | (with_reducible refine Kd.C_alloc ?_ _) | (with_reducible refine Kd.C_drewN ?_ _) | (with_reducible refine Kd.C_drew ?_))); (case side2 => exact HC0.out); (case side3 => exact Kd.C_nil _ _); (case side4 => exact Nat.le_refl _); rintro e w6 ⟨rfl, hb⟩; refine ⟨_, rfl, ?_⟩; have n0_ := Z0 (Y0 (by repeat (first | (with_reducible first | exact HB.out | apply Z7 | apply Z4 | apply Z9) | exact HB.out)) hb); clear HB; have HB := n0_; clear n0_; (try clear hb); (try clear hb2); (try clear hk); (try clear hi)) | ((with_reducible refine X1 (f := 12) rfl ?_); refine goesL_ (some 20) rfl rfl Tryz.func12 (by kernel_rfl) rfl #[] rfl (by (try simp only [Y2, Y7, Y8]); first | done | rfl) ?_; (with_reducible refine (cabinetrylaw03_known.calls  t338 _ A5.out).mono ?_); rintro e w7 ⟨rfl, hb⟩; refine ⟨_, rfl, ?_⟩; have n0_ := Z0 (Y0 (by repeat (first | (with_reducible first | exact HB.out | apply Z7 | apply Z4 | apply Z9) | exact HB.out)) hb); clear HB; have HB := n0_; clear n0_; (try clear hb); (try clear hb2); (try clear hk); (try clear hi)))
  go_ret
  exact ⟨rfl, by repeat (first | (with_reducible first | exact HB.out | apply Z7 | apply Z4 | apply Z9) | exact HB.out)⟩
 ·rw [if_neg c4] at H
  have c4b0 : decide (2000000 < (wrap64 ((a1.size : Int) + t337))) = false := decide_eq_false c4
  clear c4
  replace H := Option.bind_eq_some_iff.mp H
  obtain ⟨⟨t339, t340, t343⟩, A80, H⟩ := H
  replace H : ((cabinetryref03_Blank.f k l0).bind fun bt345 => ((table_Index.f l0 a1).bind fun bt351 => ((cabinetryref03_Index.f k l0 a1).bind fun bt353 => ((cabinetryref03_SameRecord.f k t339 t340 bt345.1 bt345.2.1).bind fun t355 => (if t355 = true then (if t343 = bt345.2.2 then (if bt351.1 = bt353.1 then (if (bt351.2 == bt353.2) = true then ((cabinetrylaw03_known.f).bind fun t356 => (cabinetrylaw03_TableBlanks.j0 k t356)) else (cabinetrylaw03_TableBlanks.j0 k false)) else (cabinetrylaw03_TableBlanks.j0 k false)) else (cabinetrylaw03_TableBlanks.j0 k false)) else (cabinetrylaw03_TableBlanks.j0 k false)))))) = some r := H
  have A8 := Z0 A80
  clear A80
  replace H := Option.bind_eq_some_iff.mp H
  obtain ⟨⟨t345, t346, t349⟩, A90, H⟩ := H
  replace H : ((table_Index.f l0 a1).bind fun bt351 => ((cabinetryref03_Index.f k l0 a1).bind fun bt353 => ((cabinetryref03_SameRecord.f k t339 t340 t345 t346).bind fun t355 => (if t355 = true then (if t343 = t349 then (if bt351.1 = bt353.1 then (if (bt351.2 == bt353.2) = true then ((cabinetrylaw03_known.f).bind fun t356 => (cabinetrylaw03_TableBlanks.j0 k t356)) else (cabinetrylaw03_TableBlanks.j0 k false)) else (cabinetrylaw03_TableBlanks.j0 k false)) else (cabinetrylaw03_TableBlanks.j0 k false)) else (cabinetrylaw03_TableBlanks.j0 k false))))) = some r := H
  have A9 := Z0 A90
  clear A90
  replace H := Option.bind_eq_some_iff.mp H
  obtain ⟨⟨t351, t352⟩, A100, H⟩ := H
  replace H : ((cabinetryref03_Index.f k l0 a1).bind fun bt353 => ((cabinetryref03_SameRecord.f k t339 t340 t345 t346).bind fun t355 => (if t355 = true then (if t343 = t349 then (if t351 = bt353.1 then (if (t352 == bt353.2) = true then ((cabinetrylaw03_known.f).bind fun t356 => (cabinetrylaw03_TableBlanks.j0 k t356)) else (cabinetrylaw03_TableBlanks.j0 k false)) else (cabinetrylaw03_TableBlanks.j0 k false)) else (cabinetrylaw03_TableBlanks.j0 k false)) else (cabinetrylaw03_TableBlanks.j0 k false)))) = some r := H
  have A10 := Z0 A100
  clear A100
  replace H := Option.bind_eq_some_iff.mp H
  obtain ⟨⟨t353, t354⟩, A110, H⟩ := H
  replace H : ((cabinetryref03_SameRecord.f k t339 t340 t345 t346).bind fun t355 => (if t355 = true then (if t343 = t349 then (if t351 = t353 then (if (t352 == t354) = true then ((cabinetrylaw03_known.f).bind fun t356 => (cabinetrylaw03_TableBlanks.j0 k t356)) else (cabinetrylaw03_TableBlanks.j0 k false)) else (cabinetrylaw03_TableBlanks.j0 k false)) else (cabinetrylaw03_TableBlanks.j0 k false)) else (cabinetrylaw03_TableBlanks.j0 k false))) = some r := H
  have A11 := Z0 A110
  clear A110
  have HC12 := Z0 H
  clear H
  go_enter Tryz.func5, Tryz.ntmps5
  go_upto_region 7 with (first | ((with_reducible refine X1 (f := 24) rfl ?_); refine goesL_ (some 17) rfl rfl Tryz.func24 (by kernel_rfl) rfl #[.agg #[.int .i64 0, .slice A0 l0.length c0, .slice none 0 0]] rfl (by (try simp only [Y2, Y7, Y8]); first | done | rfl) ?_; (refine (cabinetryref03_Weight.calls k 0 _ _ l0 _ _ ([] : List (S46)) t337 _ ?side1 ?side2 ?side3 ?side4 A3.out).mono ?_); (case side1 => repeat (first | exact HR0.out | (with_reducible refine Kd.C_alloc ?_ _) | (with_reducible refine Kd.C_drewN ?_ _) | (with_reducible refine Kd.C_drew ?_))); (case side2 => exact HC0.out); (case side3 => exact Kd.C_nil _ _); (case side4 => exact Nat.le_refl _); rintro e w13 ⟨rfl, hb⟩; refine ⟨_, rfl, ?_⟩; have n0_ := Z0 (Y0 (by repeat (first | (with_reducible first | exact HB.out | apply Z7 | apply Z4 | apply Z9) | exact HB.out)) hb); clear HB; have HB := n0_; clear n0_; (try clear hb); (try clear hb2); (try clear hk); (try clear hi)) | ((with_reducible refine X1 (f := 25) rfl ?_); refine goesL_ (some 23) rfl rfl Tryz.func25 (by kernel_rfl) rfl #[.slice A0 l0.length c0] rfl (by (try simp only [Y2, Y7, Y8]); first | done | rfl) ?_; (with_reducible refine (table_Blank.calls k _ _ l0 t339 t340 t343 _ ?side1 ?side2 A8.out).mono ?_); (case side1 => repeat (first | exact (Kd.C_below HR0.out HB.out) | (with_reducible refine Kd.C_alloc ?_ _) | (with_reducible refine Kd.C_drewN ?_ _) | (with_reducible refine Kd.C_drew ?_))); (case side2 => exact HC0.out); rintro e w14 ⟨v341, rfl, ho0, hb⟩; refine ⟨_, rfl, ?_⟩; have n0_ := Z0 (Kd.R_lower ho0 (Y6 (by repeat (first | (with_reducible first | exact HB.out | apply Z7 | apply Z4 | apply Z9) | exact HB.out)))); have n1_ := Z0 (Y0 (by repeat (first | (with_reducible first | exact HB.out | apply Z7 | apply Z4 | apply Z9) | exact HB.out)) hb); clear HB; have HO342 := n0_; have HB := n1_; clear n0_ n1_; (try clear hb); (try clear hb2); (try clear hk); (try clear hi); (try clear ho0)) | ((with_reducible refine X0 (N := 5) rfl ?_); refine Y9 ?hg (N := 5) ?hd (cs := #[.bool false, .slice none 0 0]) (t := 46) ?hr ?_; (case hd => rfl); (case hg => rfl); (case hr => go_simp; try rfl); intro gb344 hg w15 hbox hb; have n0_ := Z0 (Kd.R_below (by (with_reducible repeat (first | apply Kd.R_alloc | apply Kd.R_drewN | apply Kd.R_drew)); exact HO342.out) hb); have n1_ := Z0 (Y0 (by repeat (first | (with_reducible first | exact HB.out | apply Z7 | apply Z4 | apply Z9) | exact HB.out)) hb); have n2_ := Z0 (hbox); have n4_ := Z0 ((by rw [hg]; exact (Y6 (by repeat (first | (with_reducible first | exact HB.out | apply Z7 | apply Z4 | apply Z9) | exact HB.out))) : w.heap.size ≤ gb344)); clear HO342; clear HB; have HO342 := n0_; have HB := n1_; have BK344 := n2_; have GE344 := n4_; clear n0_ n1_ n2_ n4_; clear hb hbox hg; have hcz16_0 : w15.cell? ⟨gb344, 0, none⟩ = some (.bool false) := (Z2 BK344.out 0).trans rfl; have hcz16_1 : w15.cell? ⟨gb344, 1, none⟩ = some (.slice none 0 0) := (Z2 BK344.out 1).trans rfl; have hfz16_0 := Z1 BK344.out 0; have hfz16_1 := Z1 BK344.out 1; obtain ⟨Ao17, co17, eo17⟩ := Kd.R_slice HO342.out; subst eo17) | ((with_reducible refine X1 (f := 26) rfl ?_); refine goesL_ (some 28) rfl rfl Tryz.func26 (by kernel_rfl) rfl #[.slice A0 l0.length c0] rfl (by (try simp only [Y2, Y7, Y8]); first | done | rfl) ?_; (with_reducible refine (cabinetryref03_Blank.calls k _ _ l0 t345 t346 t349 _ ?side1 ?side2 A9.out).mono ?_); (case side1 => exact Kd.C_below HR0.out (by repeat (first | (with_reducible first | exact HB.out | apply Z7 | apply Z4 | apply Z9 | refine Z8 ?_ GE344.out) | exact HB.out))); (case side2 => exact HC0.out); rintro e w18 ⟨v347, rfl, ho0, hb⟩; refine ⟨_, rfl, ?_⟩; have n0_ := Z0 (Kd.R_elder' (by (with_reducible repeat (first | apply Kd.R_alloc | apply Kd.R_drewN | apply Kd.R_drew)); exact (Kd.R_mono (Kd.R_far (p := ⟨gb344, 1, none⟩) (Kd.R_far (p := ⟨gb344, 0, none⟩) (Kd.R_types HO342.out BK344.out (by decide)) (fun _ hk => hk.2) (.bool t339)) (fun _ hk => hk.2) (.slice Ao17 t340.length co17)) (fun _ h_ => h_.1))) (Kd.R_base ho0) hb); have n1_ := Z0 (Kd.R_lower (Kd.R_new' ho0 (Kd.R_lt (by (with_reducible repeat (first | apply Kd.R_alloc | apply Kd.R_drewN | apply Kd.R_drew)); exact (Kd.R_mono (Kd.R_far (p := ⟨gb344, 1, none⟩) (Kd.R_far (p := ⟨gb344, 0, none⟩) (Kd.R_types HO342.out BK344.out (by decide)) (fun _ hk => hk.2) (.bool t339)) (fun _ hk => hk.2) (.slice Ao17 t340.length co17)) (fun _ h_ => h_.1))))) (Y6 (by repeat (first | (with_reducible first | exact HB.out | apply Z7 | apply Z4 | apply Z9 | refine Z8 ?_ GE344.out) | exact HB.out)))); have n2_ := Z0 (Y1 (g := gb344) (o := .cells #[.bool t339, .slice Ao17 t340.length co17] 46 (0, 0)) (by (with_reducible repeat (first | refine Y4 ?_ _ | refine Y5 ?_ | refine Y3 ?_ _)); refine X7 (cs := #[.bool t339, .slice none 0 0]) ?_ 1 _ rfl; (with_reducible repeat (first | refine Y4 ?_ _ | refine Y5 ?_ | refine Y3 ?_ _)); refine X7 (cs := #[.bool false, .slice none 0 0]) ?_ 0 _ rfl; (with_reducible repeat (first | refine Y4 ?_ _ | refine Y5 ?_ | refine Y3 ?_ _)); exact BK344.out) hb); have n3_ := Z0 (Y0 (by repeat (first | (with_reducible first | exact HB.out | apply Z7 | apply Z4 | apply Z9 | refine Z8 ?_ GE344.out) | exact HB.out)) hb); clear HO342; clear BK344; clear HB; have HO342 := n0_; have HO348 := n1_; have BK344 := n2_; have HB := n3_; clear n0_ n1_ n2_ n3_; (try clear hb); (try clear hb2); (try clear hk); (try clear hi); (try clear ho0)) | ((with_reducible refine X0 (N := 7) rfl ?_); refine Y9 ?hg (N := 7) ?hd (cs := #[.bool false, .slice none 0 0]) (t := 46) ?hr ?_; (case hd => rfl); (case hg => rfl); (case hr => go_simp; try rfl); intro gb350 hg w19 hbox hb; have n0_ := Z0 (Kd.R_below (by (with_reducible repeat (first | apply Kd.R_alloc | apply Kd.R_drewN | apply Kd.R_drew)); exact HO342.out) hb); have n1_ := Z0 (Kd.R_below (by (with_reducible repeat (first | apply Kd.R_alloc | apply Kd.R_drewN | apply Kd.R_drew)); exact HO348.out) hb); have n2_ := Z0 (Y1 (g := gb344) (o := .cells #[.bool t339, .slice Ao17 t340.length co17] 46 (0, 0)) (by (with_reducible repeat (first | refine Y4 ?_ _ | refine Y5 ?_ | refine Y3 ?_ _)); exact BK344.out) hb); have n3_ := Z0 (Y0 (by repeat (first | (with_reducible first | exact HB.out | apply Z7 | apply Z4 | apply Z9 | refine Z8 ?_ GE344.out) | exact HB.out)) hb); have n4_ := Z0 (hbox); have n6_ := Z0 ((by rw [hg]; exact (Y6 (by repeat (first | (with_reducible first | exact HB.out | apply Z7 | apply Z4 | apply Z9 | refine Z8 ?_ GE344.out) | exact HB.out))) : w.heap.size ≤ gb350)); have n7_ := Z0 ((by rw [hg]; exact Nat.ne_of_lt (blk_lt (g := gb344) (o := .cells #[.bool t339, .slice Ao17 t340.length co17] 46 (0, 0)) (by (with_reducible repeat (first | refine Y4 ?_ _ | refine Y5 ?_ | refine Y3 ?_ _)); exact BK344.out)) : gb344 ≠ gb350)); have n8_ := Z0 ((by rw [hg]; exact Nat.ne_of_gt (blk_lt (g := gb344) (o := .cells #[.bool t339, .slice Ao17 t340.length co17] 46 (0, 0)) (by (with_reducible repeat (first | refine Y4 ?_ _ | refine Y5 ?_ | refine Y3 ?_ _)); exact BK344.out)) : gb350 ≠ gb344)); clear HO342; clear HO348; clear BK344; clear HB; have HO342 := n0_; have HO348 := n1_; have BK344 := n2_; have HB := n3_; have BK350 := n4_; have GE350 := n6_; have NB344_350 := n7_; have NB350_344 := n8_; clear n0_ n1_ n2_ n3_ n4_ n6_ n7_ n8_; clear hb hbox hg; have hnb20 := NB350_344.out; have hnc20 := NB344_350.out; have hcz21_0 : w19.cell? ⟨gb350, 0, none⟩ = some (.bool false) := (Z2 BK350.out 0).trans rfl; have hcz21_1 : w19.cell? ⟨gb350, 1, none⟩ = some (.slice none 0 0) := (Z2 BK350.out 1).trans rfl; have hfz21_0 := Z1 BK350.out 0; have hfz21_1 := Z1 BK350.out 1; obtain ⟨Ao22, co22, eo22⟩ := Kd.R_slice HO348.out; subst eo22) | ((with_reducible refine X1 (f := 27) rfl ?_); refine goesL_ (some 34) rfl rfl Tryz.func27 (by kernel_rfl) rfl #[.slice A0 l0.length c0, .string a1] rfl (by (try simp only [Y2, Y7, Y8]); first | done | rfl) ?_; (with_reducible refine (table_Index.calls _ _ l0 a1 t351 t352 _ ?side1 ?side2 A10.out).mono ?_); (case side1 => exact Kd.C_below HR0.out (by repeat (first | (with_reducible first | exact HB.out | apply Z7 | apply Z4 | apply Z9 | refine Z8 ?_ GE344.out | refine Z8 ?_ GE350.out) | exact HB.out))); (case side2 => exact HC0.out); rintro e w23 ⟨rfl, hb⟩; refine ⟨_, rfl, ?_⟩; have n0_ := Z0 (Kd.R_below (by (with_reducible repeat (first | apply Kd.R_alloc | apply Kd.R_drewN | apply Kd.R_drew)); exact (Kd.R_mono (Kd.R_far (p := ⟨gb350, 1, none⟩) (Kd.R_far (p := ⟨gb350, 0, none⟩) (Kd.R_types HO342.out BK350.out (by decide)) (fun _ hk => hk.2) (.bool t345)) (fun _ hk => hk.2) (.slice Ao22 t346.length co22)) (fun _ h_ => h_.1))) hb); have n1_ := Z0 (Kd.R_below (by (with_reducible repeat (first | apply Kd.R_alloc | apply Kd.R_drewN | apply Kd.R_drew)); exact (Kd.R_mono (Kd.R_far (p := ⟨gb350, 1, none⟩) (Kd.R_far (p := ⟨gb350, 0, none⟩) (Kd.R_types HO348.out BK350.out (by decide)) (fun _ hk => hk.2) (.bool t345)) (fun _ hk => hk.2) (.slice Ao22 t346.length co22)) (fun _ h_ => h_.1))) hb); have n2_ := Z0 (Y1 (g := gb344) (o := .cells #[.bool t339, .slice Ao17 t340.length co17] 46 (0, 0)) (by (with_reducible repeat (first | refine Y4 ?_ _ | refine Y5 ?_ | refine Y3 ?_ _)); refine blk_far ?_ NB344_350.out _; (with_reducible repeat (first | refine Y4 ?_ _ | refine Y5 ?_ | refine Y3 ?_ _)); refine blk_far ?_ NB344_350.out _; (with_reducible repeat (first | refine Y4 ?_ _ | refine Y5 ?_ | refine Y3 ?_ _)); exact BK344.out) hb); have n3_ := Z0 (Y1 (g := gb350) (o := .cells #[.bool t345, .slice Ao22 t346.length co22] 46 (0, 0)) (by (with_reducible repeat (first | refine Y4 ?_ _ | refine Y5 ?_ | refine Y3 ?_ _)); refine X7 (cs := #[.bool t345, .slice none 0 0]) ?_ 1 _ rfl; (with_reducible repeat (first | refine Y4 ?_ _ | refine Y5 ?_ | refine Y3 ?_ _)); refine X7 (cs := #[.bool false, .slice none 0 0]) ?_ 0 _ rfl; (with_reducible repeat (first | refine Y4 ?_ _ | refine Y5 ?_ | refine Y3 ?_ _)); exact BK350.out) hb); have n4_ := Z0 (Y0 (by repeat (first | (with_reducible first | exact HB.out | apply Z7 | apply Z4 | apply Z9 | refine Z8 ?_ GE344.out | refine Z8 ?_ GE350.out) | exact HB.out)) hb); clear HO342; clear HO348; clear BK344; clear BK350; clear HB; have HO342 := n0_; have HO348 := n1_; have BK344 := n2_; have BK350 := n3_; have HB := n4_; clear n0_ n1_ n2_ n3_ n4_; (try clear hb); (try clear hb2); (try clear hk); (try clear hi)) | ((with_reducible refine X1 (f := 28) rfl ?_); refine goesL_ (some 40) rfl rfl Tryz.func28 (by kernel_rfl) rfl #[.slice A0 l0.length c0, .string a1] rfl (by (try simp only [Y2, Y7, Y8]); first | done | rfl) ?_; (with_reducible refine (cabinetryref03_Index.calls k _ _ l0 a1 t353 t354 _ ?side1 ?side2 A11.out).mono ?_); (case side1 => repeat (first | exact (Kd.C_below HR0.out HB.out) | (with_reducible refine Kd.C_alloc ?_ _) | (with_reducible refine Kd.C_drewN ?_ _) | (with_reducible refine Kd.C_drew ?_))); (case side2 => exact HC0.out); rintro e w' ⟨rfl, ⟨nd, rfl⟩⟩; refine ⟨_, rfl, ?_⟩))
  (try simp only [Act.put, Z3, Z5, Z6])
  go_cut [4] (fun v4 wc => ∃ (kq : Nat) (x4_11 : Bool), v4 = .bool x4_11 ∧ Aside0 (cabinetrylaw03_TableBlanks.j0 kq x4_11 = some r) ∧ Aside0 (kq ≤ k) ∧ Aside0 (Kd.R k25 25 wc w.heap.size (fun k_ => some k_ ≠ ((.slice Ao22 t346.length co22) : Value).ownBlock) (.slice Ao17 t340.length co17) t340) ∧ Aside0 (Kd.R k25 25 wc w.heap.size (fun k_ => some k_ ≠ ((.slice Ao17 t340.length co17) : Value).ownBlock) (.slice Ao22 t346.length co22) t346) ∧ Aside0 (wc.heap[gb344]? = some (.cells #[.bool t339, (.slice Ao17 t340.length co17)] 46 (0, 0))) ∧ Aside0 (wc.heap[gb350]? = some (.cells #[.bool t345, (.slice Ao22 t346.length co22)] 46 (0, 0))) ∧ Aside0 (Below w.heap.size w wc))
  case first =>
   have H := HC12.out
   clear HC12
   replace H := Option.bind_eq_some_iff.mp H
   obtain ⟨t355, A240, H⟩ := H
   replace H : (if t355 = true then (if t343 = t349 then (if t351 = t353 then (if (t352 == t354) = true then ((cabinetrylaw03_known.f).bind fun t356 => (cabinetrylaw03_TableBlanks.j0 k t356)) else (cabinetrylaw03_TableBlanks.j0 k false)) else (cabinetrylaw03_TableBlanks.j0 k false)) else (cabinetrylaw03_TableBlanks.j0 k false)) else (cabinetrylaw03_TableBlanks.j0 k false)) = some r := H
   have A24 := Z0 A240
   clear A240
   by_cases c25 : t355 = true
   ·subst c25
    have H1 : (if t343 = t349 then (if t351 = t353 then (if (t352 == t354) = true then ((cabinetrylaw03_known.f).bind fun t356 => (cabinetrylaw03_TableBlanks.j0 k t356)) else (cabinetrylaw03_TableBlanks.j0 k false)) else (cabinetrylaw03_TableBlanks.j0 k false)) else (cabinetrylaw03_TableBlanks.j0 k false)) = some r := by rw [if_pos rfl] at H; exact H
    clear H
    have H := H1
    clear H1
    by_cases c26 : t343 = t349
    ·rw [if_pos c26] at H
     have c26b0 : (t343 == t349) = true := beq_iff_eq.mpr c26
     have c26b1 : (t343 != t349) = false := bne_eq_false_iff_eq.mpr c26
     clear c26
     (first | rw [c26b0] | (simp only [i64_w, i32_w]; rw [c26b0]) | skip)
     by_cases c27 : t351 = t353
     ·rw [if_pos c27] at H
      have c27b0 : (t351 == t353) = true := beq_iff_eq.mpr c27
      have c27b1 : (t351 != t353) = false := bne_eq_false_iff_eq.mpr c27
      clear c27
      by_cases c28 : (t352 == t354) = true
      ·rw [if_pos c28] at H
       have c28b0 : (t352 == t354) = true := c28
       (try (have c28b1 : decide (t352 = t354) = true := by simpa using c28))
       (try (have c28b2 : (t352 == t354) = true := by simpa using c28))
       clear c28
       replace H := Option.bind_eq_some_iff.mp H
       obtain ⟨t356, A290, H⟩ := H
       replace H : (cabinetrylaw03_TableBlanks.j0 k t356) = some r := H
       have A29 := Z0 A290
       clear A290
       have H' := Z0 H
       clear H
       have hnb30 := NB344_350.out
       have hnc30 := NB350_344.out
       have hcz31_0 : w23.cell? ⟨gb344, 0, none⟩ = some (.bool t339) := (Z2 BK344.out 0).trans rfl
       have hcz31_1 : w23.cell? ⟨gb344, 1, none⟩ = some (.slice Ao17 t340.length co17) := (Z2 BK344.out 1).trans rfl
       have hfz31_0 := Z1 BK344.out 0
       have hfz31_1 := Z1 BK344.out 1
       have hcz32_0 : w23.cell? ⟨gb350, 0, none⟩ = some (.bool t345) := (Z2 BK350.out 0).trans rfl
       have hcz32_1 : w23.cell? ⟨gb350, 1, none⟩ = some (.slice Ao22 t346.length co22) := (Z2 BK350.out 1).trans rfl
       have hfz32_0 := Z1 BK350.out 0
       have hfz32_1 := Z1 BK350.out 1
       go_wp2_with (first | ((with_reducible refine X1 (f := 29) rfl ?_); refine goesL_ (some 45) rfl rfl Tryz.func29 (by kernel_rfl) rfl #[.agg #[.bool t339, .slice Ao17 t340.length co17], .agg #[.bool t345, .slice Ao22 t346.length co22]] rfl (by (try simp only [Y2, Y7, Y8]); first | done | rfl) ?_; (with_reducible refine (cabinetryref03_SameRecord.calls k t339 _ _ t340 t345 _ _ t346 true _ ?side1 ?side2 ?side3 ?side4 A24.out).mono ?_); (case side1 => repeat (first | exact (Kd.R_reads' HO342.out).2.2 | (with_reducible refine Kd.C_alloc ?_ _) | (with_reducible refine Kd.C_drewN ?_ _) | (with_reducible refine Kd.C_drew ?_))); (case side2 => exact (Kd.R_reads' HO342.out).2.1); (case side3 => repeat (first | exact (Kd.R_reads' HO348.out).2.2 | (with_reducible refine Kd.C_alloc ?_ _) | (with_reducible refine Kd.C_drewN ?_ _) | (with_reducible refine Kd.C_drew ?_))); (case side4 => exact (Kd.R_reads' HO348.out).2.1); rintro e w33 ⟨rfl, hb⟩; refine ⟨_, rfl, ?_⟩; have n0_ := Z0 (Kd.R_below (by (with_reducible repeat (first | apply Kd.R_alloc | apply Kd.R_drewN | apply Kd.R_drew)); exact HO342.out) hb); have n1_ := Z0 (Kd.R_below (by (with_reducible repeat (first | apply Kd.R_alloc | apply Kd.R_drewN | apply Kd.R_drew)); exact HO348.out) hb); have n2_ := Z0 (Y1 (g := gb344) (o := .cells #[.bool t339, .slice Ao17 t340.length co17] 46 (0, 0)) (by (with_reducible repeat (first | refine Y4 ?_ _ | refine Y5 ?_ | refine Y3 ?_ _)); exact BK344.out) hb); have n3_ := Z0 (Y1 (g := gb350) (o := .cells #[.bool t345, .slice Ao22 t346.length co22] 46 (0, 0)) (by (with_reducible repeat (first | refine Y4 ?_ _ | refine Y5 ?_ | refine Y3 ?_ _)); exact BK350.out) hb); have n4_ := Z0 (Y0 (by repeat (first | (with_reducible first | exact HB.out | apply Z7 | apply Z4 | apply Z9 | refine Z8 ?_ GE344.out | refine Z8 ?_ GE350.out) | exact HB.out)) hb); clear HO342; clear HO348; clear BK344; clear BK350; clear HB; have HO342 := n0_; have HO348 := n1_; have BK344 := n2_; have BK350 := n3_; have HB := n4_; clear n0_ n1_ n2_ n3_ n4_; (try clear hb); (try clear hb2); (try clear hk); (try clear hi)) | (go_at_call 12; (with_reducible refine (cabinetrylaw03_known.calls  t356 _ A29.out).mono ?_); rintro e w34 ⟨rfl, hb⟩; have n0_ := Z0 (Kd.R_below (by (with_reducible repeat (first | apply Kd.R_alloc | apply Kd.R_drewN | apply Kd.R_drew)); exact HO342.out) hb); have n1_ := Z0 (Kd.R_below (by (with_reducible repeat (first | apply Kd.R_alloc | apply Kd.R_drewN | apply Kd.R_drew)); exact HO348.out) hb); have n2_ := Z0 (Y1 (g := gb344) (o := .cells #[.bool t339, .slice Ao17 t340.length co17] 46 (0, 0)) (by (with_reducible repeat (first | refine Y4 ?_ _ | refine Y5 ?_ | refine Y3 ?_ _)); exact BK344.out) hb); have n3_ := Z0 (Y1 (g := gb350) (o := .cells #[.bool t345, .slice Ao22 t346.length co22] 46 (0, 0)) (by (with_reducible repeat (first | refine Y4 ?_ _ | refine Y5 ?_ | refine Y3 ?_ _)); exact BK350.out) hb); have n4_ := Z0 (Y0 (by repeat (first | (with_reducible first | exact HB.out | apply Z7 | apply Z4 | apply Z9 | refine Z8 ?_ GE344.out | refine Z8 ?_ GE350.out) | exact HB.out)) hb); clear HO342; clear HO348; clear BK344; clear BK350; clear HB; have HO342 := n0_; have HO348 := n1_; have BK344 := n2_; have BK350 := n3_; have HB := n4_; clear n0_ n1_ n2_ n3_ n4_; (try clear hb); (try clear hb2); (try clear hk); (try clear hi)))
       go_meet
       case rel => exact ⟨_, (t356), (by first | rfl | (simp; done) | (simp [*]; done)), H', ⟨by first | omega | exact Nat.le_refl _⟩, ⟨by (with_reducible repeat (first | apply Kd.R_alloc | apply Kd.R_drewN | apply Kd.R_drew)); exact Kd.R_mono HO342.out (fun _ hk => hk.2)⟩, ⟨by (with_reducible repeat (first | apply Kd.R_alloc | apply Kd.R_drewN | apply Kd.R_drew)); exact Kd.R_mono HO348.out (fun _ hk => hk.2)⟩, ⟨by (with_reducible repeat (first | refine Y4 ?_ _ | refine Y5 ?_ | refine Y3 ?_ _)); exact BK344.out⟩, ⟨by (with_reducible repeat (first | refine Y4 ?_ _ | refine Y5 ?_ | refine Y3 ?_ _)); exact BK350.out⟩, ⟨by repeat (first | (with_reducible first | exact HB.out | apply Z7 | apply Z4 | apply Z9 | refine Z8 ?_ GE344.out | refine Z8 ?_ GE350.out) | exact HB.out)⟩⟩
      ·rw [if_neg c28] at H
       first | (exact absurd (H.trans (congrArg some HR_.out)) (by simp)) | (exact (cabinetrylaw03_TableBlanks.j0_ne _ _ H (congrArg some HR_.out)).elim)
     ·rw [if_neg c27] at H
      first | (exact absurd (H.trans (congrArg some HR_.out)) (by simp)) | (exact (cabinetrylaw03_TableBlanks.j0_ne _ _ H (congrArg some HR_.out)).elim)
    ·rw [if_neg c26] at H
     first | (exact absurd (H.trans (congrArg some HR_.out)) (by simp)) | (exact (cabinetrylaw03_TableBlanks.j0_ne _ _ H (congrArg some HR_.out)).elim)
   ·replace c25 := Bool.eq_false_iff.mpr c25
    subst c25
    have H1 : (cabinetrylaw03_TableBlanks.j0 k false) = some r := by rw [if_neg (show ¬ (false = true) by decide)] at H; exact H
    clear H
    have H := H1
    clear H1
    have H' := Z0 H
    clear H
    have hnb47 := NB344_350.out
    have hnc47 := NB350_344.out
    have hcz48_0 : w23.cell? ⟨gb344, 0, none⟩ = some (.bool t339) := (Z2 BK344.out 0).trans rfl
    have hcz48_1 : w23.cell? ⟨gb344, 1, none⟩ = some (.slice Ao17 t340.length co17) := (Z2 BK344.out 1).trans rfl
    have hfz48_0 := Z1 BK344.out 0
    have hfz48_1 := Z1 BK344.out 1
    have hcz49_0 : w23.cell? ⟨gb350, 0, none⟩ = some (.bool t345) := (Z2 BK350.out 0).trans rfl
    have hcz49_1 : w23.cell? ⟨gb350, 1, none⟩ = some (.slice Ao22 t346.length co22) := (Z2 BK350.out 1).trans rfl
    have hfz49_0 := Z1 BK350.out 0
    have hfz49_1 := Z1 BK350.out 1
    go_wp2_with (first | ((with_reducible refine X1 (f := 29) rfl ?_); refine goesL_ (some 45) rfl rfl Tryz.func29 (by kernel_rfl) rfl #[.agg #[.bool t339, .slice Ao17 t340.length co17], .agg #[.bool t345, .slice Ao22 t346.length co22]] rfl (by (try simp only [Y2, Y7, Y8]); first | done | rfl) ?_; (with_reducible refine (cabinetryref03_SameRecord.calls k t339 _ _ t340 t345 _ _ t346 false _ ?side1 ?side2 ?side3 ?side4 A24.out).mono ?_); (case side1 => repeat (first | exact (Kd.R_reads' HO342.out).2.2 | (with_reducible refine Kd.C_alloc ?_ _) | (with_reducible refine Kd.C_drewN ?_ _) | (with_reducible refine Kd.C_drew ?_))); (case side2 => exact (Kd.R_reads' HO342.out).2.1); (case side3 => repeat (first | exact (Kd.R_reads' HO348.out).2.2 | (with_reducible refine Kd.C_alloc ?_ _) | (with_reducible refine Kd.C_drewN ?_ _) | (with_reducible refine Kd.C_drew ?_))); (case side4 => exact (Kd.R_reads' HO348.out).2.1); rintro e w50 ⟨rfl, hb⟩; refine ⟨_, rfl, ?_⟩; have n0_ := Z0 (Kd.R_below (by (with_reducible repeat (first | apply Kd.R_alloc | apply Kd.R_drewN | apply Kd.R_drew)); exact HO342.out) hb); have n1_ := Z0 (Kd.R_below (by (with_reducible repeat (first | apply Kd.R_alloc | apply Kd.R_drewN | apply Kd.R_drew)); exact HO348.out) hb); have n2_ := Z0 (Y1 (g := gb344) (o := .cells #[.bool t339, .slice Ao17 t340.length co17] 46 (0, 0)) (by (with_reducible repeat (first | refine Y4 ?_ _ | refine Y5 ?_ | refine Y3 ?_ _)); exact BK344.out) hb); have n3_ := Z0 (Y1 (g := gb350) (o := .cells #[.bool t345, .slice Ao22 t346.length co22] 46 (0, 0)) (by (with_reducible repeat (first | refine Y4 ?_ _ | refine Y5 ?_ | refine Y3 ?_ _)); exact BK350.out) hb); have n4_ := Z0 (Y0 (by repeat (first | (with_reducible first | exact HB.out | apply Z7 | apply Z4 | apply Z9 | refine Z8 ?_ GE344.out | refine Z8 ?_ GE350.out) | exact HB.out)) hb); clear HO342; clear HO348; clear BK344; clear BK350; clear HB; have HO342 := n0_; have HO348 := n1_; have BK344 := n2_; have BK350 := n3_; have HB := n4_; clear n0_ n1_ n2_ n3_ n4_; (try clear hb); (try clear hb2); (try clear hk); (try clear hi)))
    go_meet
    case rel => exact ⟨_, (false), (by first | rfl | (simp; done) | (simp [*]; done)), H', ⟨by first | omega | exact Nat.le_refl _⟩, ⟨by (with_reducible repeat (first | apply Kd.R_alloc | apply Kd.R_drewN | apply Kd.R_drew)); exact Kd.R_mono HO342.out (fun _ hk => hk.2)⟩, ⟨by (with_reducible repeat (first | apply Kd.R_alloc | apply Kd.R_drewN | apply Kd.R_drew)); exact Kd.R_mono HO348.out (fun _ hk => hk.2)⟩, ⟨by (with_reducible repeat (first | refine Y4 ?_ _ | refine Y5 ?_ | refine Y3 ?_ _)); exact BK344.out⟩, ⟨by (with_reducible repeat (first | refine Y4 ?_ _ | refine Y5 ?_ | refine Y3 ?_ _)); exact BK350.out⟩, ⟨by repeat (first | (with_reducible first | exact HB.out | apply Z7 | apply Z4 | apply Z9 | refine Z8 ?_ GE344.out | refine Z8 ?_ GE350.out) | exact HB.out)⟩⟩
  case rest =>
   clear HC12
   (try clear c1);(try clear c2);(try clear p2);(try clear c3);(try clear c4);(try clear c4b0);(try clear c5);(try clear p6);(try clear c12);(try clear c20);(try clear c24);(try clear c25);(try clear c26);(try clear c26b0);(try clear c26b1);(try clear c27);(try clear c27b0);(try clear c27b1);(try clear c28);(try clear c28b0);(try clear c28b1);(try clear c28b2);(try clear c29);(try clear c30);(try clear c35);(try clear c39);(try clear c43);(try clear c47);(try clear hcz16_0);(try clear hcz16_1);(try clear hcz21_0);(try clear hcz21_1);(try clear hcz31_0);(try clear hcz31_1);(try clear hcz32_0);(try clear hcz32_1);(try clear hcz36_0);(try clear hcz36_1);(try clear hcz37_0);(try clear hcz37_1);(try clear hcz40_0);(try clear hcz40_1);(try clear hcz41_0);(try clear hcz41_1);(try clear hcz44_0);(try clear hcz44_1);(try clear hcz45_0);(try clear hcz45_1);(try clear hcz48_0);(try clear hcz48_1);(try clear hcz49_0);(try clear hcz49_1);(try clear hfz16_0);(try clear hfz16_1);(try clear hfz21_0);(try clear hfz21_1);(try clear hfz31_0);(try clear hfz31_1);(try clear hfz32_0);(try clear hfz32_1);(try clear hfz36_0);(try clear hfz36_1);(try clear hfz37_0);(try clear hfz37_1);(try clear hfz40_0);(try clear hfz40_1);(try clear hfz41_0);(try clear hfz41_1);(try clear hfz44_0);(try clear hfz44_1);(try clear hfz45_0);(try clear hfz45_1);(try clear hfz48_0);(try clear hfz48_1);(try clear hfz49_0);(try clear hfz49_1)
   obtain ⟨kq, x4_11, rfl, HA, HJ11, HO_345001, HO_351001, BK344, BK350, HB⟩ := hcut
   cases kq with
   | zero => exact absurd HA.out (by simp [cabinetrylaw03_TableBlanks.j0])
   | succ kj11 =>
    have H := HA.out
    clear HA
    simp only [cabinetrylaw03_TableBlanks.j0] at H
    obtain rfl := Option.some.inj H
    go_wp2
    go_ret
    exact ⟨rfl, by repeat (first | (with_reducible first | exact HB.out | apply Z7 | apply Z4 | apply Z9 | refine Z8 ?_ GE344.out | refine Z8 ?_ GE350.out) | exact HB.out)⟩
end Go.Proofs.YtldpdidlfbphcaaGreatDoor.P
end
section
namespace Go.Proofs.YtldpdidlfbphcaaGreatDoor.P
open Go.RowKit Go.Proofs.YtldpdidlfbphcaaGreatDoorW.PrintWords Go.Proofs.YtldpdidlfbphcaaGreatDoorW.PrintLast Go.Proofs.YtldpdidlfbphcaaGreatDoorW.PrintMore
def emptyV (x : S23) : S25 := ⟨emptyK x.f1, 0, (⟨#[]⟩ : ByteArray)⟩
theorem empty_refS (s : ByteArray) (kd wd : Int) (nl : Bool) : cabinetryref03_Empty.f s kd wd nl = some (emptyK kd, 0, (⟨#[]⟩ : ByteArray)) := by
 unfold cabinetryref03_Empty.f emptyK
 by_cases h : kd = 5
 ·rw [if_pos h, if_pos h]; rfl
 ·rw [if_neg h, if_neg h]
theorem blank_go (l : List S23) (hL : l.length ≤ 1048576) : ∀ (r : List S23) (i k : Nat) (acc : List S25), l.drop i = r → r.length < k → acc.length = i → table_Blank.l0 k l (l.length : Int) (i : Int) false acc = some (false, acc ++ r.map emptyV, 0)
 | [], i, k, acc, hd, hk, ha => by
  obtain ⟨m, rfl⟩ : ∃ m, k = m + 1 := ⟨k - 1, by simp at hk; omega⟩
  simp only [table_Blank.l0]
  rw [if_neg (rd_end hd)]
  simp
 | x :: r, i, k, acc, hd, hk, ha => by
  obtain ⟨m, rfl⟩ : ∃ m, k = m + 1 := ⟨k - 1, by simp at hk; omega⟩
  obtain ⟨hlt, hx, hr, _⟩ := rd_drop hd
  simp only [table_Blank.l0]
  rw [if_pos (by omega), if_pos (by omega), if_pos (by omega), hx, empty_is, wrapL hlt hL]
  simp only [Option.bind_some]
  rw [if_pos (by omega), blank_go l hL r (i + 1) m _ hr (by simp at hk; omega) (by simp [ha])]
  simp [emptyV]
theorem blanks_go (l : List S23) (hL : l.length ≤ 1048576) : ∀ (r : List S23) (i k : Nat) (acc : List S25), l.drop i = r → r.length < k → acc.length = i → cabinetryref03_Blanks.l0 k l (i : Int) false acc = some (false, acc ++ r.map emptyV)
 | [], i, k, acc, hd, hk, ha => by
  obtain ⟨m, rfl⟩ : ∃ m, k = m + 1 := ⟨k - 1, by simp at hk; omega⟩
  simp only [cabinetryref03_Blanks.l0]
  rw [if_neg (rd_end hd)]
  simp
 | x :: r, i, k, acc, hd, hk, ha => by
  obtain ⟨m, rfl⟩ : ∃ m, k = m + 1 := ⟨k - 1, by simp at hk; omega⟩
  obtain ⟨hlt, hx, hr, _⟩ := rd_drop hd
  simp only [cabinetryref03_Blanks.l0]
  rw [if_pos (by omega), if_pos (by omega), hx, empty_refS, wrapL hlt hL]
  simp only [Option.bind_some]
  rw [if_pos (by omega), blanks_go l hL r (i + 1) m _ hr (by simp at hk; omega) (by simp [ha])]
  simp [emptyV]
theorem index_go (l : List S23) (hL : l.length ≤ 1048576) (s : ByteArray) : ∀ (r : List S23) (i k : Nat), l.drop i = r → r.length < k → (l.take i).any (fun x => x.f0.toList == s.toList) = false → cabinetryref03_Index.l0 k l s (i : Int) = some (max (idxS l s) 0, decide (idxS l s ≥ 0))
 | [], i, k, hd, hk, ha => by
  obtain ⟨m, rfl⟩ : ∃ m, k = m + 1 := ⟨k - 1, by simp at hk; omega⟩
  simp only [cabinetryref03_Index.l0]
  rw [if_neg (rd_end hd)]
  have hl : l.take i = l := List.take_of_length_le (List.drop_eq_nil_iff.1 hd)
  rw [hl] at ha
  have e : idxS l s = -1 := by
   unfold idxS
   rw [if_neg (by rw [ha]; decide)]
  rw [e]
  rfl
 | x :: r, i, k, hd, hk, ha => by
  obtain ⟨m, rfl⟩ : ∃ m, k = m + 1 := ⟨k - 1, by simp at hk; omega⟩
  obtain ⟨hlt, hx, hr, ht⟩ := rd_drop hd
  simp only [cabinetryref03_Index.l0]
  rw [if_pos (by omega), if_pos (by omega), hx]
  by_cases h : x.f0.toList = s.toList
  ·rw [if_pos h]
   have hg : l.getD i z23 = x := by
    have := hx
    unfold rd_T23 at this
    rwa [Int.toNat_natCast] at this
   have e := idx_at (s := s) hlt ha (by rw [hg]; exact beq_iff_eq.2 h)
   rw [e]
   congr 1
   apply Prod.ext
   ·show (i : Int) = max (i : Int) 0
    omega
   ·symm
    exact decide_eq_true (show ((i : Int) ≥ 0) from Int.natCast_nonneg i)
  ·rw [if_neg h, wrapL hlt hL]
   refine index_go l hL s r (i + 1) m hr (by simp at hk; omega) ?_
   rw [ht, List.any_append, ha]
   simpa using h
theorem sameValues_go (l : List S25) (hL : l.length ≤ 1048576) : ∀ (n i k : Nat), i + n = l.length → n + 2 < k → cabinetryref01_SameValues.l0 k l l (i : Int) = some true
 | 0, i, k, h, hk => by
  obtain ⟨m, rfl⟩ : ∃ m, k = m + 1 := ⟨k - 1, by omega⟩
  simp only [cabinetryref01_SameValues.l0]
  rw [if_neg (by omega)]
 | n + 1, i, k, h, hk => by
  obtain ⟨m, rfl⟩ : ∃ m, k = m + 1 := ⟨k - 1, by omega⟩
  have hi : i < l.length := by omega
  have e : ∀ x : S25, cabinetryref01_SameValue.f m x.f0 x.f1 x.f2 x.f0 x.f1 x.f2 = some true := by
   intro x
   obtain ⟨q, rfl⟩ : ∃ q, m = q + 1 := ⟨m - 1, by omega⟩
   unfold cabinetryref01_SameValue.f
   rw [if_pos rfl, if_pos rfl]
   simp [cabinetryref01_SameValue.j0]
  simp only [cabinetryref01_SameValues.l0]
  rw [if_pos (by omega), if_pos (by omega), if_pos (by omega), e, wrapL hi hL]
  simp only [Option.bind_some, if_true]
  exact sameValues_go l hL n (i + 1) m (by omega) (by omega)
theorem sameRecord_self (g : Bool) (l : List S25) (hL : l.length ≤ 1048576) (k : Nat) (hk : l.length + 2 < k) : cabinetryref03_SameRecord.f k g l g l = some true := by
 unfold cabinetryref03_SameRecord.f cabinetryref01_SameValues.f
 rw [if_pos (by simp), if_pos rfl]
 have := sameValues_go l hL l.length 0 k (by omega) hk
 rw [show ((0 : Nat) : Int) = 0 from rfl] at this
 rw [this]
 rfl
theorem TableBlanks_pure (l : List S23) (s : ByteArray) (h : smallF l) (hs : s.size ≤ 1048576) : ∃ k, cabinetrylaw03_TableBlanks.f k l s = some true := by
 obtain ⟨K, hK⟩ := refVF_is l h
 have hL := h.1
 obtain ⟨m, hm1, hm2⟩ : ∃ m : Nat, K ≤ m ∧ 3200000 ≤ m := ⟨K + 3200000, by omega, by omega⟩
 refine ⟨m + 1, ?_⟩
 unfold cabinetrylaw03_TableBlanks.f
 obtain ⟨r, hr⟩ := weight_some 0 l [] hL ⟨by simp, fun x hx => by cases hx⟩ (m + 1) (by omega)
 rw [hr]
 simp only [Option.bind_some]
 split
 ·rfl
 ·have hv : table_ValidateFields.f l = some (vfS l) := by unfold table_ValidateFields.f; rw [if_pos (by omega)]
  have e1 : table_Blank.f (m + 1) l = some (if vfS l = 0 then (false, l.map emptyV, 0) else (false, [], vfS l)) := by
   unfold table_Blank.f
   rw [hv]
   simp only [Option.bind_some]
   by_cases h0 : vfS l = 0
   ·rw [if_pos h0, if_pos h0]
    have := blank_go l hL l 0 (m + 1) [] List.drop_zero (by omega) rfl
    exact this
   ·rw [if_neg h0, if_neg h0]
  have e2 : cabinetryref03_Blank.f (m + 1) l = some (if vfS l = 0 then (false, l.map emptyV, 0) else (false, [], vfS l)) := by
   unfold cabinetryref03_Blank.f
   rw [hK _ (by omega)]
   simp only [Option.bind_some]
   by_cases h0 : vfS l = 0
   ·rw [if_pos h0, if_pos h0]
    unfold cabinetryref03_Blanks.f
    have := blanks_go l hL l 0 (m + 1) [] List.drop_zero (by omega) rfl
    rw [show ((0 : Nat) : Int) = 0 from rfl] at this
    rw [this]
    rfl
   ·rw [if_neg h0, if_neg h0]
  have e3 : table_Index.f l s = some (max (idxS l s) 0, decide (idxS l s ≥ 0)) := by unfold table_Index.f; rw [if_pos (by omega)]
  have e4 : cabinetryref03_Index.f (m + 1) l s = some (max (idxS l s) 0, decide (idxS l s ≥ 0)) := index_go l hL s l 0 (m + 1) List.drop_zero (by omega) rfl
  rw [e1, e2, e3, e4]
  simp only [Option.bind_some]
  generalize hq : (if vfS l = 0 then (false, l.map emptyV, (0 : Int)) else (false, [], vfS l)) = q
  have hq2 : q.2.1.length ≤ 1048576 := by
   rw [← hq]
   split
   ·simpa using hL
   ·simp
  rw [sameRecord_self q.1 q.2.1 hq2 _ (by omega)]
  simp only [Option.bind_some, if_true]
  rw [if_pos (by simp)]
  rfl
end Go.Proofs.YtldpdidlfbphcaaGreatDoor.P
end
section
namespace Go.Proofs.YtldpdidlfbphcaaGreatDoor.tableBlanks
open Go.ChangeShapes Go.WideShapes Go.ChangeAt Go.RowKit
open Go.ChangeMaps (open_string shut_string)
def zargs : Array Value := #[.slice none 0 0, .string ⟨#[]⟩]
theorem laid_met (os : Os) : laidMet Tryz.prog Rows.tableBlanksUptoRow.laid ((R.laidWorld os).forCall (fun _ _ => 0) ⟨#[], zargs, []⟩).memory :=
 laidMet_of_run' 8 (by kernel_rfl) (by kernel_rfl)
theorem reads (os : Os) {H : Type} (enc : TypeId × Value → H) : ∃ places, DataW.whole enc Tryz.prog ((R.laidWorld os).forCall (fun _ _ => 0) ⟨#[], zargs, []⟩).memory Tryz.f5.params.toList Rows.tableBlanksSpec.vars false zargs.toList 8 = some ([.nil, .lit (.string [])], [], places) :=
 ⟨[], by kernel_rfl⟩
set_option maxRecDepth 100000 in
theorem contract (H : Type) (enc : TypeId × Value → H) (W : World) (base : Nat) (args : Array Value) (ds gs : List (DataW H)) (before : List MemPlace)
  (hval : ∀ (j : Nat) t v, Tryz.f5.params[j]? = some t → args[j]? = some v → Value.okWide Tryz.prog W .any base t v)
  (hW : DataW.Whole enc Tryz.prog Tryz.f5.params.toList Rows.tableBlanksSpec.vars false W args.toList ds gs before) (hk : Rows.uptoSmall H (ds ++ gs) = true) :
  Calls Tryz.prog 5 args W fun e W' => ∃ v, e = .returned v ∧ Rows.tableBlanksSpec.post enc Tryz.prog Tryz.f5 false true false false W args v W' := by
 have hbk : Rows.uptoBulkAll (ds ++ gs) ≤ 1048576 := of_decide_eq_true hk
 clear hk
 have hW' := hW
 obtain ⟨p, q, hA0, hV, rfl, hfz, hnd⟩ := hW
 have hA : DataW.TrodAll enc Tryz.prog W 0 (fun _ => true) true Tryz.f5.params.toList args.toList ds p := hA0
 rw [Tryz.params5] at hA hval
 obtain ⟨v0, vs0, d0, ds0, p0, q0, hargs, rfl, rfl, h0, r0⟩ := trodAll_cons hA
 obtain ⟨v1, vs1, d1, ds1, p1, q1, rfl, rfl, rfl, h1, r1⟩ := trodAll_cons r0
 obtain ⟨rfl, rfl, rfl⟩ := trodAll_nil r1
 obtain rfl : args = #[v0, v1] := by cases args; simp_all
 obtain ⟨rfl, rfl⟩ := trodVars_none hV
 rw [List.append_nil] at hbk
 simp only [Rows.uptoBulkAll] at hbk
 have lt0 : ∀ x ∈ p0, x.block < W.heap.size := by obtain ⟨m, hm⟩ := h0; exact DataW.trod_lt m _ _ _ hm
 have k0 := h0
 have lt1 : ∀ x ∈ p1, x.block < W.heap.size := by obtain ⟨m, hm⟩ := h1; exact DataW.trod_lt m _ _ _ hm
 have k1 := h1
 obtain ⟨A0, c0, l0, rfl, hc0, hC0, hb0⟩ := R.open_fields (hval 0 32 v0 rfl rfl) h0
 have sm0 := R.small_fields (xs := l0) (by omega)
 obtain ⟨a1, rfl, rfl, rfl, y1⟩ := open_string Tryz.underlying9 (hval 1 9 v1 rfl rfl) h1
 have st1 : a1.size ≤ 1048576 := by
  have e_ : a1.data.toList.length = a1.size := rfl
  rw [R.bulk_string] at hbk
  omega
 obtain ⟨k, hk⟩ := P.TableBlanks_pure l0 a1 sm0 st1
 refine (P.cabinetrylaw03_TableBlanks.calls1 k _ _ l0 a1 true W rfl hC0 hc0 hk).mono fun e W' ⟨he, bel⟩ => ?_
 subst he
 exact ⟨_, rfl, _, _, _, [], _, [], hW', trodAll_mk1 (shut_bool Tryz.underlying4 _), (trodAll_cons_mk (Below.trod R.laidOut (by kernel_rfl) (of_decide_eq_true (by kernel_rfl)) k0 bel lt0) (trodAll_cons_mk (Below.trod R.laidOut (by kernel_rfl) (of_decide_eq_true (by kernel_rfl)) k1 bel lt1) trodAll_mk0)), rfl, bel.frame _, fun h => by cases h⟩
set_option maxRecDepth 100000 in
theorem lifted (os : Os) (started : os.Started) (H : Type) (enc : TypeId × Value → H) (F : Stop.Interp) :
  ReturnsInHanded {} Tryz.checked os 5 .any ((Rows.OpenSpec.upto Rows.tableBlanksSpec).preRow enc Tryz.prog Tryz.f5 Rows.tableBlanksUptoRow.domain false Rows.tableBlanksUptoRow.laid) (((Rows.OpenSpec.upto Rows.tableBlanksSpec).at F).post enc Tryz.prog Tryz.f5 false true false false) := by
 obtain ⟨places, hx⟩ := reads os enc
 refine returnsInHanded_of_row (C := Tryz.checked) (s := Rows.OpenSpec.upto Rows.tableBlanksSpec) R.own started (by kernel_rfl) Tryz.func5
  (witness_row_at (enc := enc) (C := Tryz.checked) false (R.laidWorld os) zargs rfl (by kernel_rfl) (by kernel_rfl) (by kernel_rfl)
   (OpenSpec.preRow_of_cond 8 hx (by kernel_rfl) (fun k hk => by cases hk; kernel_rfl) (by kernel_rfl) (laid_met os))) ?_
 intro W base args ds gs before hval hW _ hcond _ hL _ _
 exact contract H enc W base args ds gs before hval hW (hcond _ rfl)
theorem said : Rows.TableBlanksUptoSaid :=
 OpenClaim.holds_of_cond 5 Tryz.f5 rfl rfl rfl rfl rfl rfl rfl ⟨rfl, rfl, rfl, rfl, rfl⟩ rfl rfl rfl rfl rfl (by kernel_rfl) Tryz.func5 (by kernel_rfl)
  (of_decide_eq_true (by kernel_rfl)) (by unfold Func.isWrapper; first | (rw [if_pos (by decide +kernel)]; kernel_rfl) | (rw [if_neg (by decide +kernel)]; exact ⟨rfl, rfl⟩))
  (fun os started H enc _ F => by rw [OpenClaim.pre_eq_preRow]; exact lifted os started H enc F)
theorem plain (f : FuncId) (fn : Func) (hf : Tryz.pinned.checked.prog.funcNamed "cabinetry/cabinetrylaw03.TableBlanks" = some f) (hfn : Tryz.pinned.checked.prog.funcs[f]? = some fn) :
  false = Tryz.pinned.checked.prog.looks [] ∧ ∀ (j : Nat) t, fn.params[j]? = some t → Tryz.pinned.checked.prog.wantsStandIn t = false := by
 obtain rfl : f = 5 := Option.some.inj ((show Tryz.prog.funcNamed "cabinetry/cabinetrylaw03.TableBlanks" = some 5 by kernel_rfl).symm.trans hf) |>.symm
 obtain rfl : fn = Tryz.f5 := (Option.some.inj (Tryz.func5.symm.trans hfn)).symm
 refine ⟨by kernel_rfl, fun j t ht => ?_⟩
 rw [Tryz.params5] at ht
 have hm := Array.mem_of_getElem? ht
 simp only [List.mem_toArray, List.mem_cons, List.not_mem_nil, or_false] at hm
 have hall : ∀ t, t = 9 ∨ t = 32 → Tryz.prog.wantsStandIn t = false := by
  intro t h
  rcases h with rfl | rfl
  ·kernel_rfl
  ·kernel_rfl
 rcases hm with rfl | rfl
 ·exact hall _ (by simp)
 ·exact hall _ (by simp)
theorem card : Rows.TableBlanksUptoCardSaid :=
 Claim7.holds_tied_plain_at .later [] _ _ _ _ said (fun _ h => by cases h) (by kernel_rfl) (fun _ h => by cases h) tableBlanksUpto_row_tie rfl ⟨rfl, rfl⟩ (by kernel_rfl) rfl plain (by kernel_rfl)
#print axioms card
end Go.Proofs.YtldpdidlfbphcaaGreatDoor.tableBlanks
namespace Go.Proofs.YtldpdidlfbphcaaGreatDoor
theorem tableBlanks_card_holds : Rows.TableBlanksUptoCardSaid := tableBlanks.card
end Go.Proofs.YtldpdidlfbphcaaGreatDoor
end
