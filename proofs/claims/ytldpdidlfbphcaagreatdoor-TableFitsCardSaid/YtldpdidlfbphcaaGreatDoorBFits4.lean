/- Part 4 of this proof: what the last part leans on. -/
import Derived.Test.YtldpdidlfbphcaaGreatDoorBFits3
import Derived.Laws.EntriesVeiled
import Derived.Lib.BufferWrite
set_option linter.unusedVariables false
set_option linter.unusedSimpArgs false
section
namespace Go.Proofs.YtldpdidlfbphcaaGreatDoor.P
open Go.RowKit Go.Proofs.YtldpdidlfbphcaaGreatDoorW.PrintWords Go.Proofs.YtldpdidlfbphcaaGreatDoorW.PrintLast Go.Proofs.YtldpdidlfbphcaaGreatDoorW.PrintMore
attribute [local go_sem] max2_int min2_int max_two min_two max_three min_three max_four min_four
theorem dw_len {p : UInt8 → Bool} : ∀ (l : List UInt8), (l.dropWhile p).length ≤ l.length
  | [] => Nat.le_refl _
  | c :: r => by
    rw [List.dropWhile_cons]
    split
    · exact Nat.le_succ_of_le (dw_len r)
    · exact Nat.le_refl _
theorem blanksOff_size (s : ByteArray) : (blanksOff s).size ≤ s.size := by
  unfold blanksOff Lib.trimRightS
  rw [ba_size, List.length_reverse]
  refine Nat.le_trans (dw_len _) ?_
  rw [List.length_reverse, data_length]
  exact Nat.le_refl _
def fit_T : Bool × List (List Nat × List Nat) := (true, [([], []), ([0], [0]), ([], []), ([2], [2]), ([3], [3]), ([1, 4], [1, 4])])
theorem fit_tab : rtab .any (opsOf Tryz.f13 10) = fit_T := by kernel_rfl
set_option maxHeartbeats 8000000 in
set_option maxRecDepth 100000 in
theorem fit_walk0_true (s : ByteArray) (kd wd : Int) (pg vn : Int) (vs : ByteArray) (w : World) (hb1 : fieldS s kd wd = true) (hp1 : pageS pg = true) (he1 : valS 0 vn vs = 0) :
    Calls Tryz.prog 13 #[.agg #[.string s, .int .i64 kd, .int .i64 wd, .bool true], .int .i64 pg, .agg #[.int .i64 0, .int .i64 vn, .string vs]] w fun e w' => e = .returned (.tuple #[.agg #[.int .i64 (fitS s kd wd true pg 0 vn vs).1, .int .i64 (fitS s kd wd true pg 0 vn vs).2.1, .string (fitS s kd wd true pg 0 vn vs).2.2.1], .int .i64 (fitS s kd wd true pg 0 vn vs).2.2.2]) ∧ Below w.heap.size w w' := by
  have CF := Aside0.mk (fun W => table_isField.calls s kd wd true true W (by rw [isField_is, hb1]))
  have CP := Aside0.mk (fun W => (table_isPage.calls pg true W (by rw [isPage_is, hp1])).mono fun _ _ ⟨he, hd⟩ => (⟨he, hd.below⟩ : _ ∧ Below W.heap.size W _))
  have CV := Aside0.mk (fun W => val_Validate.calls 1 0 vn vs 0 W (by rw [valS_is 0, he1]))
  have H1 := Aside0.mk hb1
  have H2 := Aside0.mk hp1
  have H3 := Aside0.mk he1
  clear hb1 hp1 he1
  have HB := Aside0.mk (Below.refl w.heap.size w)
  go_enter Tryz.func13, Tryz.ntmps13
  go_wp2_with (first | ((with_reducible refine gate_dst (N := 3) rfl ?_); refine box_event ?hg (N := 3) ?hd (cs := #[.string s, .int .i64 kd, .int .i64 wd, .bool true]) (t := 23) ?hr ?_; (case hd => rfl); (case hg => rfl); (case hr => go_simp; try rfl); intro g3 hg w3 hbk hb; have G3 : Aside0 (w.heap.size ≤ g3) := ⟨by rw [hg]; exact HB.out.size⟩; have nB := Aside0.mk (below_step HB.out hb); have BK3 := Aside0.mk hbk; clear hg hb hbk HB; have HB := nB; clear nB) | ((with_reducible refine gate_dst (N := 5) rfl ?_); refine box_event ?hg (N := 5) ?hd (cs := #[.int .i64 0, .int .i64 vn, .string vs]) (t := 25) ?hr ?_; (case hd => rfl); (case hg => rfl); (case hr => go_simp; try rfl); intro g5 hg w5 hbk hb; have G5 : Aside0 (w.heap.size ≤ g5) := ⟨by rw [hg]; exact HB.out.size⟩; have N35 : Aside0 (g3 ≠ g5) := ⟨by rw [hg]; exact Nat.ne_of_lt (blk_lt BK3.out)⟩; have n3 := Aside0.mk (blk_below BK3.out hb); clear BK3; have BK3 := n3; clear n3; have nB := Aside0.mk (below_step HB.out hb); have BK5 := Aside0.mk hbk; clear hg hb hbk HB; have HB := nB; clear nB) | ((with_reducible refine gate_dst (N := 6) rfl ?_); refine box_event ?hg (N := 6) ?hd (cs := #[.int .i64 0, .int .i64 0, .string ⟨#[]⟩]) (t := 25) ?hr ?_; (case hd => rfl); (case hg => rfl); (case hr => go_simp; try rfl); intro g6 hg w6 hbk hb; have G6 : Aside0 (w.heap.size ≤ g6) := ⟨by rw [hg]; exact HB.out.size⟩; have N36 : Aside0 (g3 ≠ g6) := ⟨by rw [hg]; exact Nat.ne_of_lt (blk_lt BK3.out)⟩; have N56 : Aside0 (g5 ≠ g6) := ⟨by rw [hg]; exact Nat.ne_of_lt (blk_lt BK5.out)⟩; have n3 := Aside0.mk (blk_below BK3.out hb); clear BK3; have BK3 := n3; clear n3; have n5 := Aside0.mk (blk_below BK5.out hb); clear BK5; have BK5 := n5; clear n5; have nB := Aside0.mk (below_step HB.out hb); have BK6 := Aside0.mk hbk; clear hg hb hbk HB; have HB := nB; clear nB; have k0 : w6.cell? ⟨g3, 0, none⟩ = some (.string s) := (blk_cell BK3.out 0).trans rfl; have k1 : w6.cell? ⟨g3, 1, none⟩ = some (.int .i64 kd) := (blk_cell BK3.out 1).trans rfl; have k2 : w6.cell? ⟨g3, 2, none⟩ = some (.int .i64 wd) := (blk_cell BK3.out 2).trans rfl; have k3 : w6.cell? ⟨g3, 3, none⟩ = some (.bool true) := (blk_cell BK3.out 3).trans rfl; have v0 : w6.cell? ⟨g5, 0, none⟩ = some (.int .i64 0) := (blk_cell BK5.out 0).trans rfl; have v1 : w6.cell? ⟨g5, 1, none⟩ = some (.int .i64 vn) := (blk_cell BK5.out 1).trans rfl; have v2 : w6.cell? ⟨g5, 2, none⟩ = some (.string vs) := (blk_cell BK5.out 2).trans rfl; have r0 : w6.cell? ⟨g6, 0, none⟩ = some (.int .i64 0) := (blk_cell BK6.out 0).trans rfl; have r1 : w6.cell? ⟨g6, 1, none⟩ = some (.int .i64 0) := (blk_cell BK6.out 1).trans rfl; have r2 : w6.cell? ⟨g6, 2, none⟩ = some (.string ⟨#[]⟩) := (blk_cell BK6.out 2).trans rfl; have q0 := blk_frozen BK6.out 0; have q1 := blk_frozen BK6.out 1; have q2 := blk_frozen BK6.out 2; have q9 := blk_frozen BK5.out 2) | (go_at_call 47; refine (CF.out _).mono ?_; rintro e w7 ⟨rfl, hb⟩; clear k0 k1 k2 k3 v0 v1 v2 r0 r1 r2 q0 q1 q2 q9; have n3 := Aside0.mk (blk_below BK3.out hb); have n5 := Aside0.mk (blk_below BK5.out hb); have n6 := Aside0.mk (blk_below BK6.out hb); have nB := Aside0.mk (below_step HB.out hb); clear BK3 BK5 BK6 HB hb; have BK3 := n3; have BK5 := n5; have BK6 := n6; have HB := nB; clear n3 n5 n6 nB; have k0 : w7.cell? ⟨g3, 0, none⟩ = some (.string s) := (blk_cell BK3.out 0).trans rfl; have k1 : w7.cell? ⟨g3, 1, none⟩ = some (.int .i64 kd) := (blk_cell BK3.out 1).trans rfl; have k2 : w7.cell? ⟨g3, 2, none⟩ = some (.int .i64 wd) := (blk_cell BK3.out 2).trans rfl; have k3 : w7.cell? ⟨g3, 3, none⟩ = some (.bool true) := (blk_cell BK3.out 3).trans rfl; have v0 : w7.cell? ⟨g5, 0, none⟩ = some (.int .i64 0) := (blk_cell BK5.out 0).trans rfl; have v1 : w7.cell? ⟨g5, 1, none⟩ = some (.int .i64 vn) := (blk_cell BK5.out 1).trans rfl; have v2 : w7.cell? ⟨g5, 2, none⟩ = some (.string vs) := (blk_cell BK5.out 2).trans rfl; have r0 : w7.cell? ⟨g6, 0, none⟩ = some (.int .i64 0) := (blk_cell BK6.out 0).trans rfl; have r1 : w7.cell? ⟨g6, 1, none⟩ = some (.int .i64 0) := (blk_cell BK6.out 1).trans rfl; have r2 : w7.cell? ⟨g6, 2, none⟩ = some (.string ⟨#[]⟩) := (blk_cell BK6.out 2).trans rfl; have q0 := blk_frozen BK6.out 0; have q1 := blk_frozen BK6.out 1; have q2 := blk_frozen BK6.out 2; have q9 := blk_frozen BK5.out 2; clear CF) | (go_at_call 48; refine (CP.out _).mono ?_; rintro e w8 ⟨rfl, hb⟩; clear k0 k1 k2 k3 v0 v1 v2 r0 r1 r2 q0 q1 q2 q9; have n3 := Aside0.mk (blk_below BK3.out hb); have n5 := Aside0.mk (blk_below BK5.out hb); have n6 := Aside0.mk (blk_below BK6.out hb); have nB := Aside0.mk (below_step HB.out hb); clear BK3 BK5 BK6 HB hb; have BK3 := n3; have BK5 := n5; have BK6 := n6; have HB := nB; clear n3 n5 n6 nB; have k0 : w8.cell? ⟨g3, 0, none⟩ = some (.string s) := (blk_cell BK3.out 0).trans rfl; have k1 : w8.cell? ⟨g3, 1, none⟩ = some (.int .i64 kd) := (blk_cell BK3.out 1).trans rfl; have k2 : w8.cell? ⟨g3, 2, none⟩ = some (.int .i64 wd) := (blk_cell BK3.out 2).trans rfl; have k3 : w8.cell? ⟨g3, 3, none⟩ = some (.bool true) := (blk_cell BK3.out 3).trans rfl; have v0 : w8.cell? ⟨g5, 0, none⟩ = some (.int .i64 0) := (blk_cell BK5.out 0).trans rfl; have v1 : w8.cell? ⟨g5, 1, none⟩ = some (.int .i64 vn) := (blk_cell BK5.out 1).trans rfl; have v2 : w8.cell? ⟨g5, 2, none⟩ = some (.string vs) := (blk_cell BK5.out 2).trans rfl; have r0 : w8.cell? ⟨g6, 0, none⟩ = some (.int .i64 0) := (blk_cell BK6.out 0).trans rfl; have r1 : w8.cell? ⟨g6, 1, none⟩ = some (.int .i64 0) := (blk_cell BK6.out 1).trans rfl; have r2 : w8.cell? ⟨g6, 2, none⟩ = some (.string ⟨#[]⟩) := (blk_cell BK6.out 2).trans rfl; have q0 := blk_frozen BK6.out 0; have q1 := blk_frozen BK6.out 1; have q2 := blk_frozen BK6.out 2; have q9 := blk_frozen BK5.out 2; clear CP) | (go_at_call 49; refine (CV.out _).mono ?_; rintro e w9 ⟨rfl, hb⟩; clear k0 k1 k2 k3 v0 v1 v2 r0 r1 r2 q0 q1 q2 q9; have n3 := Aside0.mk (blk_below BK3.out hb); have n5 := Aside0.mk (blk_below BK5.out hb); have n6 := Aside0.mk (blk_below BK6.out hb); have nB := Aside0.mk (below_step HB.out hb); clear BK3 BK5 BK6 HB hb; have BK3 := n3; have BK5 := n5; have BK6 := n6; have HB := nB; clear n3 n5 n6 nB; have k0 : w9.cell? ⟨g3, 0, none⟩ = some (.string s) := (blk_cell BK3.out 0).trans rfl; have k1 : w9.cell? ⟨g3, 1, none⟩ = some (.int .i64 kd) := (blk_cell BK3.out 1).trans rfl; have k2 : w9.cell? ⟨g3, 2, none⟩ = some (.int .i64 wd) := (blk_cell BK3.out 2).trans rfl; have k3 : w9.cell? ⟨g3, 3, none⟩ = some (.bool true) := (blk_cell BK3.out 3).trans rfl; have v0 : w9.cell? ⟨g5, 0, none⟩ = some (.int .i64 0) := (blk_cell BK5.out 0).trans rfl; have v1 : w9.cell? ⟨g5, 1, none⟩ = some (.int .i64 vn) := (blk_cell BK5.out 1).trans rfl; have v2 : w9.cell? ⟨g5, 2, none⟩ = some (.string vs) := (blk_cell BK5.out 2).trans rfl; have r0 : w9.cell? ⟨g6, 0, none⟩ = some (.int .i64 0) := (blk_cell BK6.out 0).trans rfl; have r1 : w9.cell? ⟨g6, 1, none⟩ = some (.int .i64 0) := (blk_cell BK6.out 1).trans rfl; have r2 : w9.cell? ⟨g6, 2, none⟩ = some (.string ⟨#[]⟩) := (blk_cell BK6.out 2).trans rfl; have q0 := blk_frozen BK6.out 0; have q1 := blk_frozen BK6.out 1; have q2 := blk_frozen BK6.out 2; have q9 := blk_frozen BK5.out 2; clear CV))
  have HF : Aside0 (fitS s kd wd true pg 0 vn vs = (0, vn, vs, 0)) := ⟨by unfold fitS; rw [if_neg (by rw [H1.out, H2.out]; simp)]; rw [H3.out, if_neg (by simp), if_pos rfl]; rfl⟩
  refine bodyPost_ret (results_ct rfl _ _ g6 25 #[.int .i64 0, .int .i64 vn, .string vs] (0, 0) _ rfl (blk_put (blk_put (blk_put BK6.out 0 _ rfl) 1 _ rfl) 2 _ rfl) Tryz.underlying25 rfl (by kernel_rfl)) rfl ⟨by rw [HF.out]; rfl, below_set (below_set (below_set HB.out G6.out) G6.out) G6.out⟩
set_option maxHeartbeats 8000000 in
set_option maxRecDepth 100000 in
theorem fit_walk0_false (s : ByteArray) (kd wd : Int) (pg vn : Int) (vs : ByteArray) (w : World) (hb1 : fieldS s kd wd = true) (hp1 : pageS pg = true) (he1 : valS 0 vn vs = 0) :
    Calls Tryz.prog 13 #[.agg #[.string s, .int .i64 kd, .int .i64 wd, .bool false], .int .i64 pg, .agg #[.int .i64 0, .int .i64 vn, .string vs]] w fun e w' => e = .returned (.tuple #[.agg #[.int .i64 (fitS s kd wd false pg 0 vn vs).1, .int .i64 (fitS s kd wd false pg 0 vn vs).2.1, .string (fitS s kd wd false pg 0 vn vs).2.2.1], .int .i64 (fitS s kd wd false pg 0 vn vs).2.2.2]) ∧ Below w.heap.size w w' := by
  have CF := Aside0.mk (fun W => table_isField.calls s kd wd false true W (by rw [isField_is, hb1]))
  have CP := Aside0.mk (fun W => (table_isPage.calls pg true W (by rw [isPage_is, hp1])).mono fun _ _ ⟨he, hd⟩ => (⟨he, hd.below⟩ : _ ∧ Below W.heap.size W _))
  have CV := Aside0.mk (fun W => val_Validate.calls 1 0 vn vs 0 W (by rw [valS_is 0, he1]))
  have H1 := Aside0.mk hb1
  have H2 := Aside0.mk hp1
  have H3 := Aside0.mk he1
  clear hb1 hp1 he1
  have HB := Aside0.mk (Below.refl w.heap.size w)
  go_enter Tryz.func13, Tryz.ntmps13
  go_wp2_with (first | ((with_reducible refine gate_dst (N := 3) rfl ?_); refine box_event ?hg (N := 3) ?hd (cs := #[.string s, .int .i64 kd, .int .i64 wd, .bool false]) (t := 23) ?hr ?_; (case hd => rfl); (case hg => rfl); (case hr => go_simp; try rfl); intro g3 hg w3 hbk hb; have G3 : Aside0 (w.heap.size ≤ g3) := ⟨by rw [hg]; exact HB.out.size⟩; have nB := Aside0.mk (below_step HB.out hb); have BK3 := Aside0.mk hbk; clear hg hb hbk HB; have HB := nB; clear nB) | ((with_reducible refine gate_dst (N := 5) rfl ?_); refine box_event ?hg (N := 5) ?hd (cs := #[.int .i64 0, .int .i64 vn, .string vs]) (t := 25) ?hr ?_; (case hd => rfl); (case hg => rfl); (case hr => go_simp; try rfl); intro g5 hg w5 hbk hb; have G5 : Aside0 (w.heap.size ≤ g5) := ⟨by rw [hg]; exact HB.out.size⟩; have N35 : Aside0 (g3 ≠ g5) := ⟨by rw [hg]; exact Nat.ne_of_lt (blk_lt BK3.out)⟩; have n3 := Aside0.mk (blk_below BK3.out hb); clear BK3; have BK3 := n3; clear n3; have nB := Aside0.mk (below_step HB.out hb); have BK5 := Aside0.mk hbk; clear hg hb hbk HB; have HB := nB; clear nB) | ((with_reducible refine gate_dst (N := 6) rfl ?_); refine box_event ?hg (N := 6) ?hd (cs := #[.int .i64 0, .int .i64 0, .string ⟨#[]⟩]) (t := 25) ?hr ?_; (case hd => rfl); (case hg => rfl); (case hr => go_simp; try rfl); intro g6 hg w6 hbk hb; have G6 : Aside0 (w.heap.size ≤ g6) := ⟨by rw [hg]; exact HB.out.size⟩; have N36 : Aside0 (g3 ≠ g6) := ⟨by rw [hg]; exact Nat.ne_of_lt (blk_lt BK3.out)⟩; have N56 : Aside0 (g5 ≠ g6) := ⟨by rw [hg]; exact Nat.ne_of_lt (blk_lt BK5.out)⟩; have n3 := Aside0.mk (blk_below BK3.out hb); clear BK3; have BK3 := n3; clear n3; have n5 := Aside0.mk (blk_below BK5.out hb); clear BK5; have BK5 := n5; clear n5; have nB := Aside0.mk (below_step HB.out hb); have BK6 := Aside0.mk hbk; clear hg hb hbk HB; have HB := nB; clear nB; have k0 : w6.cell? ⟨g3, 0, none⟩ = some (.string s) := (blk_cell BK3.out 0).trans rfl; have k1 : w6.cell? ⟨g3, 1, none⟩ = some (.int .i64 kd) := (blk_cell BK3.out 1).trans rfl; have k2 : w6.cell? ⟨g3, 2, none⟩ = some (.int .i64 wd) := (blk_cell BK3.out 2).trans rfl; have k3 : w6.cell? ⟨g3, 3, none⟩ = some (.bool false) := (blk_cell BK3.out 3).trans rfl; have v0 : w6.cell? ⟨g5, 0, none⟩ = some (.int .i64 0) := (blk_cell BK5.out 0).trans rfl; have v1 : w6.cell? ⟨g5, 1, none⟩ = some (.int .i64 vn) := (blk_cell BK5.out 1).trans rfl; have v2 : w6.cell? ⟨g5, 2, none⟩ = some (.string vs) := (blk_cell BK5.out 2).trans rfl; have r0 : w6.cell? ⟨g6, 0, none⟩ = some (.int .i64 0) := (blk_cell BK6.out 0).trans rfl; have r1 : w6.cell? ⟨g6, 1, none⟩ = some (.int .i64 0) := (blk_cell BK6.out 1).trans rfl; have r2 : w6.cell? ⟨g6, 2, none⟩ = some (.string ⟨#[]⟩) := (blk_cell BK6.out 2).trans rfl; have q0 := blk_frozen BK6.out 0; have q1 := blk_frozen BK6.out 1; have q2 := blk_frozen BK6.out 2; have q9 := blk_frozen BK5.out 2) | (go_at_call 47; refine (CF.out _).mono ?_; rintro e w7 ⟨rfl, hb⟩; clear k0 k1 k2 k3 v0 v1 v2 r0 r1 r2 q0 q1 q2 q9; have n3 := Aside0.mk (blk_below BK3.out hb); have n5 := Aside0.mk (blk_below BK5.out hb); have n6 := Aside0.mk (blk_below BK6.out hb); have nB := Aside0.mk (below_step HB.out hb); clear BK3 BK5 BK6 HB hb; have BK3 := n3; have BK5 := n5; have BK6 := n6; have HB := nB; clear n3 n5 n6 nB; have k0 : w7.cell? ⟨g3, 0, none⟩ = some (.string s) := (blk_cell BK3.out 0).trans rfl; have k1 : w7.cell? ⟨g3, 1, none⟩ = some (.int .i64 kd) := (blk_cell BK3.out 1).trans rfl; have k2 : w7.cell? ⟨g3, 2, none⟩ = some (.int .i64 wd) := (blk_cell BK3.out 2).trans rfl; have k3 : w7.cell? ⟨g3, 3, none⟩ = some (.bool false) := (blk_cell BK3.out 3).trans rfl; have v0 : w7.cell? ⟨g5, 0, none⟩ = some (.int .i64 0) := (blk_cell BK5.out 0).trans rfl; have v1 : w7.cell? ⟨g5, 1, none⟩ = some (.int .i64 vn) := (blk_cell BK5.out 1).trans rfl; have v2 : w7.cell? ⟨g5, 2, none⟩ = some (.string vs) := (blk_cell BK5.out 2).trans rfl; have r0 : w7.cell? ⟨g6, 0, none⟩ = some (.int .i64 0) := (blk_cell BK6.out 0).trans rfl; have r1 : w7.cell? ⟨g6, 1, none⟩ = some (.int .i64 0) := (blk_cell BK6.out 1).trans rfl; have r2 : w7.cell? ⟨g6, 2, none⟩ = some (.string ⟨#[]⟩) := (blk_cell BK6.out 2).trans rfl; have q0 := blk_frozen BK6.out 0; have q1 := blk_frozen BK6.out 1; have q2 := blk_frozen BK6.out 2; have q9 := blk_frozen BK5.out 2; clear CF) | (go_at_call 48; refine (CP.out _).mono ?_; rintro e w8 ⟨rfl, hb⟩; clear k0 k1 k2 k3 v0 v1 v2 r0 r1 r2 q0 q1 q2 q9; have n3 := Aside0.mk (blk_below BK3.out hb); have n5 := Aside0.mk (blk_below BK5.out hb); have n6 := Aside0.mk (blk_below BK6.out hb); have nB := Aside0.mk (below_step HB.out hb); clear BK3 BK5 BK6 HB hb; have BK3 := n3; have BK5 := n5; have BK6 := n6; have HB := nB; clear n3 n5 n6 nB; have k0 : w8.cell? ⟨g3, 0, none⟩ = some (.string s) := (blk_cell BK3.out 0).trans rfl; have k1 : w8.cell? ⟨g3, 1, none⟩ = some (.int .i64 kd) := (blk_cell BK3.out 1).trans rfl; have k2 : w8.cell? ⟨g3, 2, none⟩ = some (.int .i64 wd) := (blk_cell BK3.out 2).trans rfl; have k3 : w8.cell? ⟨g3, 3, none⟩ = some (.bool false) := (blk_cell BK3.out 3).trans rfl; have v0 : w8.cell? ⟨g5, 0, none⟩ = some (.int .i64 0) := (blk_cell BK5.out 0).trans rfl; have v1 : w8.cell? ⟨g5, 1, none⟩ = some (.int .i64 vn) := (blk_cell BK5.out 1).trans rfl; have v2 : w8.cell? ⟨g5, 2, none⟩ = some (.string vs) := (blk_cell BK5.out 2).trans rfl; have r0 : w8.cell? ⟨g6, 0, none⟩ = some (.int .i64 0) := (blk_cell BK6.out 0).trans rfl; have r1 : w8.cell? ⟨g6, 1, none⟩ = some (.int .i64 0) := (blk_cell BK6.out 1).trans rfl; have r2 : w8.cell? ⟨g6, 2, none⟩ = some (.string ⟨#[]⟩) := (blk_cell BK6.out 2).trans rfl; have q0 := blk_frozen BK6.out 0; have q1 := blk_frozen BK6.out 1; have q2 := blk_frozen BK6.out 2; have q9 := blk_frozen BK5.out 2; clear CP) | (go_at_call 49; refine (CV.out _).mono ?_; rintro e w9 ⟨rfl, hb⟩; clear k0 k1 k2 k3 v0 v1 v2 r0 r1 r2 q0 q1 q2 q9; have n3 := Aside0.mk (blk_below BK3.out hb); have n5 := Aside0.mk (blk_below BK5.out hb); have n6 := Aside0.mk (blk_below BK6.out hb); have nB := Aside0.mk (below_step HB.out hb); clear BK3 BK5 BK6 HB hb; have BK3 := n3; have BK5 := n5; have BK6 := n6; have HB := nB; clear n3 n5 n6 nB; have k0 : w9.cell? ⟨g3, 0, none⟩ = some (.string s) := (blk_cell BK3.out 0).trans rfl; have k1 : w9.cell? ⟨g3, 1, none⟩ = some (.int .i64 kd) := (blk_cell BK3.out 1).trans rfl; have k2 : w9.cell? ⟨g3, 2, none⟩ = some (.int .i64 wd) := (blk_cell BK3.out 2).trans rfl; have k3 : w9.cell? ⟨g3, 3, none⟩ = some (.bool false) := (blk_cell BK3.out 3).trans rfl; have v0 : w9.cell? ⟨g5, 0, none⟩ = some (.int .i64 0) := (blk_cell BK5.out 0).trans rfl; have v1 : w9.cell? ⟨g5, 1, none⟩ = some (.int .i64 vn) := (blk_cell BK5.out 1).trans rfl; have v2 : w9.cell? ⟨g5, 2, none⟩ = some (.string vs) := (blk_cell BK5.out 2).trans rfl; have r0 : w9.cell? ⟨g6, 0, none⟩ = some (.int .i64 0) := (blk_cell BK6.out 0).trans rfl; have r1 : w9.cell? ⟨g6, 1, none⟩ = some (.int .i64 0) := (blk_cell BK6.out 1).trans rfl; have r2 : w9.cell? ⟨g6, 2, none⟩ = some (.string ⟨#[]⟩) := (blk_cell BK6.out 2).trans rfl; have q0 := blk_frozen BK6.out 0; have q1 := blk_frozen BK6.out 1; have q2 := blk_frozen BK6.out 2; have q9 := blk_frozen BK5.out 2; clear CV))
  have HF : Aside0 (fitS s kd wd false pg 0 vn vs = (0, 0, ⟨#[]⟩, 7)) := ⟨by unfold fitS; rw [if_neg (by rw [H1.out, H2.out]; simp)]; rw [H3.out, if_neg (by simp), if_pos rfl]; rfl⟩
  refine bodyPost_ret (results_ct rfl _ _ g6 25 #[.int .i64 0, .int .i64 0, .string ⟨#[]⟩] (0, 0) _ rfl (blk_put (blk_put (blk_put BK6.out 0 _ rfl) 1 _ rfl) 2 _ rfl) Tryz.underlying25 rfl (by kernel_rfl)) rfl ⟨by rw [HF.out]; rfl, below_set (below_set (below_set HB.out G6.out) G6.out) G6.out⟩
set_option maxHeartbeats 8000000 in
set_option maxRecDepth 100000 in
theorem fit_walk (s : ByteArray) (kd wd : Int) (nl : Bool) (pg vk vn : Int) (vs : ByteArray) (w : World) :
    Calls Tryz.prog 13 #[.agg #[.string s, .int .i64 kd, .int .i64 wd, .bool nl], .int .i64 pg, .agg #[.int .i64 vk, .int .i64 vn, .string vs]] w fun e w' => e = .returned (.tuple #[.agg #[.int .i64 (fitS s kd wd nl pg vk vn vs).1, .int .i64 (fitS s kd wd nl pg vk vn vs).2.1, .string (fitS s kd wd nl pg vk vn vs).2.2.1], .int .i64 (fitS s kd wd nl pg vk vn vs).2.2.2]) ∧ Below w.heap.size w w' := by
  obtain ⟨b, hb1⟩ : ∃ b, fieldS s kd wd = b := ⟨_, rfl⟩
  obtain ⟨p, hp1⟩ : ∃ p, pageS pg = p := ⟨_, rfl⟩
  obtain ⟨e1, he1⟩ : ∃ e1, valS vk vn vs = e1 := ⟨_, rfl⟩
  have CF := Aside0.mk (fun W => table_isField.calls s kd wd nl b W (by rw [isField_is, hb1]))
  have CP := Aside0.mk (fun W => (table_isPage.calls pg p W (by rw [isPage_is, hp1])).mono fun _ _ ⟨he, hd⟩ => (⟨he, hd.below⟩ : _ ∧ Below W.heap.size W _))
  have CV := Aside0.mk (fun W => val_Validate.calls 1 vk vn vs e1 W (by rw [valS_is 0, he1]))
  have CE := Aside0.mk (fun W => table_empty.calls s kd wd nl (emptyK kd) 0 ⟨#[]⟩ W (empty_is s kd wd nl))
  have H1 := Aside0.mk hb1
  have H2 := Aside0.mk hp1
  have H3 := Aside0.mk he1
  clear hb1 hp1 he1
  have HB := Aside0.mk (Below.refl w.heap.size w)
  have hcases : b = false ∨ (b = true ∧ p = false) ∨ (b = true ∧ p = true ∧ (e1 != 0) = true) ∨ (b = true ∧ p = true ∧ e1 = 0 ∧ vk = 0) ∨ (b = true ∧ p = true ∧ e1 = 0 ∧ (vk == 0) = false) := by
    cases b
    · exact .inl rfl
    · cases p
      · exact .inr (.inl ⟨rfl, rfl⟩)
      · by_cases h0 : e1 = 0
        · by_cases h1 : vk = 0
          · exact .inr (.inr (.inr (.inl ⟨rfl, rfl, h0, h1⟩)))
          · exact .inr (.inr (.inr (.inr ⟨rfl, rfl, h0, beq_eq_false_iff_ne.2 h1⟩)))
        · exact .inr (.inr (.inl ⟨rfl, rfl, by rw [bne_iff_ne]; exact h0⟩))
  rcases hcases with rfl | ⟨rfl, rfl⟩ | ⟨rfl, rfl, h0⟩ | ⟨rfl, rfl, rfl, h1⟩ | ⟨rfl, rfl, rfl, h1⟩
  rotate_left 3
  · subst h1
    cases nl
    · exact fit_walk0_false s kd wd pg vn vs w H1.out H2.out H3.out
    · exact fit_walk0_true s kd wd pg vn vs w H1.out H2.out H3.out
  rotate_left 1
  all_goals
    go_enter Tryz.func13, Tryz.ntmps13
    go_wp2_with (first | ((with_reducible refine gate_dst (N := 3) rfl ?_); refine box_event ?hg (N := 3) ?hd (cs := #[.string s, .int .i64 kd, .int .i64 wd, .bool nl]) (t := 23) ?hr ?_; (case hd => rfl); (case hg => rfl); (case hr => go_simp; try rfl); intro g3 hg w3 hbk hb; have G3 : Aside0 (w.heap.size ≤ g3) := ⟨by rw [hg]; exact HB.out.size⟩; have nB := Aside0.mk (below_step HB.out hb); have BK3 := Aside0.mk hbk; clear hg hb hbk HB; have HB := nB; clear nB) | ((with_reducible refine gate_dst (N := 5) rfl ?_); refine box_event ?hg (N := 5) ?hd (cs := #[.int .i64 vk, .int .i64 vn, .string vs]) (t := 25) ?hr ?_; (case hd => rfl); (case hg => rfl); (case hr => go_simp; try rfl); intro g5 hg w5 hbk hb; have G5 : Aside0 (w.heap.size ≤ g5) := ⟨by rw [hg]; exact HB.out.size⟩; have N35 : Aside0 (g3 ≠ g5) := ⟨by rw [hg]; exact Nat.ne_of_lt (blk_lt BK3.out)⟩; have n3 := Aside0.mk (blk_below BK3.out hb); clear BK3; have BK3 := n3; clear n3; have nB := Aside0.mk (below_step HB.out hb); have BK5 := Aside0.mk hbk; clear hg hb hbk HB; have HB := nB; clear nB) | ((with_reducible refine gate_dst (N := 6) rfl ?_); refine box_event ?hg (N := 6) ?hd (cs := #[.int .i64 0, .int .i64 0, .string ⟨#[]⟩]) (t := 25) ?hr ?_; (case hd => rfl); (case hg => rfl); (case hr => go_simp; try rfl); intro g6 hg w6 hbk hb; have G6 : Aside0 (w.heap.size ≤ g6) := ⟨by rw [hg]; exact HB.out.size⟩; have N36 : Aside0 (g3 ≠ g6) := ⟨by rw [hg]; exact Nat.ne_of_lt (blk_lt BK3.out)⟩; have N56 : Aside0 (g5 ≠ g6) := ⟨by rw [hg]; exact Nat.ne_of_lt (blk_lt BK5.out)⟩; have n3 := Aside0.mk (blk_below BK3.out hb); clear BK3; have BK3 := n3; clear n3; have n5 := Aside0.mk (blk_below BK5.out hb); clear BK5; have BK5 := n5; clear n5; have nB := Aside0.mk (below_step HB.out hb); have BK6 := Aside0.mk hbk; clear hg hb hbk HB; have HB := nB; clear nB; have k0 : w6.cell? ⟨g3, 0, none⟩ = some (.string s) := (blk_cell BK3.out 0).trans rfl; have k1 : w6.cell? ⟨g3, 1, none⟩ = some (.int .i64 kd) := (blk_cell BK3.out 1).trans rfl; have k2 : w6.cell? ⟨g3, 2, none⟩ = some (.int .i64 wd) := (blk_cell BK3.out 2).trans rfl; have k3 : w6.cell? ⟨g3, 3, none⟩ = some (.bool nl) := (blk_cell BK3.out 3).trans rfl; have v0 : w6.cell? ⟨g5, 0, none⟩ = some (.int .i64 vk) := (blk_cell BK5.out 0).trans rfl; have v1 : w6.cell? ⟨g5, 1, none⟩ = some (.int .i64 vn) := (blk_cell BK5.out 1).trans rfl; have v2 : w6.cell? ⟨g5, 2, none⟩ = some (.string vs) := (blk_cell BK5.out 2).trans rfl; have r0 : w6.cell? ⟨g6, 0, none⟩ = some (.int .i64 0) := (blk_cell BK6.out 0).trans rfl; have r1 : w6.cell? ⟨g6, 1, none⟩ = some (.int .i64 0) := (blk_cell BK6.out 1).trans rfl; have r2 : w6.cell? ⟨g6, 2, none⟩ = some (.string ⟨#[]⟩) := (blk_cell BK6.out 2).trans rfl; have q0 := blk_frozen BK6.out 0; have q1 := blk_frozen BK6.out 1; have q2 := blk_frozen BK6.out 2; have q9 := blk_frozen BK5.out 2) | (go_at_call 47; refine (CF.out _).mono ?_; rintro e w7 ⟨rfl, hb⟩; clear k0 k1 k2 k3 v0 v1 v2 r0 r1 r2 q0 q1 q2 q9; have n3 := Aside0.mk (blk_below BK3.out hb); have n5 := Aside0.mk (blk_below BK5.out hb); have n6 := Aside0.mk (blk_below BK6.out hb); have nB := Aside0.mk (below_step HB.out hb); clear BK3 BK5 BK6 HB hb; have BK3 := n3; have BK5 := n5; have BK6 := n6; have HB := nB; clear n3 n5 n6 nB; have k0 : w7.cell? ⟨g3, 0, none⟩ = some (.string s) := (blk_cell BK3.out 0).trans rfl; have k1 : w7.cell? ⟨g3, 1, none⟩ = some (.int .i64 kd) := (blk_cell BK3.out 1).trans rfl; have k2 : w7.cell? ⟨g3, 2, none⟩ = some (.int .i64 wd) := (blk_cell BK3.out 2).trans rfl; have k3 : w7.cell? ⟨g3, 3, none⟩ = some (.bool nl) := (blk_cell BK3.out 3).trans rfl; have v0 : w7.cell? ⟨g5, 0, none⟩ = some (.int .i64 vk) := (blk_cell BK5.out 0).trans rfl; have v1 : w7.cell? ⟨g5, 1, none⟩ = some (.int .i64 vn) := (blk_cell BK5.out 1).trans rfl; have v2 : w7.cell? ⟨g5, 2, none⟩ = some (.string vs) := (blk_cell BK5.out 2).trans rfl; have r0 : w7.cell? ⟨g6, 0, none⟩ = some (.int .i64 0) := (blk_cell BK6.out 0).trans rfl; have r1 : w7.cell? ⟨g6, 1, none⟩ = some (.int .i64 0) := (blk_cell BK6.out 1).trans rfl; have r2 : w7.cell? ⟨g6, 2, none⟩ = some (.string ⟨#[]⟩) := (blk_cell BK6.out 2).trans rfl; have q0 := blk_frozen BK6.out 0; have q1 := blk_frozen BK6.out 1; have q2 := blk_frozen BK6.out 2; have q9 := blk_frozen BK5.out 2; clear CF) | (go_at_call 48; refine (CP.out _).mono ?_; rintro e w8 ⟨rfl, hb⟩; clear k0 k1 k2 k3 v0 v1 v2 r0 r1 r2 q0 q1 q2 q9; have n3 := Aside0.mk (blk_below BK3.out hb); have n5 := Aside0.mk (blk_below BK5.out hb); have n6 := Aside0.mk (blk_below BK6.out hb); have nB := Aside0.mk (below_step HB.out hb); clear BK3 BK5 BK6 HB hb; have BK3 := n3; have BK5 := n5; have BK6 := n6; have HB := nB; clear n3 n5 n6 nB; have k0 : w8.cell? ⟨g3, 0, none⟩ = some (.string s) := (blk_cell BK3.out 0).trans rfl; have k1 : w8.cell? ⟨g3, 1, none⟩ = some (.int .i64 kd) := (blk_cell BK3.out 1).trans rfl; have k2 : w8.cell? ⟨g3, 2, none⟩ = some (.int .i64 wd) := (blk_cell BK3.out 2).trans rfl; have k3 : w8.cell? ⟨g3, 3, none⟩ = some (.bool nl) := (blk_cell BK3.out 3).trans rfl; have v0 : w8.cell? ⟨g5, 0, none⟩ = some (.int .i64 vk) := (blk_cell BK5.out 0).trans rfl; have v1 : w8.cell? ⟨g5, 1, none⟩ = some (.int .i64 vn) := (blk_cell BK5.out 1).trans rfl; have v2 : w8.cell? ⟨g5, 2, none⟩ = some (.string vs) := (blk_cell BK5.out 2).trans rfl; have r0 : w8.cell? ⟨g6, 0, none⟩ = some (.int .i64 0) := (blk_cell BK6.out 0).trans rfl; have r1 : w8.cell? ⟨g6, 1, none⟩ = some (.int .i64 0) := (blk_cell BK6.out 1).trans rfl; have r2 : w8.cell? ⟨g6, 2, none⟩ = some (.string ⟨#[]⟩) := (blk_cell BK6.out 2).trans rfl; have q0 := blk_frozen BK6.out 0; have q1 := blk_frozen BK6.out 1; have q2 := blk_frozen BK6.out 2; have q9 := blk_frozen BK5.out 2; clear CP) | (go_at_call 49; refine (CV.out _).mono ?_; rintro e w9 ⟨rfl, hb⟩; clear k0 k1 k2 k3 v0 v1 v2 r0 r1 r2 q0 q1 q2 q9; have n3 := Aside0.mk (blk_below BK3.out hb); have n5 := Aside0.mk (blk_below BK5.out hb); have n6 := Aside0.mk (blk_below BK6.out hb); have nB := Aside0.mk (below_step HB.out hb); clear BK3 BK5 BK6 HB hb; have BK3 := n3; have BK5 := n5; have BK6 := n6; have HB := nB; clear n3 n5 n6 nB; have k0 : w9.cell? ⟨g3, 0, none⟩ = some (.string s) := (blk_cell BK3.out 0).trans rfl; have k1 : w9.cell? ⟨g3, 1, none⟩ = some (.int .i64 kd) := (blk_cell BK3.out 1).trans rfl; have k2 : w9.cell? ⟨g3, 2, none⟩ = some (.int .i64 wd) := (blk_cell BK3.out 2).trans rfl; have k3 : w9.cell? ⟨g3, 3, none⟩ = some (.bool nl) := (blk_cell BK3.out 3).trans rfl; have v0 : w9.cell? ⟨g5, 0, none⟩ = some (.int .i64 vk) := (blk_cell BK5.out 0).trans rfl; have v1 : w9.cell? ⟨g5, 1, none⟩ = some (.int .i64 vn) := (blk_cell BK5.out 1).trans rfl; have v2 : w9.cell? ⟨g5, 2, none⟩ = some (.string vs) := (blk_cell BK5.out 2).trans rfl; have r0 : w9.cell? ⟨g6, 0, none⟩ = some (.int .i64 0) := (blk_cell BK6.out 0).trans rfl; have r1 : w9.cell? ⟨g6, 1, none⟩ = some (.int .i64 0) := (blk_cell BK6.out 1).trans rfl; have r2 : w9.cell? ⟨g6, 2, none⟩ = some (.string ⟨#[]⟩) := (blk_cell BK6.out 2).trans rfl; have q0 := blk_frozen BK6.out 0; have q1 := blk_frozen BK6.out 1; have q2 := blk_frozen BK6.out 2; have q9 := blk_frozen BK5.out 2; clear CV))
  · have HF : Aside0 (fitS s kd wd nl pg vk vn vs = (0, 0, ⟨#[]⟩, 1)) := ⟨by unfold fitS; rw [if_pos (.inl H1.out)]⟩
    refine bodyPost_ret (results_ct rfl _ _ g6 25 #[.int .i64 0, .int .i64 0, .string ⟨#[]⟩] (0, 0) _ rfl (blk_put (blk_put (blk_put BK6.out 0 _ rfl) 1 _ rfl) 2 _ rfl) Tryz.underlying25 rfl (by kernel_rfl)) rfl ⟨by rw [HF.out]; rfl, below_set (below_set (below_set HB.out G6.out) G6.out) G6.out⟩
  · have HF : Aside0 (fitS s kd wd nl pg vk vn vs = (0, 0, ⟨#[]⟩, 1)) := ⟨by unfold fitS; rw [if_pos (.inr H2.out)]⟩
    refine bodyPost_ret (results_ct rfl _ _ g6 25 #[.int .i64 0, .int .i64 0, .string ⟨#[]⟩] (0, 0) _ rfl (blk_put (blk_put (blk_put BK6.out 0 _ rfl) 1 _ rfl) 2 _ rfl) Tryz.underlying25 rfl (by kernel_rfl)) rfl ⟨by rw [HF.out]; rfl, below_set (below_set (below_set HB.out G6.out) G6.out) G6.out⟩
  · have HF : Aside0 (fitS s kd wd nl pg vk vn vs = (0, 0, ⟨#[]⟩, e1)) := ⟨by unfold fitS; rw [if_neg (by rw [H1.out, H2.out]; simp)]; rw [H3.out, if_pos (by simpa using h0)]⟩
    refine bodyPost_ret (results_ct rfl _ _ g6 25 #[.int .i64 0, .int .i64 0, .string ⟨#[]⟩] (0, 0) _ rfl (blk_put (blk_put (blk_put BK6.out 0 _ rfl) 1 _ rfl) 2 _ rfl) Tryz.underlying25 rfl (by kernel_rfl)) rfl ⟨by rw [HF.out]; rfl, below_set (below_set (below_set HB.out G6.out) G6.out) G6.out⟩
  · have H1Z := Aside0.mk h1
    clear h1
    have hfl : ∀ (x : Int) (W : World), (Instr.field 25 (.agg #[.int .i64 x, .int .i64 0, .string ⟨#[]⟩]) 0).run Tryz.prog W = .ok (.int .i64 x) W := fun _ _ => by kernel_rfl
    have nB := Aside0.mk (below_drew1 HB.out)
    have n3 := Aside0.mk (blk_drew BK3.out)
    have n5 := Aside0.mk (blk_drew BK5.out)
    have n6 := Aside0.mk (blk_drew BK6.out)
    clear k0 k1 k2 k3 v0 v1 v2 r0 r1 r2 q0 q1 q2 q9
    clear HB BK3 BK5 BK6
    have HB := nB
    have BK3 := n3
    have BK5 := n5
    have BK6 := n6
    clear nB n3 n5 n6
    refine start_ (n := 6) (S := fun w' => w'.heap[g3]? = some (.cells #[.string s, .int .i64 kd, .int .i64 wd, .bool nl] 23 (0, 0)) ∧ w'.heap[g5]? = some (.cells #[.int .i64 vk, .int .i64 vn, .string vs] 25 (0, 0))) (ds := []) #[false, false, false, false, false, false] (by kernel_rfl) rfl rfl ⟨BK3.out, BK5.out⟩ (fun hHeld => ?_)
    refine with_tab fit_tab (fun HT_ => ?_)
    generalize w9.drew = w10 at BK3 BK5 BK6 HB hHeld ⊢
    refine pure_ (i := 0) (N := some 34) (v := ?_) (a' := ?_) #[true, false, false, false, false, false] rfl rfl (any_of HT_.out (by kernel_rfl)) (fun _ _ _ h => h) (Or.inl ⟨by rfl, ?_⟩) ?_ ?_
    rotate_left
    · intro w'
      go_simp
      with_reducible rfl
    rotate_left
    · simp only [Act.put, List.setIfInBounds_toArray, List.set_cons_zero, List.set_cons_succ, i64_w, i32_w]
      rfl
    refine take_ (i := 1) (N := some 35) (v := ?_) (a' := ?_) #[true, true, false, false, false, false] rfl rfl (take_of HT_.out (by kernel_rfl)) (fun _ _ _ h => h) (Or.inl ⟨by rfl, ?_⟩) hHeld ?_ ?_
    rotate_left
    · rintro w' ⟨s0, s1⟩
      have sc := (blk_cell s1 0).trans rfl
      go_simp
      with_reducible rfl
    rotate_left
    · simp only [Act.put, List.setIfInBounds_toArray, List.set_cons_zero, List.set_cons_succ, i64_w, i32_w]
      rfl
    refine take_ (i := 2) (N := some 36) (v := ?_) (a' := ?_) #[true, true, true, false, false, false] rfl rfl (take_of HT_.out (by kernel_rfl)) (fun _ _ _ h => h) (Or.inl ⟨by rfl, ?_⟩) hHeld ?_ ?_
    rotate_left
    · rintro w' ⟨s0, s1⟩
      have sc0 := (blk_cell s0 0).trans rfl
      have sc1 := (blk_cell s0 1).trans rfl
      have sc2 := (blk_cell s0 2).trans rfl
      have sc3 := (blk_cell s0 3).trans rfl
      go_simp
      with_reducible rfl
    rotate_left
    · simp only [Act.put, List.setIfInBounds_toArray, List.set_cons_zero, List.set_cons_succ, i64_w, i32_w]
      rfl
    refine one_ (i := 3) (N := some 37) #[true, true, true, true, false, false] rfl rfl (one_of HT_.out (by kernel_rfl)) (by decide) (fun K hK => ?_)
    refine goes_ Tryz.func50 (by kernel_rfl) rfl #[.agg #[.string s, .int .i64 kd, .int .i64 wd, .bool nl]] (by rfl) rfl rfl (by (try simp only [List.map_toArray, List.map_cons, List.map_nil]); first | done | rfl) ?_
    refine (CE.out _).mono ?_
    rintro e w11 ⟨rfl, hb⟩
    refine ⟨_, rfl, ?_⟩
    have n3 := Aside0.mk (blk_below BK3.out hb)
    have n5 := Aside0.mk (blk_below BK5.out hb)
    have n6 := Aside0.mk (blk_below BK6.out hb)
    have nB := Aside0.mk (below_step HB.out hb)
    clear BK3 BK5 BK6 HB hb CE
    have BK3 := n3
    have BK5 := n5
    have BK6 := n6
    have HB := nB
    clear n3 n5 n6 nB
    refine hK.out _ _ ⟨BK3.out, BK5.out⟩ (fun hHeld => ?_)
    clear hK K
    refine norm_ (a' := ?_) ?_ ?_
    rotate_left
    · show Act.put _ (some 37) _ = _
      simp only [Act.put, List.setIfInBounds_toArray, List.set_cons_zero, List.set_cons_succ, i64_w, i32_w]
      rfl
    refine pure_ (i := 4) (N := some 38) (v := ?_) (a' := ?_) #[true, true, true, true, true, false] rfl rfl (any_of HT_.out (by kernel_rfl)) (fun _ _ _ h => h) (Or.inl ⟨by rfl, ?_⟩) ?_ ?_
    rotate_left
    · intro w'
      go_simp
      with_reducible rfl
    rotate_left
    · simp only [Act.put, List.setIfInBounds_toArray, List.set_cons_zero, List.set_cons_succ, i64_w, i32_w]
      rfl
    refine pure_ (i := 5) (N := some 39) (v := ?_) (a' := ?_) #[true, true, true, true, true, true] rfl rfl (any_of HT_.out (by kernel_rfl)) (fun _ _ _ h => h) (Or.inl ⟨by rfl, ?_⟩) ?_ ?_
    rotate_left
    · intro w'
      go_simp
      with_reducible rfl
    rotate_left
    · simp only [Act.put, List.setIfInBounds_toArray, List.set_cons_zero, List.set_cons_succ, i64_w, i32_w]
      rfl
    refine done_ (done_of HT_.out (by kernel_rfl)) ?_
    clear hHeld HT_
    have k0 : w11.cell? ⟨g3, 0, none⟩ = some (.string s) := (blk_cell BK3.out 0).trans rfl
    have k1 : w11.cell? ⟨g3, 1, none⟩ = some (.int .i64 kd) := (blk_cell BK3.out 1).trans rfl
    have k2 : w11.cell? ⟨g3, 2, none⟩ = some (.int .i64 wd) := (blk_cell BK3.out 2).trans rfl
    have k3 : w11.cell? ⟨g3, 3, none⟩ = some (.bool nl) := (blk_cell BK3.out 3).trans rfl
    have v0 : w11.cell? ⟨g5, 0, none⟩ = some (.int .i64 vk) := (blk_cell BK5.out 0).trans rfl
    have v1 : w11.cell? ⟨g5, 1, none⟩ = some (.int .i64 vn) := (blk_cell BK5.out 1).trans rfl
    have v2 : w11.cell? ⟨g5, 2, none⟩ = some (.string vs) := (blk_cell BK5.out 2).trans rfl
    have r0 : w11.cell? ⟨g6, 0, none⟩ = some (.int .i64 0) := (blk_cell BK6.out 0).trans rfl
    have r1 : w11.cell? ⟨g6, 1, none⟩ = some (.int .i64 0) := (blk_cell BK6.out 1).trans rfl
    have r2 : w11.cell? ⟨g6, 2, none⟩ = some (.string ⟨#[]⟩) := (blk_cell BK6.out 2).trans rfl
    have q0 := blk_frozen BK6.out 0
    have q1 := blk_frozen BK6.out 1
    have q2 := blk_frozen BK6.out 2
    have q9 := blk_frozen BK5.out 2
    have hm0 : (kd = 4 ∨ kd = 2) → 1 ≤ wd ∧ wd ≤ 254 := by
      intro hk
      have := H1.out
      unfold fieldS at this
      simp only [Bool.and_eq_true, decide_eq_true_eq] at this
      obtain ⟨_, _, h3, h4⟩ := this
      rcases hk with rfl | rfl
      · exact ⟨h3, h4⟩
      · exact ⟨h3, Int.le_trans h4 (by decide)⟩
    have HM := Aside0.mk hm0
    clear hm0 hfl
    by_cases hE : vk = emptyK kd
    rotate_left
    · have hEb : (vk != emptyK kd) = true := by rw [bne_iff_ne]; exact hE
      have HF : Aside0 (fitS s kd wd nl pg vk vn vs = (0, 0, ⟨#[]⟩, 6)) := ⟨by unfold fitS; rw [if_neg (by rw [H1.out, H2.out]; simp)]; rw [H3.out, if_neg (by simp)]; rw [if_neg (by have := H1Z.out; simpa using this)]; rw [if_pos hE]⟩
      clear hE
      go_wp2
      refine bodyPost_ret (results_ct rfl _ _ g6 25 #[.int .i64 0, .int .i64 0, .string ⟨#[]⟩] (0, 0) _ rfl (blk_put (blk_put (blk_put BK6.out 0 _ rfl) 1 _ rfl) 2 _ rfl) Tryz.underlying25 rfl (by kernel_rfl)) rfl ⟨by rw [HF.out]; rfl, below_set (below_set (below_set HB.out G6.out) G6.out) G6.out⟩
    have hEb : (vk != emptyK kd) = false := by rw [bne_eq_false_iff_eq]; exact hE
    have HE := Aside0.mk hE
    have HS : Aside0 (vs.size ≤ 2048) := ⟨by
      have := H3.out
      unfold valS at this
      split at this
      · exact absurd this (by decide)
      · omega⟩
    clear hE
    by_cases k4 : kd = 4
    · subst k4
      obtain ⟨hw1, hw2⟩ := HM.out (.inl rfl)
      obtain ⟨m, hm⟩ : ∃ m, min vs.size wd.toNat = m := ⟨_, rfl⟩
      have HMM := Aside0.mk hm
      have hsz : (vs.extract 0 m).size ≤ 2048 := by rw [ByteArray.size_extract]; have := HS.out; omega
      obtain ⟨t, ht⟩ : ∃ t, blanksOff (vs.extract 0 m) = t := ⟨_, rfl⟩
      have htz : t.size ≤ 2048 := by rw [← ht]; exact Nat.le_trans (blanksOff_size _) hsz
      obtain ⟨q, hq⟩ : ∃ q, onS pg t = q := ⟨_, rfl⟩
      have CA := Aside0.mk (fun W (h : (vs.size : Int) ≤ wd) => strings_TrimRight.calls vs ⟨#[32]⟩ t W (by
        have e : vs.extract 0 m = vs := by
          have : m = vs.size := by omega
          rw [this]; exact ByteArray.extract_zero_size
        rw [e] at ht hsz
        unfold strings_TrimRight.f; rw [if_pos ⟨by omega, by decide, by decide⟩]; exact congrArg some ht))
      have CT := Aside0.mk (fun W (h : wd < (vs.size : Int)) => strings_TrimRight.calls (vs.extract 0 wd.toNat) ⟨#[32]⟩ t W (by
        have e : m = wd.toNat := by omega
        rw [e] at ht hsz
        unfold strings_TrimRight.f; rw [if_pos ⟨by omega, by decide, by decide⟩]; exact congrArg some ht))
      have CX := Aside0.mk (fun W => table_isText.calls t pg q W (by rw [isText_is t pg htz H2.out, hq]))
      have HT := Aside0.mk ht
      have HQ := Aside0.mk hq
      clear hm ht hsz htz hq hw2
      cases q
      · have HF : Aside0 (fitS s 4 wd nl pg vk vn vs = (0, 0, ⟨#[]⟩, 10)) := ⟨by unfold fitS; rw [if_neg (by rw [H1.out, H2.out]; simp)]; rw [H3.out, if_neg (by simp)]; rw [if_neg (by have := H1Z.out; simpa using this)]; rw [if_neg (by simpa using HE.out), if_pos rfl, HMM.out, HT.out, HQ.out]; rfl⟩
        go_wp2_with (first | (go_at_call 51; with_reducible refine Calls.mono (CA.out _ (by first | assumption | omega)) ?_; rintro e w12 ⟨rfl, hb⟩; clear k0 k1 k2 k3 v0 v1 v2 r0 r1 r2 q0 q1 q2 q9; have n3 := Aside0.mk (blk_below BK3.out hb); have n5 := Aside0.mk (blk_below BK5.out hb); have n6 := Aside0.mk (blk_below BK6.out hb); have nB := Aside0.mk (below_step HB.out hb); clear BK3 BK5 BK6 HB hb; have BK3 := n3; have BK5 := n5; have BK6 := n6; have HB := nB; clear n3 n5 n6 nB; have k0 : w12.cell? ⟨g3, 0, none⟩ = some (.string s) := (blk_cell BK3.out 0).trans rfl; have k1 : w12.cell? ⟨g3, 1, none⟩ = some (.int .i64 4) := (blk_cell BK3.out 1).trans rfl; have k2 : w12.cell? ⟨g3, 2, none⟩ = some (.int .i64 wd) := (blk_cell BK3.out 2).trans rfl; have k3 : w12.cell? ⟨g3, 3, none⟩ = some (.bool nl) := (blk_cell BK3.out 3).trans rfl; have v0 : w12.cell? ⟨g5, 0, none⟩ = some (.int .i64 vk) := (blk_cell BK5.out 0).trans rfl; have v1 : w12.cell? ⟨g5, 1, none⟩ = some (.int .i64 vn) := (blk_cell BK5.out 1).trans rfl; have v2 : w12.cell? ⟨g5, 2, none⟩ = some (.string vs) := (blk_cell BK5.out 2).trans rfl; have r0 : w12.cell? ⟨g6, 0, none⟩ = some (.int .i64 0) := (blk_cell BK6.out 0).trans rfl; have r1 : w12.cell? ⟨g6, 1, none⟩ = some (.int .i64 0) := (blk_cell BK6.out 1).trans rfl; have r2 : w12.cell? ⟨g6, 2, none⟩ = some (.string ⟨#[]⟩) := (blk_cell BK6.out 2).trans rfl; have q0 := blk_frozen BK6.out 0; have q1 := blk_frozen BK6.out 1; have q2 := blk_frozen BK6.out 2; have q9 := blk_frozen BK5.out 2; clear CT CA) | (go_at_call 51; with_reducible refine Calls.mono (CT.out _ (by first | assumption | omega)) ?_; rintro e w12 ⟨rfl, hb⟩; clear k0 k1 k2 k3 v0 v1 v2 r0 r1 r2 q0 q1 q2 q9; have n3 := Aside0.mk (blk_below BK3.out hb); have n5 := Aside0.mk (blk_below BK5.out hb); have n6 := Aside0.mk (blk_below BK6.out hb); have nB := Aside0.mk (below_step HB.out hb); clear BK3 BK5 BK6 HB hb; have BK3 := n3; have BK5 := n5; have BK6 := n6; have HB := nB; clear n3 n5 n6 nB; have k0 : w12.cell? ⟨g3, 0, none⟩ = some (.string s) := (blk_cell BK3.out 0).trans rfl; have k1 : w12.cell? ⟨g3, 1, none⟩ = some (.int .i64 4) := (blk_cell BK3.out 1).trans rfl; have k2 : w12.cell? ⟨g3, 2, none⟩ = some (.int .i64 wd) := (blk_cell BK3.out 2).trans rfl; have k3 : w12.cell? ⟨g3, 3, none⟩ = some (.bool nl) := (blk_cell BK3.out 3).trans rfl; have v0 : w12.cell? ⟨g5, 0, none⟩ = some (.int .i64 vk) := (blk_cell BK5.out 0).trans rfl; have v1 : w12.cell? ⟨g5, 1, none⟩ = some (.int .i64 vn) := (blk_cell BK5.out 1).trans rfl; have v2 : w12.cell? ⟨g5, 2, none⟩ = some (.string vs) := (blk_cell BK5.out 2).trans rfl; have r0 : w12.cell? ⟨g6, 0, none⟩ = some (.int .i64 0) := (blk_cell BK6.out 0).trans rfl; have r1 : w12.cell? ⟨g6, 1, none⟩ = some (.int .i64 0) := (blk_cell BK6.out 1).trans rfl; have r2 : w12.cell? ⟨g6, 2, none⟩ = some (.string ⟨#[]⟩) := (blk_cell BK6.out 2).trans rfl; have q0 := blk_frozen BK6.out 0; have q1 := blk_frozen BK6.out 1; have q2 := blk_frozen BK6.out 2; have q9 := blk_frozen BK5.out 2; clear CT CA) | (go_at_call 52; with_reducible refine Calls.mono (CX.out _) ?_; rintro e w13 ⟨rfl, hb⟩; clear k0 k1 k2 k3 v0 v1 v2 r0 r1 r2 q0 q1 q2 q9; have n3 := Aside0.mk (blk_below (blk_far BK3.out N35.out _) hb); have n5 := Aside0.mk (blk_below (blk_put BK5.out 2 (.string t) rfl) hb); have n6 := Aside0.mk (blk_below (blk_far BK6.out (Ne.symm N56.out) _) hb); have nB := Aside0.mk (below_step (below_set HB.out G5.out) hb); clear BK3 BK5 BK6 HB hb; have BK3 := n3; have BK5 := n5; have BK6 := n6; have HB := nB; clear n3 n5 n6 nB; have k0 : w13.cell? ⟨g3, 0, none⟩ = some (.string s) := (blk_cell BK3.out 0).trans rfl; have k1 : w13.cell? ⟨g3, 1, none⟩ = some (.int .i64 4) := (blk_cell BK3.out 1).trans rfl; have k2 : w13.cell? ⟨g3, 2, none⟩ = some (.int .i64 wd) := (blk_cell BK3.out 2).trans rfl; have k3 : w13.cell? ⟨g3, 3, none⟩ = some (.bool nl) := (blk_cell BK3.out 3).trans rfl; have v0 : w13.cell? ⟨g5, 0, none⟩ = some (.int .i64 vk) := (blk_cell BK5.out 0).trans rfl; have v1 : w13.cell? ⟨g5, 1, none⟩ = some (.int .i64 vn) := (blk_cell BK5.out 1).trans rfl; have v2 : w13.cell? ⟨g5, 2, none⟩ = some (.string t) := (blk_cell BK5.out 2).trans rfl; have r0 : w13.cell? ⟨g6, 0, none⟩ = some (.int .i64 0) := (blk_cell BK6.out 0).trans rfl; have r1 : w13.cell? ⟨g6, 1, none⟩ = some (.int .i64 0) := (blk_cell BK6.out 1).trans rfl; have r2 : w13.cell? ⟨g6, 2, none⟩ = some (.string ⟨#[]⟩) := (blk_cell BK6.out 2).trans rfl; have q0 := blk_frozen BK6.out 0; have q1 := blk_frozen BK6.out 1; have q2 := blk_frozen BK6.out 2; have q9 := blk_frozen BK5.out 2; clear CX))
        all_goals refine bodyPost_ret (results_ct rfl _ _ g6 25 #[.int .i64 0, .int .i64 0, .string ⟨#[]⟩] (0, 0) _ rfl (blk_put (blk_put (blk_put BK6.out 0 _ rfl) 1 _ rfl) 2 _ rfl) Tryz.underlying25 rfl (by kernel_rfl)) rfl ⟨by rw [HF.out]; rfl, below_set (below_set (below_set HB.out G6.out) G6.out) G6.out⟩
      · have HF : Aside0 (fitS s 4 wd nl pg vk vn vs = (vk, vn, t, 0)) := ⟨by unfold fitS; rw [if_neg (by rw [H1.out, H2.out]; simp)]; rw [H3.out, if_neg (by simp)]; rw [if_neg (by have := H1Z.out; simpa using this)]; rw [if_neg (by simpa using HE.out), if_pos rfl, HMM.out, HT.out, HQ.out]; rfl⟩
        go_wp2_with (first | (go_at_call 51; with_reducible refine Calls.mono (CA.out _ (by first | assumption | omega)) ?_; rintro e w12 ⟨rfl, hb⟩; clear k0 k1 k2 k3 v0 v1 v2 r0 r1 r2 q0 q1 q2 q9; have n3 := Aside0.mk (blk_below BK3.out hb); have n5 := Aside0.mk (blk_below BK5.out hb); have n6 := Aside0.mk (blk_below BK6.out hb); have nB := Aside0.mk (below_step HB.out hb); clear BK3 BK5 BK6 HB hb; have BK3 := n3; have BK5 := n5; have BK6 := n6; have HB := nB; clear n3 n5 n6 nB; have k0 : w12.cell? ⟨g3, 0, none⟩ = some (.string s) := (blk_cell BK3.out 0).trans rfl; have k1 : w12.cell? ⟨g3, 1, none⟩ = some (.int .i64 4) := (blk_cell BK3.out 1).trans rfl; have k2 : w12.cell? ⟨g3, 2, none⟩ = some (.int .i64 wd) := (blk_cell BK3.out 2).trans rfl; have k3 : w12.cell? ⟨g3, 3, none⟩ = some (.bool nl) := (blk_cell BK3.out 3).trans rfl; have v0 : w12.cell? ⟨g5, 0, none⟩ = some (.int .i64 vk) := (blk_cell BK5.out 0).trans rfl; have v1 : w12.cell? ⟨g5, 1, none⟩ = some (.int .i64 vn) := (blk_cell BK5.out 1).trans rfl; have v2 : w12.cell? ⟨g5, 2, none⟩ = some (.string vs) := (blk_cell BK5.out 2).trans rfl; have r0 : w12.cell? ⟨g6, 0, none⟩ = some (.int .i64 0) := (blk_cell BK6.out 0).trans rfl; have r1 : w12.cell? ⟨g6, 1, none⟩ = some (.int .i64 0) := (blk_cell BK6.out 1).trans rfl; have r2 : w12.cell? ⟨g6, 2, none⟩ = some (.string ⟨#[]⟩) := (blk_cell BK6.out 2).trans rfl; have q0 := blk_frozen BK6.out 0; have q1 := blk_frozen BK6.out 1; have q2 := blk_frozen BK6.out 2; have q9 := blk_frozen BK5.out 2; clear CT CA) | (go_at_call 51; with_reducible refine Calls.mono (CT.out _ (by first | assumption | omega)) ?_; rintro e w12 ⟨rfl, hb⟩; clear k0 k1 k2 k3 v0 v1 v2 r0 r1 r2 q0 q1 q2 q9; have n3 := Aside0.mk (blk_below BK3.out hb); have n5 := Aside0.mk (blk_below BK5.out hb); have n6 := Aside0.mk (blk_below BK6.out hb); have nB := Aside0.mk (below_step HB.out hb); clear BK3 BK5 BK6 HB hb; have BK3 := n3; have BK5 := n5; have BK6 := n6; have HB := nB; clear n3 n5 n6 nB; have k0 : w12.cell? ⟨g3, 0, none⟩ = some (.string s) := (blk_cell BK3.out 0).trans rfl; have k1 : w12.cell? ⟨g3, 1, none⟩ = some (.int .i64 4) := (blk_cell BK3.out 1).trans rfl; have k2 : w12.cell? ⟨g3, 2, none⟩ = some (.int .i64 wd) := (blk_cell BK3.out 2).trans rfl; have k3 : w12.cell? ⟨g3, 3, none⟩ = some (.bool nl) := (blk_cell BK3.out 3).trans rfl; have v0 : w12.cell? ⟨g5, 0, none⟩ = some (.int .i64 vk) := (blk_cell BK5.out 0).trans rfl; have v1 : w12.cell? ⟨g5, 1, none⟩ = some (.int .i64 vn) := (blk_cell BK5.out 1).trans rfl; have v2 : w12.cell? ⟨g5, 2, none⟩ = some (.string vs) := (blk_cell BK5.out 2).trans rfl; have r0 : w12.cell? ⟨g6, 0, none⟩ = some (.int .i64 0) := (blk_cell BK6.out 0).trans rfl; have r1 : w12.cell? ⟨g6, 1, none⟩ = some (.int .i64 0) := (blk_cell BK6.out 1).trans rfl; have r2 : w12.cell? ⟨g6, 2, none⟩ = some (.string ⟨#[]⟩) := (blk_cell BK6.out 2).trans rfl; have q0 := blk_frozen BK6.out 0; have q1 := blk_frozen BK6.out 1; have q2 := blk_frozen BK6.out 2; have q9 := blk_frozen BK5.out 2; clear CT CA) | (go_at_call 52; with_reducible refine Calls.mono (CX.out _) ?_; rintro e w13 ⟨rfl, hb⟩; clear k0 k1 k2 k3 v0 v1 v2 r0 r1 r2 q0 q1 q2 q9; have n3 := Aside0.mk (blk_below (blk_far BK3.out N35.out _) hb); have n5 := Aside0.mk (blk_below (blk_put BK5.out 2 (.string t) rfl) hb); have n6 := Aside0.mk (blk_below (blk_far BK6.out (Ne.symm N56.out) _) hb); have nB := Aside0.mk (below_step (below_set HB.out G5.out) hb); clear BK3 BK5 BK6 HB hb; have BK3 := n3; have BK5 := n5; have BK6 := n6; have HB := nB; clear n3 n5 n6 nB; have k0 : w13.cell? ⟨g3, 0, none⟩ = some (.string s) := (blk_cell BK3.out 0).trans rfl; have k1 : w13.cell? ⟨g3, 1, none⟩ = some (.int .i64 4) := (blk_cell BK3.out 1).trans rfl; have k2 : w13.cell? ⟨g3, 2, none⟩ = some (.int .i64 wd) := (blk_cell BK3.out 2).trans rfl; have k3 : w13.cell? ⟨g3, 3, none⟩ = some (.bool nl) := (blk_cell BK3.out 3).trans rfl; have v0 : w13.cell? ⟨g5, 0, none⟩ = some (.int .i64 vk) := (blk_cell BK5.out 0).trans rfl; have v1 : w13.cell? ⟨g5, 1, none⟩ = some (.int .i64 vn) := (blk_cell BK5.out 1).trans rfl; have v2 : w13.cell? ⟨g5, 2, none⟩ = some (.string t) := (blk_cell BK5.out 2).trans rfl; have r0 : w13.cell? ⟨g6, 0, none⟩ = some (.int .i64 0) := (blk_cell BK6.out 0).trans rfl; have r1 : w13.cell? ⟨g6, 1, none⟩ = some (.int .i64 0) := (blk_cell BK6.out 1).trans rfl; have r2 : w13.cell? ⟨g6, 2, none⟩ = some (.string ⟨#[]⟩) := (blk_cell BK6.out 2).trans rfl; have q0 := blk_frozen BK6.out 0; have q1 := blk_frozen BK6.out 1; have q2 := blk_frozen BK6.out 2; have q9 := blk_frozen BK5.out 2; clear CX))
        all_goals refine bodyPost_ret (results_ct rfl _ _ g6 25 #[.int .i64 vk, .int .i64 vn, .string t] (0, 0) _ rfl (blk_put (blk_put (blk_put BK6.out 0 _ rfl) 1 _ rfl) 2 _ rfl) Tryz.underlying25 rfl (by kernel_rfl)) rfl ⟨by rw [HF.out]; rfl, below_set (below_set (below_set HB.out G6.out) G6.out) G6.out⟩
    have k4b : (kd == 4) = false := beq_eq_false_iff_ne.2 k4
    by_cases k2 : kd = 2
    · subst k2
      obtain ⟨hw1, hw2⟩ := HM.out (.inr rfl)
      have hv2 : vk = 2 := HE.out
      have hvn : -1000000000000000 ≤ vn ∧ vn ≤ 1000000000000000 := by
        have := H3.out
        unfold valS at this
        rw [hv2, if_neg (by have := HS.out; omega)] at this
        split at this
        · rename_i ho
          unfold valOK at ho
          simpa using (by simpa using ho : _ ∧ _).2
        · exact absurd this (by decide)
      obtain ⟨q, hq⟩ : ∃ q, decide (((decL vn).length : Int) > wd) = q := ⟨_, rfl⟩
      obtain ⟨t, ht⟩ : ∃ t, strS vn wd = t := ⟨_, rfl⟩
      have CT := Aside0.mk (fun W => val_Str.calls 1 vn wd t 0 W (by rw [str_is vn wd hvn ⟨hw1, hw2⟩ 0, ht]))
      have CX := Aside0.mk (fun W => (strings_HasPrefix.calls t ⟨#[42]⟩ q W (by rw [← ht, hasPrefix_star vn wd hw1, hq])).mono fun _ _ ⟨he, hd⟩ => (⟨he, hd.below⟩ : _ ∧ Below W.heap.size W _))
      have HQ := Aside0.mk hq
      clear hv2 hvn hq ht
      cases q
      · have HF : Aside0 (fitS s 2 wd nl pg vk vn vs = (vk, vn, vs, 0)) := ⟨by unfold fitS; rw [if_neg (by rw [H1.out, H2.out]; simp)]; rw [H3.out, if_neg (by simp)]; rw [if_neg (by have := H1Z.out; simpa using this)]; rw [if_neg (by simpa using HE.out), if_neg (by decide), if_pos rfl, if_pos (by have := of_decide_eq_false HQ.out; omega)]⟩
        go_wp2_with (first | (go_at_call 53; with_reducible refine Calls.mono (CT.out _) ?_; rintro e w12 ⟨rfl, hb⟩; clear k0 k1 k2 k3 v0 v1 v2 r0 r1 r2 q0 q1 q2 q9; have n3 := Aside0.mk (blk_below BK3.out hb); have n5 := Aside0.mk (blk_below BK5.out hb); have n6 := Aside0.mk (blk_below BK6.out hb); have nB := Aside0.mk (below_step HB.out hb); clear BK3 BK5 BK6 HB hb; have BK3 := n3; have BK5 := n5; have BK6 := n6; have HB := nB; clear n3 n5 n6 nB; have k0 : w12.cell? ⟨g3, 0, none⟩ = some (.string s) := (blk_cell BK3.out 0).trans rfl; have k1 : w12.cell? ⟨g3, 1, none⟩ = some (.int .i64 2) := (blk_cell BK3.out 1).trans rfl; have k2 : w12.cell? ⟨g3, 2, none⟩ = some (.int .i64 wd) := (blk_cell BK3.out 2).trans rfl; have k3 : w12.cell? ⟨g3, 3, none⟩ = some (.bool nl) := (blk_cell BK3.out 3).trans rfl; have v0 : w12.cell? ⟨g5, 0, none⟩ = some (.int .i64 vk) := (blk_cell BK5.out 0).trans rfl; have v1 : w12.cell? ⟨g5, 1, none⟩ = some (.int .i64 vn) := (blk_cell BK5.out 1).trans rfl; have v2 : w12.cell? ⟨g5, 2, none⟩ = some (.string vs) := (blk_cell BK5.out 2).trans rfl; have r0 : w12.cell? ⟨g6, 0, none⟩ = some (.int .i64 0) := (blk_cell BK6.out 0).trans rfl; have r1 : w12.cell? ⟨g6, 1, none⟩ = some (.int .i64 0) := (blk_cell BK6.out 1).trans rfl; have r2 : w12.cell? ⟨g6, 2, none⟩ = some (.string ⟨#[]⟩) := (blk_cell BK6.out 2).trans rfl; have q0 := blk_frozen BK6.out 0; have q1 := blk_frozen BK6.out 1; have q2 := blk_frozen BK6.out 2; have q9 := blk_frozen BK5.out 2; clear CT) | (go_at_call 54; with_reducible refine Calls.mono (CX.out _) ?_; rintro e w13 ⟨rfl, hb⟩; clear k0 k1 k2 k3 v0 v1 v2 r0 r1 r2 q0 q1 q2 q9; have n3 := Aside0.mk (blk_below BK3.out hb); have n5 := Aside0.mk (blk_below BK5.out hb); have n6 := Aside0.mk (blk_below BK6.out hb); have nB := Aside0.mk (below_step HB.out hb); clear BK3 BK5 BK6 HB hb; have BK3 := n3; have BK5 := n5; have BK6 := n6; have HB := nB; clear n3 n5 n6 nB; have k0 : w13.cell? ⟨g3, 0, none⟩ = some (.string s) := (blk_cell BK3.out 0).trans rfl; have k1 : w13.cell? ⟨g3, 1, none⟩ = some (.int .i64 2) := (blk_cell BK3.out 1).trans rfl; have k2 : w13.cell? ⟨g3, 2, none⟩ = some (.int .i64 wd) := (blk_cell BK3.out 2).trans rfl; have k3 : w13.cell? ⟨g3, 3, none⟩ = some (.bool nl) := (blk_cell BK3.out 3).trans rfl; have v0 : w13.cell? ⟨g5, 0, none⟩ = some (.int .i64 vk) := (blk_cell BK5.out 0).trans rfl; have v1 : w13.cell? ⟨g5, 1, none⟩ = some (.int .i64 vn) := (blk_cell BK5.out 1).trans rfl; have v2 : w13.cell? ⟨g5, 2, none⟩ = some (.string vs) := (blk_cell BK5.out 2).trans rfl; have r0 : w13.cell? ⟨g6, 0, none⟩ = some (.int .i64 0) := (blk_cell BK6.out 0).trans rfl; have r1 : w13.cell? ⟨g6, 1, none⟩ = some (.int .i64 0) := (blk_cell BK6.out 1).trans rfl; have r2 : w13.cell? ⟨g6, 2, none⟩ = some (.string ⟨#[]⟩) := (blk_cell BK6.out 2).trans rfl; have q0 := blk_frozen BK6.out 0; have q1 := blk_frozen BK6.out 1; have q2 := blk_frozen BK6.out 2; have q9 := blk_frozen BK5.out 2; clear CX))
        refine bodyPost_ret (results_ct rfl _ _ g6 25 #[.int .i64 vk, .int .i64 vn, .string vs] (0, 0) _ rfl (blk_put (blk_put (blk_put BK6.out 0 _ rfl) 1 _ rfl) 2 _ rfl) Tryz.underlying25 rfl (by kernel_rfl)) rfl ⟨by rw [HF.out]; rfl, below_set (below_set (below_set HB.out G6.out) G6.out) G6.out⟩
      · have HF : Aside0 (fitS s 2 wd nl pg vk vn vs = (0, 0, ⟨#[]⟩, 10)) := ⟨by unfold fitS; rw [if_neg (by rw [H1.out, H2.out]; simp)]; rw [H3.out, if_neg (by simp)]; rw [if_neg (by have := H1Z.out; simpa using this)]; rw [if_neg (by simpa using HE.out), if_neg (by decide), if_pos rfl, if_neg (by have := of_decide_eq_true HQ.out; omega)]⟩
        go_wp2_with (first | (go_at_call 53; with_reducible refine Calls.mono (CT.out _) ?_; rintro e w12 ⟨rfl, hb⟩; clear k0 k1 k2 k3 v0 v1 v2 r0 r1 r2 q0 q1 q2 q9; have n3 := Aside0.mk (blk_below BK3.out hb); have n5 := Aside0.mk (blk_below BK5.out hb); have n6 := Aside0.mk (blk_below BK6.out hb); have nB := Aside0.mk (below_step HB.out hb); clear BK3 BK5 BK6 HB hb; have BK3 := n3; have BK5 := n5; have BK6 := n6; have HB := nB; clear n3 n5 n6 nB; have k0 : w12.cell? ⟨g3, 0, none⟩ = some (.string s) := (blk_cell BK3.out 0).trans rfl; have k1 : w12.cell? ⟨g3, 1, none⟩ = some (.int .i64 2) := (blk_cell BK3.out 1).trans rfl; have k2 : w12.cell? ⟨g3, 2, none⟩ = some (.int .i64 wd) := (blk_cell BK3.out 2).trans rfl; have k3 : w12.cell? ⟨g3, 3, none⟩ = some (.bool nl) := (blk_cell BK3.out 3).trans rfl; have v0 : w12.cell? ⟨g5, 0, none⟩ = some (.int .i64 vk) := (blk_cell BK5.out 0).trans rfl; have v1 : w12.cell? ⟨g5, 1, none⟩ = some (.int .i64 vn) := (blk_cell BK5.out 1).trans rfl; have v2 : w12.cell? ⟨g5, 2, none⟩ = some (.string vs) := (blk_cell BK5.out 2).trans rfl; have r0 : w12.cell? ⟨g6, 0, none⟩ = some (.int .i64 0) := (blk_cell BK6.out 0).trans rfl; have r1 : w12.cell? ⟨g6, 1, none⟩ = some (.int .i64 0) := (blk_cell BK6.out 1).trans rfl; have r2 : w12.cell? ⟨g6, 2, none⟩ = some (.string ⟨#[]⟩) := (blk_cell BK6.out 2).trans rfl; have q0 := blk_frozen BK6.out 0; have q1 := blk_frozen BK6.out 1; have q2 := blk_frozen BK6.out 2; have q9 := blk_frozen BK5.out 2; clear CT) | (go_at_call 54; with_reducible refine Calls.mono (CX.out _) ?_; rintro e w13 ⟨rfl, hb⟩; clear k0 k1 k2 k3 v0 v1 v2 r0 r1 r2 q0 q1 q2 q9; have n3 := Aside0.mk (blk_below BK3.out hb); have n5 := Aside0.mk (blk_below BK5.out hb); have n6 := Aside0.mk (blk_below BK6.out hb); have nB := Aside0.mk (below_step HB.out hb); clear BK3 BK5 BK6 HB hb; have BK3 := n3; have BK5 := n5; have BK6 := n6; have HB := nB; clear n3 n5 n6 nB; have k0 : w13.cell? ⟨g3, 0, none⟩ = some (.string s) := (blk_cell BK3.out 0).trans rfl; have k1 : w13.cell? ⟨g3, 1, none⟩ = some (.int .i64 2) := (blk_cell BK3.out 1).trans rfl; have k2 : w13.cell? ⟨g3, 2, none⟩ = some (.int .i64 wd) := (blk_cell BK3.out 2).trans rfl; have k3 : w13.cell? ⟨g3, 3, none⟩ = some (.bool nl) := (blk_cell BK3.out 3).trans rfl; have v0 : w13.cell? ⟨g5, 0, none⟩ = some (.int .i64 vk) := (blk_cell BK5.out 0).trans rfl; have v1 : w13.cell? ⟨g5, 1, none⟩ = some (.int .i64 vn) := (blk_cell BK5.out 1).trans rfl; have v2 : w13.cell? ⟨g5, 2, none⟩ = some (.string vs) := (blk_cell BK5.out 2).trans rfl; have r0 : w13.cell? ⟨g6, 0, none⟩ = some (.int .i64 0) := (blk_cell BK6.out 0).trans rfl; have r1 : w13.cell? ⟨g6, 1, none⟩ = some (.int .i64 0) := (blk_cell BK6.out 1).trans rfl; have r2 : w13.cell? ⟨g6, 2, none⟩ = some (.string ⟨#[]⟩) := (blk_cell BK6.out 2).trans rfl; have q0 := blk_frozen BK6.out 0; have q1 := blk_frozen BK6.out 1; have q2 := blk_frozen BK6.out 2; have q9 := blk_frozen BK5.out 2; clear CX))
        refine bodyPost_ret (results_ct rfl _ _ g6 25 #[.int .i64 0, .int .i64 0, .string ⟨#[]⟩] (0, 0) _ rfl (blk_put (blk_put (blk_put BK6.out 0 _ rfl) 1 _ rfl) 2 _ rfl) Tryz.underlying25 rfl (by kernel_rfl)) rfl ⟨by rw [HF.out]; rfl, below_set (below_set (below_set HB.out G6.out) G6.out) G6.out⟩
    have k2b : (kd == 2) = false := beq_eq_false_iff_ne.2 k2
    by_cases k5 : kd = 5
    · subst k5
      by_cases h1 : vn < 0
      · have h1b : decide (vn < 0) = true := decide_eq_true h1
        have HF : Aside0 (fitS s 5 wd nl pg vk vn vs = (0, 0, ⟨#[]⟩, 10)) := ⟨by unfold fitS; rw [if_neg (by rw [H1.out, H2.out]; simp)]; rw [H3.out, if_neg (by simp)]; rw [if_neg (by have := H1Z.out; simpa using this)]; rw [if_neg (by simpa using HE.out), if_neg (by decide), if_neg (by decide), if_pos rfl, if_neg (by omega)]⟩
        clear h1
        go_wp2
        refine bodyPost_ret (results_ct rfl _ _ g6 25 #[.int .i64 0, .int .i64 0, .string ⟨#[]⟩] (0, 0) _ rfl (blk_put (blk_put (blk_put BK6.out 0 _ rfl) 1 _ rfl) 2 _ rfl) Tryz.underlying25 rfl (by kernel_rfl)) rfl ⟨by rw [HF.out]; rfl, below_set (below_set (below_set HB.out G6.out) G6.out) G6.out⟩
      · have h1b : decide (vn < 0) = false := decide_eq_false h1
        by_cases h2 : vn > 99999999
        · have h2b : decide (99999999 < vn) = true := decide_eq_true h2
          have HF : Aside0 (fitS s 5 wd nl pg vk vn vs = (0, 0, ⟨#[]⟩, 10)) := ⟨by unfold fitS; rw [if_neg (by rw [H1.out, H2.out]; simp)]; rw [H3.out, if_neg (by simp)]; rw [if_neg (by have := H1Z.out; simpa using this)]; rw [if_neg (by simpa using HE.out), if_neg (by decide), if_neg (by decide), if_pos rfl, if_neg (by omega)]⟩
          clear h1 h2
          go_wp2
          refine bodyPost_ret (results_ct rfl _ _ g6 25 #[.int .i64 0, .int .i64 0, .string ⟨#[]⟩] (0, 0) _ rfl (blk_put (blk_put (blk_put BK6.out 0 _ rfl) 1 _ rfl) 2 _ rfl) Tryz.underlying25 rfl (by kernel_rfl)) rfl ⟨by rw [HF.out]; rfl, below_set (below_set (below_set HB.out G6.out) G6.out) G6.out⟩
        · have h2b : decide (99999999 < vn) = false := decide_eq_false h2
          have HF : Aside0 (fitS s 5 wd nl pg vk vn vs = (vk, vn, vs, 0)) := ⟨by unfold fitS; rw [if_neg (by rw [H1.out, H2.out]; simp)]; rw [H3.out, if_neg (by simp)]; rw [if_neg (by have := H1Z.out; simpa using this)]; rw [if_neg (by simpa using HE.out), if_neg (by decide), if_neg (by decide), if_pos rfl, if_pos (by omega)]⟩
          clear h1 h2
          go_wp2
          refine bodyPost_ret (results_ct rfl _ _ g6 25 #[.int .i64 vk, .int .i64 vn, .string vs] (0, 0) _ rfl (blk_put (blk_put (blk_put BK6.out 0 _ rfl) 1 _ rfl) 2 _ rfl) Tryz.underlying25 rfl (by kernel_rfl)) rfl ⟨by rw [HF.out]; rfl, below_set (below_set (below_set HB.out G6.out) G6.out) G6.out⟩
    · have k5b : (kd == 5) = false := beq_eq_false_iff_ne.2 k5
      have HF : Aside0 (fitS s kd wd nl pg vk vn vs = (vk, vn, vs, 0)) := ⟨by unfold fitS; rw [if_neg (by rw [H1.out, H2.out]; simp)]; rw [H3.out, if_neg (by simp)]; rw [if_neg (by have := H1Z.out; simpa using this)]; rw [if_neg (by simpa using HE.out), if_neg k4, if_neg k2, if_neg k5]⟩
      clear k4 k2 k5
      go_wp2
      refine bodyPost_ret (results_ct rfl _ _ g6 25 #[.int .i64 vk, .int .i64 vn, .string vs] (0, 0) _ rfl (blk_put (blk_put (blk_put BK6.out 0 _ rfl) 1 _ rfl) 2 _ rfl) Tryz.underlying25 rfl (by kernel_rfl)) rfl ⟨by rw [HF.out]; rfl, below_set (below_set (below_set HB.out G6.out) G6.out) G6.out⟩
def table_Fit.f (a0_0 : ByteArray) (a0_1 : Int) (a0_2 : Int) (a0_3 : Bool) (a1 : Int) (a2_0 : Int) (a2_1 : Int) (a2_2 : ByteArray) : Option (Int × Int × ByteArray × Int) := some (fitS a0_0 a0_1 a0_2 a0_3 a1 a2_0 a2_1 a2_2)
theorem table_Fit.calls (a0_0 : ByteArray) (a0_1 : Int) (a0_2 : Int) (a0_3 : Bool) (a1 : Int) (a2_0 : Int) (a2_1 : Int) (a2_2 : ByteArray) (r1 : Int) (r2 : Int) (r3 : ByteArray) (r4 : Int) (w : World) (h : table_Fit.f a0_0 a0_1 a0_2 a0_3 a1 a2_0 a2_1 a2_2 = some (r1, r2, r3, r4)) :
    Calls Tryz.prog 13 #[.agg #[.string a0_0, .int .i64 a0_1, .int .i64 a0_2, .bool a0_3], .int .i64 a1, .agg #[.int .i64 a2_0, .int .i64 a2_1, .string a2_2]] w fun e w' => e = .returned (.tuple #[.agg #[.int .i64 r1, .int .i64 r2, .string r3], .int .i64 r4]) ∧ Below w.heap.size w w' := by
  have h' := Option.some.inj h
  have := fit_walk a0_0 a0_1 a0_2 a0_3 a1 a2_0 a2_1 a2_2 w
  rw [h'] at this
  exact this
end Go.Proofs.YtldpdidlfbphcaaGreatDoor.P
end
section
namespace Go.Proofs.YtldpdidlfbphcaaGreatDoor.P
open Go.RowKit Go.Proofs.YtldpdidlfbphcaaGreatDoorW.PrintWords Go.Proofs.YtldpdidlfbphcaaGreatDoorW.PrintLast Go.Proofs.YtldpdidlfbphcaaGreatDoorW.PrintMore
attribute [local go_sem] max2_int min2_int max_two min_two max_three min_three max_four min_four
def table_nullBytes.l0 : Nat → Int → List (S23) → Int → Int → Option (Int)
  | 0, _, _, _, _ => none
  | k + 1, x3, x6, x7, x8 => if x8 < x7 then (if 0 ≤ x8 then (if x8 < (x6.length : Int) then (if (rd_T23 x6 x8).f3 = true then (table_nullBytes.l0 k (wrap64 (x3 + 1)) x6 x7 (wrap64 (x8 + 1))) else (table_nullBytes.l0 k x3 x6 x7 (wrap64 (x8 + 1)))) else (none)) else (none)) else (some (wrap64 (Int.tdiv (wrap64 (x3 + 7)) 8)))
def table_nullBytes.f (k : Nat) (l0 : List (S23)) : Option (Int) := table_nullBytes.l0 k 0 l0 (l0.length : Int) 0
theorem table_nullBytes.mono_l : ∀ k, (∀ y0 y1 y2 y3, LeO (table_nullBytes.l0 k y0 y1 y2 y3) (table_nullBytes.l0 (k + 1) y0 y1 y2 y3))
  | 0 => fun _ _ _ _ r h => by simp [table_nullBytes.l0] at h
  | k + 1 => by
    have ih0 := table_nullBytes.mono_l k
    · intro y0 y1 y2 y3
      unfold table_nullBytes.l0
      repeat' first
      | (with_reducible exact ih0 _ _ _ _)
      | (with_reducible exact LeO.refl _)
      | (with_reducible exact LeO.none _)
      | (with_reducible refine LeO.ite ?_ ?_)
      | (with_reducible refine LeO.bind ?_ (fun _ => ?_))
      | exact ih0 _ _ _ _
      | exact LeO.none _
      | refine LeO.ite ?_ ?_
      | refine LeO.bind ?_ (fun _ => ?_)
theorem table_nullBytes.mono : ∀ a0 k, LeO (table_nullBytes.f k a0) (table_nullBytes.f (k + 1) a0) := by
  intro a0 k
  have ih0 := table_nullBytes.mono_l k
  unfold table_nullBytes.f
  repeat' first
      | (with_reducible exact ih0 _ _ _ _)
      | (with_reducible exact LeO.refl _)
      | (with_reducible exact LeO.none _)
      | (with_reducible refine LeO.ite ?_ ?_)
      | (with_reducible refine LeO.bind ?_ (fun _ => ?_))
      | exact ih0 _ _ _ _
      | exact LeO.none _
      | refine LeO.ite ?_ ?_
      | refine LeO.bind ?_ (fun _ => ?_)
set_option maxHeartbeats 8000000 in
set_option maxRecDepth 100000 in
theorem table_nullBytes.calls (k : Nat) (A0 : Option Addr) (c0 : Nat) (l0 : List (S23)) (r : Int) (w : World) (hr0 : Kd.C k23 w A0 l0.length l0) (hc0 : l0.length ≤ c0) (h : table_nullBytes.f k l0 = some r) :
    Calls Tryz.prog 71 #[.slice A0 l0.length c0] w fun e w' => e = .returned (.int .i64 r) ∧ Below w.heap.size w w' := by
  have hu23 := Tryz.underlying23
  have HR0 := Aside0.mk hr0
  have HC0 := Aside0.mk hc0
  clear hr0 hc0
  have HB := Aside0.mk (Below.refl w.heap.size w)
  have H : (table_nullBytes.l0 k 0 l0 (l0.length : Int) 0) = some r := h
  clear h
  have H' := Aside0.mk H
  clear H
  go_enter Tryz.func71, Tryz.ntmps71
  go_wp2
  go_loopg [3, 8] k (fun kq v3 v8 w' => ∃ (x3_1 : Int) (x8_1 : Int), v3 = .int .i64 x3_1 ∧ v8 = .int .i64 x8_1 ∧ Aside0 (table_nullBytes.l0 kq x3_1 l0 (l0.length : Int) x8_1 = some r) ∧ Aside0 (kq ≤ k) ∧ Aside0 (Below w.heap.size w w'))
  case atStart => exact ⟨(0), (0), (by first | rfl | (simp; done) | (simp [*]; done)), (by first | rfl | (simp; done) | (simp [*]; done)), H', ⟨Nat.le_refl _⟩, ⟨by repeat (first | (with_reducible first | exact HB.out | apply below_alloc | apply pw_below_drewN | apply below_drew1) | exact HB.out)⟩⟩
  case round =>
    clear H'
    obtain ⟨x3_1, x8_1, rfl, rfl, HA, HK1, HB⟩ := hrel
    cases gk with
    | zero => exact absurd HA.out (by simp [table_nullBytes.l0])
    | succ k1 =>
      have H := HA.out
      clear HA
      simp only [table_nullBytes.l0] at H
      by_cases c2 : x8_1 < (l0.length : Int)
      · rw [if_pos c2] at H
        have c2b0 : decide (x8_1 < (l0.length : Int)) = true := decide_eq_true c2
        clear c2
        by_cases c3 : 0 ≤ x8_1
        · rw [if_pos c3] at H
          have c3b0 : decide (0 ≤ x8_1) = true := decide_eq_true c3
          clear c3
          by_cases c4 : x8_1 < (l0.length : Int)
          · rw [if_pos c4] at H
            have c4b0 : decide (x8_1 < (l0.length : Int)) = true := decide_eq_true c4
            clear c4
            obtain ⟨bq5, hbq5⟩ : ∃ b_ : Bool, b_ = ((rd_T23 l0 x8_1).f3) := ⟨_, rfl⟩
            replace H : (if bq5 = true then (table_nullBytes.l0 k1 (wrap64 (x3_1 + 1)) l0 (l0.length : Int) (wrap64 (x8_1 + 1))) else (table_nullBytes.l0 k1 x3_1 l0 (l0.length : Int) (wrap64 (x8_1 + 1)))) = some r := by rw [← hbq5] at H; exact H
            have Nbq5 := Aside0.mk hbq5
            clear hbq5
            by_cases c6 : bq5 = true
            · subst c6
              have H1 : (table_nullBytes.l0 k1 (wrap64 (x3_1 + 1)) l0 (l0.length : Int) (wrap64 (x8_1 + 1))) = some r := by rw [if_pos rfl] at H; exact H
              clear H
              have H := H1
              clear H1
              have H' := Aside0.mk H
              clear H
              have p357 : 0 ≤ (x8_1 : Int) := of_decide_eq_true (by first | (with_reducible assumption) | assumption)
              have q357 : x8_1 < (l0.length : Int) := of_decide_eq_true (by first | (with_reducible assumption) | assumption)
              obtain ⟨ad357, e357, hx357_0, hx357_1, hx357_2, hx357_3⟩ := at_T23 HR0.out x8_1 p357 q357
              (try rw [← Nbq5.out] at hx357_3)
              cases e357
              replace hx357_0 := (HB.out.cell (World.block_lt_of_cell? w _ hx357_0)).trans hx357_0
              replace hx357_1 := (HB.out.cell (World.block_lt_of_cell? w _ hx357_1)).trans hx357_1
              replace hx357_2 := (HB.out.cell (World.block_lt_of_cell? w _ hx357_2)).trans hx357_2
              replace hx357_3 := (HB.out.cell (World.block_lt_of_cell? w _ hx357_3)).trans hx357_3
              replace p357 := eq_true p357
              replace q357 := eq_true q357
              go_wp2_with (first | ((with_reducible refine gate_dst (N := 5) rfl ?_); refine box_event ?hg (N := 5) ?hd (cs := #[.string (⟨#[]⟩ : ByteArray), .int .i64 0, .int .i64 0, .bool false]) (t := 23) ?hr ?_; (case hd => rfl); (case hg => rfl); (case hr => go_simp; try rfl); intro gb358 hg w7 hbox hb; have n0_ := Aside0.mk (below_step HB.out hb); have n1_ := Aside0.mk (hbox); have n3_ := Aside0.mk ((by rw [hg]; exact (below_size HB.out) : w.heap.size ≤ gb358)); clear HB; have HB := n0_; have BK358 := n1_; have GE358 := n3_; clear n0_ n1_ n3_; clear hb hbox hg; have hcz8_0 : w7.cell? ⟨gb358, 0, none⟩ = some (.string (⟨#[]⟩ : ByteArray)) := (blk_cell BK358.out 0).trans rfl; have hcz8_1 : w7.cell? ⟨gb358, 1, none⟩ = some (.int .i64 0) := (blk_cell BK358.out 1).trans rfl; have hcz8_2 : w7.cell? ⟨gb358, 2, none⟩ = some (.int .i64 0) := (blk_cell BK358.out 2).trans rfl; have hcz8_3 : w7.cell? ⟨gb358, 3, none⟩ = some (.bool false) := (blk_cell BK358.out 3).trans rfl; have hfz8_0 := blk_frozen BK358.out 0; have hfz8_1 := blk_frozen BK358.out 1; have hfz8_2 := blk_frozen BK358.out 2; have hfz8_3 := blk_frozen BK358.out 3))
              go_roundg k1
              case measure => have := HK1.out; omega
              case rel => exact ⟨(wrap64 (x3_1 + 1)), (wrap64 (x8_1 + 1)), (by first | rfl | (simp; done) | (simp [*]; done)), (by first | rfl | (simp; done) | (simp [*]; done)), H', ⟨by have := HK1.out; omega⟩, ⟨by repeat (first | (with_reducible first | exact HB.out | apply below_alloc | apply pw_below_drewN | apply below_drew1 | refine below_set ?_ GE358.out) | exact HB.out)⟩⟩
            · replace c6 := Bool.eq_false_iff.mpr c6
              subst c6
              have H1 : (table_nullBytes.l0 k1 x3_1 l0 (l0.length : Int) (wrap64 (x8_1 + 1))) = some r := by rw [if_neg (show ¬ (false = true) by decide)] at H; exact H
              clear H
              have H := H1
              clear H1
              have H' := Aside0.mk H
              clear H
              have p357 : 0 ≤ (x8_1 : Int) := of_decide_eq_true (by first | (with_reducible assumption) | assumption)
              have q357 : x8_1 < (l0.length : Int) := of_decide_eq_true (by first | (with_reducible assumption) | assumption)
              obtain ⟨ad357, e357, hx357_0, hx357_1, hx357_2, hx357_3⟩ := at_T23 HR0.out x8_1 p357 q357
              (try rw [← Nbq5.out] at hx357_3)
              cases e357
              replace hx357_0 := (HB.out.cell (World.block_lt_of_cell? w _ hx357_0)).trans hx357_0
              replace hx357_1 := (HB.out.cell (World.block_lt_of_cell? w _ hx357_1)).trans hx357_1
              replace hx357_2 := (HB.out.cell (World.block_lt_of_cell? w _ hx357_2)).trans hx357_2
              replace hx357_3 := (HB.out.cell (World.block_lt_of_cell? w _ hx357_3)).trans hx357_3
              replace p357 := eq_true p357
              replace q357 := eq_true q357
              go_wp2_with (first | ((with_reducible refine gate_dst (N := 5) rfl ?_); refine box_event ?hg (N := 5) ?hd (cs := #[.string (⟨#[]⟩ : ByteArray), .int .i64 0, .int .i64 0, .bool false]) (t := 23) ?hr ?_; (case hd => rfl); (case hg => rfl); (case hr => go_simp; try rfl); intro gb358 hg w9 hbox hb; have n0_ := Aside0.mk (below_step HB.out hb); have n1_ := Aside0.mk (hbox); have n3_ := Aside0.mk ((by rw [hg]; exact (below_size HB.out) : w.heap.size ≤ gb358)); clear HB; have HB := n0_; have BK358 := n1_; have GE358 := n3_; clear n0_ n1_ n3_; clear hb hbox hg; have hcz10_0 : w9.cell? ⟨gb358, 0, none⟩ = some (.string (⟨#[]⟩ : ByteArray)) := (blk_cell BK358.out 0).trans rfl; have hcz10_1 : w9.cell? ⟨gb358, 1, none⟩ = some (.int .i64 0) := (blk_cell BK358.out 1).trans rfl; have hcz10_2 : w9.cell? ⟨gb358, 2, none⟩ = some (.int .i64 0) := (blk_cell BK358.out 2).trans rfl; have hcz10_3 : w9.cell? ⟨gb358, 3, none⟩ = some (.bool false) := (blk_cell BK358.out 3).trans rfl; have hfz10_0 := blk_frozen BK358.out 0; have hfz10_1 := blk_frozen BK358.out 1; have hfz10_2 := blk_frozen BK358.out 2; have hfz10_3 := blk_frozen BK358.out 3))
              go_roundg k1
              case measure => have := HK1.out; omega
              case rel => exact ⟨(x3_1), (wrap64 (x8_1 + 1)), (by first | rfl | (simp; done) | (simp [*]; done)), (by first | rfl | (simp; done) | (simp [*]; done)), H', ⟨by have := HK1.out; omega⟩, ⟨by repeat (first | (with_reducible first | exact HB.out | apply below_alloc | apply pw_below_drewN | apply below_drew1 | refine below_set ?_ GE358.out) | exact HB.out)⟩⟩
          · rw [if_neg c4] at H
            exact absurd H (by simp)
        · rw [if_neg c3] at H
          exact absurd H (by simp)
      · rw [if_neg c2] at H
        have c2b0 : decide (x8_1 < (l0.length : Int)) = false := decide_eq_false c2
        clear c2
        obtain rfl := Option.some.inj H
        go_wp2
        go_ret
        exact ⟨rfl, by repeat (first | (with_reducible first | exact HB.out | apply below_alloc | apply pw_below_drewN | apply below_drew1) | exact HB.out)⟩
end Go.Proofs.YtldpdidlfbphcaaGreatDoor.P
end
section
namespace Go.Proofs.YtldpdidlfbphcaaGreatDoor.P
open Go.RowKit Go.Proofs.YtldpdidlfbphcaaGreatDoorW.PrintWords Go.Proofs.YtldpdidlfbphcaaGreatDoorW.PrintLast Go.Proofs.YtldpdidlfbphcaaGreatDoorW.PrintMore
attribute [local go_sem] max2_int min2_int max_two min_two max_three min_three max_four min_four
def table_length.l0 : Nat → Int → List (S23) → Int → Int → Option (Int)
  | 0, _, _, _, _ => none
  | k + 1, x3, x9, x10, x11 => if x11 < x10 then (if 0 ≤ x11 then (if x11 < (x9.length : Int) then (table_length.l0 k (wrap64 (x3 + ((rd_T23 x9 x11).f2))) x9 x10 (wrap64 (x11 + 1))) else (none)) else (none)) else (some x3)
def table_length.f (k : Nat) (l0 : List (S23)) : Option (Int) := (table_nullBytes.f k l0).bind fun t359 => (table_length.l0 k (wrap64 (1 + t359)) l0 (l0.length : Int) 0)
theorem table_length.mono_l : ∀ k, (∀ y0 y1 y2 y3, LeO (table_length.l0 k y0 y1 y2 y3) (table_length.l0 (k + 1) y0 y1 y2 y3))
  | 0 => fun _ _ _ _ r h => by simp [table_length.l0] at h
  | k + 1 => by
    have ih0 := table_length.mono_l k
    · intro y0 y1 y2 y3
      unfold table_length.l0
      repeat' first
      | (with_reducible exact ih0 _ _ _ _)
      | (with_reducible exact table_nullBytes.mono _ _)
      | (with_reducible exact LeO.refl _)
      | (with_reducible exact LeO.none _)
      | (with_reducible refine LeO.ite ?_ ?_)
      | (with_reducible refine LeO.bind ?_ (fun _ => ?_))
      | exact ih0 _ _ _ _
      | exact table_nullBytes.mono _ _
      | exact LeO.none _
      | refine LeO.ite ?_ ?_
      | refine LeO.bind ?_ (fun _ => ?_)
theorem table_length.mono : ∀ a0 k, LeO (table_length.f k a0) (table_length.f (k + 1) a0) := by
  intro a0 k
  have ih0 := table_length.mono_l k
  unfold table_length.f
  repeat' first
      | (with_reducible exact ih0 _ _ _ _)
      | (with_reducible exact table_nullBytes.mono _ _)
      | (with_reducible exact LeO.refl _)
      | (with_reducible exact LeO.none _)
      | (with_reducible refine LeO.ite ?_ ?_)
      | (with_reducible refine LeO.bind ?_ (fun _ => ?_))
      | exact ih0 _ _ _ _
      | exact table_nullBytes.mono _ _
      | exact LeO.none _
      | refine LeO.ite ?_ ?_
      | refine LeO.bind ?_ (fun _ => ?_)
set_option maxHeartbeats 8000000 in
set_option maxRecDepth 100000 in
theorem table_length.calls (k : Nat) (A0 : Option Addr) (c0 : Nat) (l0 : List (S23)) (r : Int) (w : World) (hr0 : Kd.C k23 w A0 l0.length l0) (hc0 : l0.length ≤ c0) (h : table_length.f k l0 = some r) :
    Calls Tryz.prog 69 #[.slice A0 l0.length c0] w fun e w' => e = .returned (.int .i64 r) ∧ Below w.heap.size w w' := by
  have hu23 := Tryz.underlying23
  have HR0 := Aside0.mk hr0
  have HC0 := Aside0.mk hc0
  clear hr0 hc0
  have HB := Aside0.mk (Below.refl w.heap.size w)
  have H : ((table_nullBytes.f k l0).bind fun t359 => (table_length.l0 k (wrap64 (1 + t359)) l0 (l0.length : Int) 0)) = some r := h
  clear h
  replace H := Option.bind_eq_some_iff.mp H
  obtain ⟨t359, A20, H⟩ := H
  replace H : (table_length.l0 k (wrap64 (1 + t359)) l0 (l0.length : Int) 0) = some r := H
  have A2 := Aside0.mk A20
  clear A20
  have H' := Aside0.mk H
  clear H
  go_enter Tryz.func69, Tryz.ntmps69
  go_wp2_with (first | ((with_reducible refine gate_callee (f := 71) rfl ?_); refine goesL_ (some 7) rfl rfl Tryz.func71 (by kernel_rfl) rfl #[.slice A0 l0.length c0] rfl (by (try simp only [List.map_toArray, List.map_cons, List.map_nil]); first | done | rfl) ?_; (with_reducible refine (table_nullBytes.calls k _ _ l0 t359 _ ?side1 ?side2 A2.out).mono ?_); (case side1 => repeat (first | exact HR0.out | (with_reducible refine Kd.C_alloc ?_ _) | (with_reducible refine Kd.C_drewN ?_ _) | (with_reducible refine Kd.C_drew ?_))); (case side2 => exact HC0.out); rintro e w3 ⟨rfl, hb⟩; refine ⟨_, rfl, ?_⟩; have n0_ := Aside0.mk (below_step HB.out hb); clear HB; have HB := n0_; clear n0_; (try clear hb); (try clear hb2); (try clear hk); (try clear hi)))
  go_loopg [3, 11] k (fun kq v3 v11 w' => ∃ (x3_1 : Int) (x11_1 : Int), v3 = .int .i64 x3_1 ∧ v11 = .int .i64 x11_1 ∧ Aside0 (table_length.l0 kq x3_1 l0 (l0.length : Int) x11_1 = some r) ∧ Aside0 (kq ≤ k) ∧ Aside0 (Below w.heap.size w w'))
  case atStart => exact ⟨(wrap64 (1 + t359)), (0), (by first | rfl | (simp; done) | (simp [*]; done)), (by first | rfl | (simp; done) | (simp [*]; done)), H', ⟨Nat.le_refl _⟩, ⟨by repeat (first | (with_reducible first | exact HB.out | apply below_alloc | apply pw_below_drewN | apply below_drew1) | exact HB.out)⟩⟩
  case round =>
    clear H'
    (try clear p2)
    obtain ⟨x3_1, x11_1, rfl, rfl, HA, HK1, HB⟩ := hrel
    cases gk with
    | zero => exact absurd HA.out (by simp [table_length.l0])
    | succ k1 =>
      have H := HA.out
      clear HA
      simp only [table_length.l0] at H
      by_cases c4 : x11_1 < (l0.length : Int)
      · rw [if_pos c4] at H
        have c4b0 : decide (x11_1 < (l0.length : Int)) = true := decide_eq_true c4
        clear c4
        by_cases c5 : 0 ≤ x11_1
        · rw [if_pos c5] at H
          have c5b0 : decide (0 ≤ x11_1) = true := decide_eq_true c5
          clear c5
          by_cases c6 : x11_1 < (l0.length : Int)
          · rw [if_pos c6] at H
            have c6b0 : decide (x11_1 < (l0.length : Int)) = true := decide_eq_true c6
            clear c6
            have H' := Aside0.mk H
            clear H
            have p360 : 0 ≤ (x11_1 : Int) := of_decide_eq_true (by first | (with_reducible assumption) | assumption)
            have q360 : x11_1 < (l0.length : Int) := of_decide_eq_true (by first | (with_reducible assumption) | assumption)
            obtain ⟨ad360, e360, hx360_0, hx360_1, hx360_2, hx360_3⟩ := at_T23 HR0.out x11_1 p360 q360
            cases e360
            replace hx360_0 := (HB.out.cell (World.block_lt_of_cell? w _ hx360_0)).trans hx360_0
            replace hx360_1 := (HB.out.cell (World.block_lt_of_cell? w _ hx360_1)).trans hx360_1
            replace hx360_2 := (HB.out.cell (World.block_lt_of_cell? w _ hx360_2)).trans hx360_2
            replace hx360_3 := (HB.out.cell (World.block_lt_of_cell? w _ hx360_3)).trans hx360_3
            replace p360 := eq_true p360
            replace q360 := eq_true q360
            go_wp2_with (first | ((with_reducible refine gate_dst (N := 5) rfl ?_); refine box_event ?hg (N := 5) ?hd (cs := #[.string (⟨#[]⟩ : ByteArray), .int .i64 0, .int .i64 0, .bool false]) (t := 23) ?hr ?_; (case hd => rfl); (case hg => rfl); (case hr => go_simp; try rfl); intro gb361 hg w7 hbox hb; have n0_ := Aside0.mk (below_step HB.out hb); have n1_ := Aside0.mk (hbox); have n3_ := Aside0.mk ((by rw [hg]; exact (below_size HB.out) : w.heap.size ≤ gb361)); clear HB; have HB := n0_; have BK361 := n1_; have GE361 := n3_; clear n0_ n1_ n3_; clear hb hbox hg; have hcz8_0 : w7.cell? ⟨gb361, 0, none⟩ = some (.string (⟨#[]⟩ : ByteArray)) := (blk_cell BK361.out 0).trans rfl; have hcz8_1 : w7.cell? ⟨gb361, 1, none⟩ = some (.int .i64 0) := (blk_cell BK361.out 1).trans rfl; have hcz8_2 : w7.cell? ⟨gb361, 2, none⟩ = some (.int .i64 0) := (blk_cell BK361.out 2).trans rfl; have hcz8_3 : w7.cell? ⟨gb361, 3, none⟩ = some (.bool false) := (blk_cell BK361.out 3).trans rfl; have hfz8_0 := blk_frozen BK361.out 0; have hfz8_1 := blk_frozen BK361.out 1; have hfz8_2 := blk_frozen BK361.out 2; have hfz8_3 := blk_frozen BK361.out 3))
            go_roundg k1
            case measure => have := HK1.out; omega
            case rel => exact ⟨(wrap64 (x3_1 + ((rd_T23 l0 x11_1).f2))), (wrap64 (x11_1 + 1)), (by first | rfl | (simp; done) | (simp [*]; done)), (by first | rfl | (simp; done) | (simp [*]; done)), H', ⟨by have := HK1.out; omega⟩, ⟨by repeat (first | (with_reducible first | exact HB.out | apply below_alloc | apply pw_below_drewN | apply below_drew1 | refine below_set ?_ GE361.out) | exact HB.out)⟩⟩
          · rw [if_neg c6] at H
            exact absurd H (by simp)
        · rw [if_neg c5] at H
          exact absurd H (by simp)
      · rw [if_neg c4] at H
        have c4b0 : decide (x11_1 < (l0.length : Int)) = false := decide_eq_false c4
        clear c4
        obtain rfl := Option.some.inj H
        go_wp2
        go_ret
        exact ⟨rfl, by repeat (first | (with_reducible first | exact HB.out | apply below_alloc | apply pw_below_drewN | apply below_drew1) | exact HB.out)⟩
end Go.Proofs.YtldpdidlfbphcaaGreatDoor.P
end
section
namespace Go.Proofs.YtldpdidlfbphcaaGreatDoor.P
open Go.RowKit Go.Proofs.YtldpdidlfbphcaaGreatDoorW.PrintWords Go.Proofs.YtldpdidlfbphcaaGreatDoorW.PrintLast Go.Proofs.YtldpdidlfbphcaaGreatDoorW.PrintMore
attribute [local go_sem] max2_int min2_int max_two min_two max_three min_three max_four min_four
def fS (x : S23) : Bool := fieldS x.f0 x.f1 x.f2
theorem all_take_succ {α : Type} (p : α → Bool) (d : α) : ∀ (l : List α) (n : Nat), n < l.length → (l.take (n + 1)).all p = ((l.take n).all p && p (l.getD n d))
  | [], n, h => absurd h (Nat.not_lt_zero _)
  | x :: r, 0, _ => by simp
  | x :: r, n + 1, h => by
    have ih := all_take_succ p d r n (Nat.lt_of_succ_lt_succ h)
    rw [List.take_succ_cons, List.take_succ_cons, List.all_cons, List.all_cons, ih, List.getD_cons_succ, Bool.and_assoc]
theorem all_bad {α : Type} (p : α → Bool) (d : α) (l : List α) (n : Nat) (h : n < l.length) (hp : p (l.getD n d) = false) : l.all p = false := by
  rw [List.all_eq_false]
  refine ⟨l.getD n d, ?_, by rw [hp]; decide⟩
  rw [List.getD_eq_getElem?_getD, List.getElem?_eq_getElem h, Option.getD_some]
  exact List.getElem_mem h
set_option maxHeartbeats 8000000 in
set_option maxRecDepth 100000 in
theorem vf1_calls (s : ByteArray) (kd wd : Int) (nl b : Bool) (w : World) (hb1 : fieldS s kd wd = b) :
    Calls Tryz.prog 76 #[.agg #[.string s, .int .i64 kd, .int .i64 wd, .bool nl]] w fun e w' => e = .returned (.bool (!b)) ∧ Below w.heap.size w w' := by
  have CF := Aside0.mk (fun W => table_isField.calls s kd wd nl b W (by rw [isField_is, hb1]))
  have hu23 := Tryz.underlying23
  clear hb1
  have HB := Aside0.mk (Below.refl w.heap.size w)
  cases b
  all_goals
    go_enter Tryz.func76, Tryz.ntmps76
    go_wp2_with (first | ((with_reducible refine gate_dst (N := 1) rfl ?_); refine box_event ?hg (N := 1) ?hd (cs := #[.string s, .int .i64 kd, .int .i64 wd, .bool nl]) (t := 23) ?hr ?_; (case hd => rfl); (case hg => rfl); (case hr => go_simp; try rfl); intro g1 hg w1 hbox hb; have BK := Aside0.mk hbox; have GE := Aside0.mk ((by rw [hg]; exact (below_size HB.out)) : w.heap.size ≤ g1); have n0_ := Aside0.mk (below_step HB.out hb); clear HB; have HB := n0_; clear n0_; (try clear hb); clear hbox hg; have k0 : w1.cell? ⟨g1, 0, none⟩ = some (.string s) := (blk_cell BK.out 0).trans rfl; have k1 : w1.cell? ⟨g1, 1, none⟩ = some (.int .i64 kd) := (blk_cell BK.out 1).trans rfl; have k2 : w1.cell? ⟨g1, 2, none⟩ = some (.int .i64 wd) := (blk_cell BK.out 2).trans rfl; have k3 : w1.cell? ⟨g1, 3, none⟩ = some (.bool nl) := (blk_cell BK.out 3).trans rfl; have kz0 := blk_frozen BK.out 0; have kz1 := blk_frozen BK.out 1; have kz2 := blk_frozen BK.out 2; have kz3 := blk_frozen BK.out 3) | (go_at_call 47; (with_reducible refine (CF.out _).mono ?_); rintro e w2 ⟨rfl, hb⟩; have n0_ := Aside0.mk (below_step HB.out hb); clear HB; have HB := n0_; clear n0_; (try clear hb)))
    go_ret
    exact ⟨rfl, HB.out⟩
set_option maxHeartbeats 8000000 in
set_option maxRecDepth 100000 in
theorem vf_idx (A0 : Option Addr) (c0 : Nat) (l0 : List (S23)) (w : World) (hr0 : Kd.C k23 w A0 l0.length l0) (hc0 : l0.length ≤ c0) (hL : l0.length ≤ 1000000000) :
    Calls Tryz.prog 66 #[.slice A0 l0.length c0, .func (.func 76) #[] #[]] w fun e w' => ∃ n : Int, e = .returned (.int .i64 n) ∧ decide (n ≥ 0) = !l0.all fS ∧ Below w.heap.size w w' := by
  have hu23 := Tryz.underlying23
  have HR0 := Aside0.mk hr0
  have HC0 := Aside0.mk hc0
  have HL := Aside0.mk hL
  clear hr0 hc0 hL
  have HB := Aside0.mk (Below.refl w.heap.size w)
  go_enter Tryz.func66, Tryz.ntmps66
  go_wp2
  go_loopg [8] (l0.length + 1) (fun kq v8 w' => ∃ n : Nat, v8 = .int .i64 (n : Int) ∧ Aside0 (n ≤ l0.length) ∧ Aside0 ((l0.take n).all fS = true) ∧ Aside0 (kq + n = l0.length + 1) ∧ Aside0 (Below w.heap.size w w'))
  case atStart => exact ⟨0, rfl, ⟨Nat.zero_le _⟩, ⟨by simp⟩, ⟨by omega⟩, HB⟩
  case round =>
    obtain ⟨n, rfl, HN, HA, HK, HB⟩ := hrel
    by_cases c3 : (n : Int) < (l0.length : Int)
    · have c3b := decide_eq_true c3
      have p2 : (0 : Int) ≤ n := Int.natCast_nonneg _
      obtain ⟨ad, ea, hx0, hx1, hx2, hx3⟩ := at_T23 HR0.out (n : Int) p2 c3
      cases ea
      replace hx0 := (HB.out.cell (World.block_lt_of_cell? w _ hx0)).trans hx0
      replace hx1 := (HB.out.cell (World.block_lt_of_cell? w _ hx1)).trans hx1
      replace hx2 := (HB.out.cell (World.block_lt_of_cell? w _ hx2)).trans hx2
      replace hx3 := (HB.out.cell (World.block_lt_of_cell? w _ hx3)).trans hx3
      obtain ⟨x, hxx⟩ : ∃ x, rd_T23 l0 (n : Int) = x := ⟨_, rfl⟩
      rw [hxx] at hx0 hx1 hx2 hx3
      rw [Int.toNat_natCast] at hx0 hx1 hx2 hx3
      have hget : l0.getD n z23 = x := hxx
      have hall := all_take_succ fS z23 l0 n (Int.ofNat_lt.1 c3)
      rw [hget, HA.out, Bool.true_and] at hall
      have HX := Aside0.mk hget
      have HAL := Aside0.mk hall
      have hw : wrap64 ((n : Int) + 1) = ((n + 1 : Nat) : Int) := by
        have := HL.out
        have e : ((n : Int) + 1) = ((n + 1 : Nat) : Int) := by omega
        rw [e]; exact (show wrap64 ((n + 1 : Nat) : Int) = _ by unfold wrap64; omega)
      have HN1 := Aside0.mk (Int.ofNat_lt.1 c3)
      clear hget hall hxx
      obtain ⟨b, hb1⟩ : ∃ b, fS x = b := ⟨_, rfl⟩
      have CV := Aside0.mk (fun W => vf1_calls x.f0 x.f1 x.f2 x.f3 b W hb1)
      have HB1 := Aside0.mk hb1
      clear hb1
      cases b
      · go_wp2_with (first | (go_at_call 76; (with_reducible refine (CV.out _).mono ?_); rintro e w7 ⟨rfl, hb⟩; have n0_ := Aside0.mk (below_step HB.out hb); clear HB; have HB := n0_; clear n0_; (try clear hb)))
        go_ret
        refine ⟨_, rfl, ?_, HB.out⟩
        rw [all_bad fS z23 l0 n HN1.out (by rw [HX.out]; exact HB1.out)]
        exact decide_eq_true (Int.natCast_nonneg _)
      · go_wp2_with (first | (go_at_call 76; (with_reducible refine (CV.out _).mono ?_); rintro e w7 ⟨rfl, hb⟩; have n0_ := Aside0.mk (below_step HB.out hb); clear HB; have HB := n0_; clear n0_; (try clear hb)))
        go_roundg (gk - 1)
        case measure => have := HK.out; have := HN1.out; omega
        case rel => exact ⟨n + 1, by rw [hw], ⟨HN1.out⟩, ⟨by rw [HAL.out]; exact HB1.out⟩, ⟨by have := HK.out; have := HN1.out; omega⟩, HB⟩
    · have c3b := decide_eq_false c3
      have hn : n = l0.length := by have := HN.out; omega
      have hA := HA.out
      rw [hn, List.take_length] at hA
      have HA' := Aside0.mk hA
      clear hA
      go_wp2
      go_ret
      exact ⟨_, rfl, by rw [HA'.out]; rfl, HB.out⟩
set_option maxHeartbeats 8000000 in
set_option maxRecDepth 100000 in
theorem vf_con (A0 : Option Addr) (c0 : Nat) (l0 : List (S23)) (b : Bool) (w : World) (hr0 : Kd.C k23 w A0 l0.length l0) (hc0 : l0.length ≤ c0) (hL : l0.length ≤ 1000000000) (hb1 : l0.all fS = b) :
    Calls Tryz.prog 75 #[.slice A0 l0.length c0, .func (.func 76) #[] #[]] w fun e w' => e = .returned (.bool (!b)) ∧ Below w.heap.size w w' := by
  have CI := Aside0.mk (vf_idx A0 c0 l0 w hr0 hc0 hL)
  rw [hb1] at CI
  clear hr0 hc0 hL hb1
  have HB := Aside0.mk (Below.refl w.heap.size w)
  go_enter Tryz.func75, Tryz.ntmps75
  go_wp2_with (first | (go_at_call 66; (with_reducible refine (CI.out).mono ?_); rintro e w1 ⟨n, rfl, hn, hb⟩; have HN := Aside0.mk hn; clear hn; have n0_ := Aside0.mk (below_step HB.out hb); clear HB; have HB := n0_; clear n0_; (try clear hb)))
  go_ret
  exact ⟨by rw [HN.out]; rfl, HB.out⟩
end Go.Proofs.YtldpdidlfbphcaaGreatDoor.P
end
section
namespace Go.Proofs.YtldpdidlfbphcaaGreatDoor.P
open Go.RowKit Go.Proofs.YtldpdidlfbphcaaGreatDoorW.PrintWords Go.Proofs.YtldpdidlfbphcaaGreatDoorW.PrintLast Go.Proofs.YtldpdidlfbphcaaGreatDoorW.PrintMore
open Go.ChangeMaps Go.ChangeShapes Go.WideShapes Go.MapKept
attribute [local go_sem] max2_int min2_int max_two min_two max_three min_three max_four min_four
theorem drop_getD {α : Type} (d : α) : ∀ (l : List α) (n : Nat), n < l.length → l.drop n = l.getD n d :: l.drop (n + 1)
  | [], n, h => absurd h (Nat.not_lt_zero _)
  | x :: r, 0, _ => rfl
  | x :: r, n + 1, h => by
    rw [List.drop_succ_cons, List.drop_succ_cons, List.getD_cons_succ]
    exact drop_getD d r n (Nat.lt_of_succ_lt_succ h)
theorem take_getD {α : Type} (d : α) : ∀ (l : List α) (n : Nat), n < l.length → l.take (n + 1) = l.take n ++ [l.getD n d]
  | [], n, h => absurd h (Nat.not_lt_zero _)
  | x :: r, 0, _ => rfl
  | x :: r, n + 1, h => by
    rw [List.take_succ_cons, List.take_succ_cons, List.getD_cons_succ, take_getD d r n (Nat.lt_of_succ_lt_succ h)]
    rfl
def nullsN : List S23 → Nat
  | [] => 0
  | x :: r => (if x.f3 = true then 1 else 0) + nullsN r
def wideN : List S23 → Int
  | [] => 0
  | x :: r => x.f2 + wideN r
def lenS (l : List S23) : Int := 1 + ((nullsN l + 7) / 8 : Nat) + wideN l
theorem nullsN_le : ∀ l, nullsN l ≤ l.length
  | [] => Nat.le_refl _
  | x :: r => by
    have := nullsN_le r
    unfold nullsN
    rw [List.length_cons]
    split <;> omega
theorem fS_width {x : S23} (h : fS x = true) : 0 ≤ x.f2 ∧ x.f2 ≤ 254 := by
  unfold fS fieldS kindLo kindHi at h
  simp only [Bool.and_eq_true, decide_eq_true_eq] at h
  obtain ⟨_, _, h1, h2⟩ := h
  constructor
  · refine Int.le_trans ?_ h1
    repeat' split
    all_goals decide
  · refine Int.le_trans h2 ?_
    repeat' split
    all_goals decide
theorem nulls_go (l0 : List S23) (hL : l0.length ≤ 1000000000) : ∀ (m n k acc : Nat), n + m = l0.length → m < k → acc ≤ n → table_nullBytes.l0 k (acc : Int) l0 (l0.length : Int) (n : Int) = some (((acc + nullsN (l0.drop n) + 7) / 8 : Nat) : Int)
  | 0, n, 0, acc, h, hk, ha => absurd hk (by omega)
  | m + 1, n, 0, acc, h, hk, ha => absurd hk (by omega)
  | 0, n, k + 1, acc, h, hk, ha => by
    unfold table_nullBytes.l0
    rw [if_neg (by omega), List.drop_eq_nil_of_le (by omega)]
    have e : wrap64 ((acc : Int) + 7) = ((acc + 7 : Nat) : Int) := by unfold wrap64; omega
    have e2 : Int.tdiv ((acc + 7 : Nat) : Int) 8 = (((acc + 7) / 8 : Nat) : Int) := rfl
    rw [e, e2]
    refine congrArg some ?_
    unfold nullsN wrap64
    omega
  | m + 1, n, k + 1, acc, h, hk, ha => by
    unfold table_nullBytes.l0
    rw [if_pos (by omega), if_pos (by omega), if_pos (by omega), drop_getD z23 l0 n (by omega)]
    have e : rd_T23 l0 (n : Int) = l0.getD n z23 := rfl
    have e1 : wrap64 ((n : Int) + 1) = ((n + 1 : Nat) : Int) := by unfold wrap64; omega
    have e2 : wrap64 ((acc : Int) + 1) = ((acc + 1 : Nat) : Int) := by unfold wrap64; omega
    rw [e, e1, e2]
    show _ = some (((acc + ((if (l0.getD n z23).f3 = true then 1 else 0) + nullsN (l0.drop (n + 1))) + 7) / 8 : Nat) : Int)
    split
    · rw [nulls_go l0 hL m (n + 1) k (acc + 1) (by omega) (by omega) (by omega), Nat.add_assoc acc 1]
    · rw [nulls_go l0 hL m (n + 1) k acc (by omega) (by omega) (by omega), Nat.zero_add]
theorem nulls_is (l0 : List S23) (hL : l0.length ≤ 1000000000) (k : Nat) (hk : l0.length < k) : table_nullBytes.f k l0 = some (((nullsN l0 + 7) / 8 : Nat) : Int) := by
  have := nulls_go l0 hL l0.length 0 k 0 (by omega) hk (Nat.le_refl _)
  rw [List.drop_zero, Nat.zero_add] at this
  exact this
theorem wide_go (l0 : List S23) (hL : l0.length ≤ 1000000000) (hf : l0.all fS = true) : ∀ (m n k : Nat) (acc : Int), n + m = l0.length → m < k → 0 ≤ acc → acc ≤ 1000000000 + 254 * n → table_length.l0 k acc l0 (l0.length : Int) (n : Int) = some (acc + wideN (l0.drop n))
  | 0, n, 0, acc, h, hk, ha, hb => absurd hk (by omega)
  | m + 1, n, 0, acc, h, hk, ha, hb => absurd hk (by omega)
  | 0, n, k + 1, acc, h, hk, ha, hb => by
    unfold table_length.l0
    rw [if_neg (by omega), List.drop_eq_nil_of_le (by omega)]
    refine congrArg some ?_
    unfold wideN
    omega
  | m + 1, n, k + 1, acc, h, hk, ha, hb => by
    unfold table_length.l0
    rw [if_pos (by omega), if_pos (by omega), if_pos (by omega), drop_getD z23 l0 n (by omega)]
    have e : rd_T23 l0 (n : Int) = l0.getD n z23 := rfl
    have hx : fS (l0.getD n z23) = true := by
      rw [List.getD_eq_getElem?_getD, List.getElem?_eq_getElem (show n < l0.length by omega), Option.getD_some]
      exact List.all_eq_true.1 hf _ (List.getElem_mem _)
    have hw := fS_width hx
    rw [e]
    generalize l0.getD n z23 = x at hw ⊢
    have e1 : wrap64 ((n : Int) + 1) = ((n + 1 : Nat) : Int) := by unfold wrap64; omega
    have e2 : wrap64 (acc + x.f2) = acc + x.f2 := by unfold wrap64; omega
    rw [e1, e2, wide_go l0 hL hf m (n + 1) k (acc + x.f2) (by omega) (by omega) (by omega) (by omega)]
    refine congrArg some ?_
    show _ = acc + (x.f2 + wideN (l0.drop (n + 1)))
    omega
theorem length_is (l0 : List S23) (hL : l0.length ≤ 1000000000) (hf : l0.all fS = true) (k : Nat) (hk : l0.length < k) : table_length.f k l0 = some (lenS l0) := by
  unfold table_length.f lenS
  have hn := nullsN_le l0
  rw [nulls_is l0 hL k hk, Option.bind_some]
  have e : wrap64 (1 + (((nullsN l0 + 7) / 8 : Nat) : Int)) = 1 + (((nullsN l0 + 7) / 8 : Nat) : Int) := by unfold wrap64; omega
  rw [e]
  have := wide_go l0 hL hf l0.length 0 k (1 + (((nullsN l0 + 7) / 8 : Nat) : Int)) (by omega) hk (by omega) (by omega)
  rw [List.drop_zero] at this
  exact this
def hasName (l : List S23) (s : ByteArray) : Bool := l.any (fun x => s == x.f0)
def dupA : List S23 → List S23 → Bool
  | _, [] => false
  | acc, x :: r => hasName acc x.f0 || dupA (acc ++ [x]) r
def vfS (l : List S23) : Int := if l.length = 0 then 1 else if l.all fS = false then 1 else if dupA [] l = true then 5 else if l.length > 16 then 3 else if lenS l > 2000 then 3 else 0
def seenE : List S23 → Nat → List MapEntry
  | [], _ => []
  | x :: r, i => ⟨.string x.f0, .bool true, i⟩ :: seenE r (i + 1)
theorem seenE_snoc (x : S23) : ∀ (l : List S23) (i : Nat), seenE (l ++ [x]) i = seenE l i ++ [⟨.string x.f0, .bool true, i + l.length⟩]
  | [], i => rfl
  | y :: r, i => by
    show _ :: seenE (r ++ [x]) (i + 1) = _
    rw [seenE_snoc x r (i + 1), List.length_cons, Nat.add_assoc, Nat.add_comm 1]
    rfl
theorem find_seen (s : ByteArray) : ∀ (l : List S23) (i j : Nat), Instr.findNow .string (.string s) (seenE l i) j = if hasName l s = true then some (some (j + (l.findIdx (fun x => s == x.f0)), .bool true)) else some none
  | [], i, j => rfl
  | x :: r, i, j => by
    have ih := find_seen s r (i + 1) (j + 1)
    show (match Instr.sameNow .string (.string s) (.string x.f0) with | some true => some (some (j, Value.bool true)) | some false => Instr.findNow .string (.string s) (seenE r (i + 1)) (j + 1) | none => none) = _
    have e : Instr.sameNow .string (.string s) (.string x.f0) = some (s == x.f0) := rfl
    rw [e, ih]
    unfold hasName
    rw [List.any_cons, List.findIdx_cons]
    cases s == x.f0
    · simp only [Bool.false_or, cond_false, Nat.add_assoc, Nat.add_comm 1]
    · rfl
theorem run_seen (W : World) (r : Nat) (l : List S23) (c : Nat) (s : ByteArray) (b : Bool) (hb : W.heap[r]? = some (.map (seenE l 0).toArray c)) (hs : hasName l s = b) :
    (Instr.lookup 88 (.map (some r)) (.string s) false).run Tryz.prog W = .ok (.bool b) W := by
  have ht := Tryz.underlying88
  have hk := Tryz.underlying9
  have hkey : IsKey .string (.string s) := trivial
  have hf := find_seen s l 0 0
  have hz : ∀ W, (zeroValue 4).run Tryz.prog W = .ok (.bool false) W := (Go.zero_of_info (n := 1) (by kernel_rfl)).1
  cases b
  · rw [if_neg (by rw [hs]; decide)] at hf
    have hf' : Instr.findNow .string (.string s) (seenE l 0).toArray.toList 0 = some none := hf
    simp [Instr.lookup, run_underlying ht, MapKept.run_getObj_map hb, run_checkKey hk hkey, run_findKey hk hf', Result.andThen, hz]
  · rw [if_pos hs] at hf
    have hf' : Instr.findNow .string (.string s) (seenE l 0).toArray.toList 0 = some (some (_, .bool true)) := hf
    simp [Instr.lookup, run_underlying ht, MapKept.run_getObj_map hb, run_checkKey hk hkey, run_findKey hk hf', Result.andThen]
theorem seen_ins {w W : World} {r : Nat} {l : List S23} {c : Nat} (x : S23) (hb : W.heap[r]? = some (.map (seenE l 0).toArray c)) (hc : l.length = c) (hs : hasName l x.f0 = false) (hB : Below w.heap.size w W) (hr : w.heap.size ≤ r) :
    ∃ W', (Instr.mapUpdate 88 (.map (some r)) (.string x.f0) (.bool true)).run Tryz.prog W = .ok () W' ∧ W'.heap[r]? = some (.map (seenE (l ++ [x]) 0).toArray (c + 1)) ∧ Below w.heap.size w W' := by
  have ht := Tryz.underlying88
  have hk := Tryz.underlying9
  have hkey : IsKey .string (.string x.f0) := trivial
  have hf := find_seen x.f0 l 0 0
  rw [if_neg (by rw [hs]; decide)] at hf
  have hf' : Instr.findNow .string (.string x.f0) (seenE l 0).toArray.toList 0 = some none := hf
  have he : (seenE (l ++ [x]) 0).toArray = (seenE l 0).toArray.push ⟨.string x.f0, .bool true, c⟩ := by
    rw [seenE_snoc, Nat.zero_add, hc, List.push_toArray]
  refine ⟨setBlock W r (.map ((seenE l 0).toArray.push ⟨.string x.f0, .bool true, c⟩) (c + 1)), ?_, by rw [he]; exact heap_setBlock_same hb _, hB.trans ⟨rfl, rfl, rfl, ?_, fun i hi => heap_setBlock_other hb _ (by omega)⟩⟩
  · simp [Instr.mapUpdate, run_underlying ht, MapKept.run_getObj_map hb, run_checkKey hk hkey, run_findKey hk hf', MapKept.run_setObj_map _ hb, Result.andThen, setBlock]
  · simp [setBlock]
theorem obj_far {w : World} {g : Nat} {o : Obj} (h : w.heap[g]? = some o) {p : Addr} (hp : g ≠ p.block) (u : Value) : (w.setCell p u).heap[g]? = some o := (Below.heap_setCell w p u g hp).trans h
set_option maxHeartbeats 8000000 in
set_option maxRecDepth 100000 in
theorem vf_walk (A0 : Option Addr) (c0 : Nat) (l0 : List (S23)) (w : World) (hr0 : Kd.C k23 w A0 l0.length l0) (hc0 : l0.length ≤ c0) (hL : l0.length ≤ 1000000000) :
    Calls Tryz.prog 36 #[.slice A0 l0.length c0] w fun e w' => e = .returned (.int .i64 (vfS l0)) ∧ Below w.heap.size w w' := by
  have hu23 := Tryz.underlying23
  have hmm := @run_makeMap Tryz.prog 88
  obtain ⟨b, hb1⟩ : ∃ b, l0.all fS = b := ⟨_, rfl⟩
  have CC := Aside0.mk (vf_con A0 c0 l0 b w hr0 hc0 hL hb1)
  have HR0 := Aside0.mk hr0
  have HC0 := Aside0.mk hc0
  have HL := Aside0.mk hL
  have HF := Aside0.mk hb1
  clear hr0 hc0 hL hb1
  have HB := Aside0.mk (Below.refl w.heap.size w)
  by_cases h0 : l0.length = 0
  · have c0b : ((l0.length : Int) == 0) = true := by rw [h0]; rfl
    have HV : Aside0 (vfS l0 = 1) := ⟨by unfold vfS; rw [if_pos h0]⟩
    clear h0
    go_enter Tryz.func36, Tryz.ntmps36
    go_wp2
    go_ret
    exact ⟨by rw [HV.out]; rfl, HB.out⟩
  have c0b : ((l0.length : Int) == 0) = false := beq_eq_false_iff_ne.2 (by omega)
  have H0 := Aside0.mk h0
  clear h0
  cases b
  · have HV : Aside0 (vfS l0 = 1) := ⟨by unfold vfS; rw [if_neg H0.out, if_pos HF.out]⟩
    go_enter Tryz.func36, Tryz.ntmps36
    go_wp2_with (first | (go_at_call 75; (with_reducible refine (CC.out).mono ?_); rintro e w1 ⟨rfl, hb⟩; have n0_ := Aside0.mk (below_step HB.out hb); clear HB; have HB := n0_; clear n0_; (try clear hb)))
    go_ret
    exact ⟨by rw [HV.out]; rfl, HB.out⟩
  go_enter Tryz.func36, Tryz.ntmps36
  go_wp2_with (first | (go_at_call 75; (with_reducible refine (CC.out).mono ?_); rintro e w1 ⟨rfl, hb⟩; have n0_ := Aside0.mk (below_step HB.out hb); clear HB; have HB := n0_; clear n0_; (try clear hb)))
  have GM : Aside0 (w.heap.size ≤ w1.heap.size) := ⟨HB.out.size⟩
  go_loopg [16] (l0.length + 1) (fun kq v16 w' => ∃ n : Nat, v16 = .int .i64 (n : Int) ∧ Aside0 (n ≤ l0.length) ∧ Aside0 (dupA [] l0 = dupA (l0.take n) (l0.drop n)) ∧ Aside0 (kq + n = l0.length + 1) ∧ Aside0 (w'.heap[w1.heap.size]? = some (.map (seenE (l0.take n) 0).toArray n)) ∧ Aside0 (Below w.heap.size w w'))
  case atStart => exact ⟨0, rfl, ⟨Nat.zero_le _⟩, ⟨rfl⟩, ⟨by omega⟩, ⟨blk_new w1 _⟩, ⟨below_alloc HB.out _⟩⟩
  case round =>
    clear HB
    obtain ⟨n, rfl, HN, HA, HK, HM, HB⟩ := hrel
    by_cases c3 : (n : Int) < (l0.length : Int)
    · have c3b := decide_eq_true c3
      have p2 : (0 : Int) ≤ n := Int.natCast_nonneg _
      obtain ⟨ad, ea, hx0, hx1, hx2, hx3⟩ := at_T23 HR0.out (n : Int) p2 c3
      cases ea
      replace hx0 := (HB.out.cell (World.block_lt_of_cell? w _ hx0)).trans hx0
      replace hx1 := (HB.out.cell (World.block_lt_of_cell? w _ hx1)).trans hx1
      replace hx2 := (HB.out.cell (World.block_lt_of_cell? w _ hx2)).trans hx2
      replace hx3 := (HB.out.cell (World.block_lt_of_cell? w _ hx3)).trans hx3
      obtain ⟨x, hxx⟩ : ∃ x, rd_T23 l0 (n : Int) = x := ⟨_, rfl⟩
      rw [hxx] at hx0 hx1 hx2 hx3
      rw [Int.toNat_natCast] at hx0 hx1 hx2 hx3
      have hget : l0.getD n z23 = x := hxx
      have hdrop := drop_getD z23 l0 n (Int.ofNat_lt.1 c3)
      have htake := take_getD z23 l0 n (Int.ofNat_lt.1 c3)
      rw [hget] at hdrop htake
      have hdup := HA.out
      rw [hdrop] at hdup
      have hw : wrap64 ((n : Int) + 1) = ((n + 1 : Nat) : Int) := by
        have := HL.out
        have e : ((n : Int) + 1) = ((n + 1 : Nat) : Int) := by omega
        rw [e]; exact (show wrap64 ((n + 1 : Nat) : Int) = _ by unfold wrap64; omega)
      have HN1 := Aside0.mk (Int.ofNat_lt.1 c3)
      have HLN : Aside0 ((l0.take n).length = n) := ⟨by rw [List.length_take]; exact Nat.min_eq_left HN.out⟩
      obtain ⟨d, hd⟩ : ∃ d, hasName (l0.take n) x.f0 = d := ⟨_, rfl⟩
      have HD := Aside0.mk hd
      have HT := Aside0.mk htake
      have HA2 : Aside0 (dupA [] l0 = (d || dupA (l0.take (n + 1)) (l0.drop (n + 1)))) := ⟨by rw [hdup, htake, ← hd]; rfl⟩
      clear hget hxx hd htake hdup hdrop HA
      cases d
      · go_wp2_with (first | ((with_reducible refine gate_dst (N := 5) rfl ?_); refine box_event ?hg (N := 5) ?hd (cs := #[.string (⟨#[]⟩ : ByteArray), .int .i64 0, .int .i64 0, .bool false]) (t := 23) ?hr ?_; (case hd => rfl); (case hg => rfl); (case hr => go_simp; try rfl); intro g5 hg w7 hbox hb; have NE := Aside0.mk ((by rw [hg]; exact Nat.ne_of_lt (blk_lt HM.out)) : w1.heap.size ≠ g5); have HM7 := Aside0.mk (blk_below HM.out hb); clear HM; have BK := Aside0.mk hbox; have GE := Aside0.mk ((by rw [hg]; exact (below_size HB.out)) : w.heap.size ≤ g5); have n0_ := Aside0.mk (below_step HB.out hb); clear HB; have HB := n0_; clear n0_; (try clear hb); clear hbox hg; have k0 : w7.cell? ⟨g5, 0, none⟩ = some (.string (⟨#[]⟩ : ByteArray)) := (blk_cell BK.out 0).trans rfl; have k1 : w7.cell? ⟨g5, 1, none⟩ = some (.int .i64 0) := (blk_cell BK.out 1).trans rfl; have k2 : w7.cell? ⟨g5, 2, none⟩ = some (.int .i64 0) := (blk_cell BK.out 2).trans rfl; have k3 : w7.cell? ⟨g5, 3, none⟩ = some (.bool false) := (blk_cell BK.out 3).trans rfl; have kz0 := blk_frozen BK.out 0; have kz1 := blk_frozen BK.out 1; have kz2 := blk_frozen BK.out 2; have kz3 := blk_frozen BK.out 3; have m4 := obj_far (obj_far (obj_far (obj_far HM7.out NE.out (p := ⟨g5, 0, none⟩) (.string x.f0)) NE.out (p := ⟨g5, 1, none⟩) (.int .i64 x.f1)) NE.out (p := ⟨g5, 2, none⟩) (.int .i64 x.f2)) NE.out (p := ⟨g5, 3, none⟩) (.bool x.f3); have hlk := run_seen _ w1.heap.size (l0.take n) n x.f0 false m4 HD.out; obtain ⟨W5, hup, hm5, hb5⟩ := seen_ins x m4 HLN.out HD.out (below_set (below_set (below_set (below_set HB.out GE.out) GE.out) GE.out) GE.out) GM.out; have HM5 := Aside0.mk hm5; have HB5 := Aside0.mk hb5; clear hm5 hb5; clear m4))
        go_roundg (gk - 1)
        case measure => have := HK.out; have := HN1.out; omega
        case rel => exact ⟨n + 1, by rw [hw], ⟨HN1.out⟩, ⟨by rw [HA2.out]; rfl⟩, ⟨by have := HK.out; have := HN1.out; omega⟩, ⟨by rw [HT.out]; exact HM5.out⟩, HB5⟩
      · have HV : Aside0 (vfS l0 = 5) := ⟨by unfold vfS; rw [if_neg H0.out, if_neg (by rw [HF.out]; decide), if_pos (by rw [HA2.out]; rfl)]⟩
        go_wp2_with (first | ((with_reducible refine gate_dst (N := 5) rfl ?_); refine box_event ?hg (N := 5) ?hd (cs := #[.string (⟨#[]⟩ : ByteArray), .int .i64 0, .int .i64 0, .bool false]) (t := 23) ?hr ?_; (case hd => rfl); (case hg => rfl); (case hr => go_simp; try rfl); intro g5 hg w7 hbox hb; have NE := Aside0.mk ((by rw [hg]; exact Nat.ne_of_lt (blk_lt HM.out)) : w1.heap.size ≠ g5); have HM7 := Aside0.mk (blk_below HM.out hb); clear HM; have BK := Aside0.mk hbox; have GE := Aside0.mk ((by rw [hg]; exact (below_size HB.out)) : w.heap.size ≤ g5); have n0_ := Aside0.mk (below_step HB.out hb); clear HB; have HB := n0_; clear n0_; (try clear hb); clear hbox hg; have k0 : w7.cell? ⟨g5, 0, none⟩ = some (.string (⟨#[]⟩ : ByteArray)) := (blk_cell BK.out 0).trans rfl; have k1 : w7.cell? ⟨g5, 1, none⟩ = some (.int .i64 0) := (blk_cell BK.out 1).trans rfl; have k2 : w7.cell? ⟨g5, 2, none⟩ = some (.int .i64 0) := (blk_cell BK.out 2).trans rfl; have k3 : w7.cell? ⟨g5, 3, none⟩ = some (.bool false) := (blk_cell BK.out 3).trans rfl; have kz0 := blk_frozen BK.out 0; have kz1 := blk_frozen BK.out 1; have kz2 := blk_frozen BK.out 2; have kz3 := blk_frozen BK.out 3; have m4 := obj_far (obj_far (obj_far (obj_far HM7.out NE.out (p := ⟨g5, 0, none⟩) (.string x.f0)) NE.out (p := ⟨g5, 1, none⟩) (.int .i64 x.f1)) NE.out (p := ⟨g5, 2, none⟩) (.int .i64 x.f2)) NE.out (p := ⟨g5, 3, none⟩) (.bool x.f3); have hlk := run_seen _ w1.heap.size (l0.take n) n x.f0 true m4 HD.out; clear m4))
        go_ret
        exact ⟨by rw [HV.out]; rfl, below_set (below_set (below_set (below_set HB.out GE.out) GE.out) GE.out) GE.out⟩
    · have c3b := decide_eq_false c3
      have hn : n = l0.length := by have := HN.out; omega
      have hA := HA.out
      rw [hn, List.take_length, List.drop_length] at hA
      have HA' : Aside0 (dupA [] l0 = false) := ⟨hA⟩
      clear hA hn
      by_cases h16 : l0.length > 16
      · have c16 : decide (16 < (l0.length : Int)) = true := decide_eq_true (by omega)
        have HV : Aside0 (vfS l0 = 3) := ⟨by unfold vfS; rw [if_neg H0.out, if_neg (by rw [HF.out]; decide), if_neg (by rw [HA'.out]; decide), if_pos h16]⟩
        clear h16
        go_wp2
        go_ret
        exact ⟨by rw [HV.out]; rfl, HB.out⟩
      · have c16 : decide (16 < (l0.length : Int)) = false := decide_eq_false (by omega)
        obtain ⟨m, hm⟩ : ∃ m, lenS l0 = m := ⟨_, rfl⟩
        have CL := Aside0.mk (fun W a b => table_length.calls (l0.length + 1) A0 c0 l0 m W a b (by rw [length_is l0 HL.out HF.out _ (Nat.lt_succ_self _), hm]))
        have H16 := Aside0.mk h16
        clear h16
        by_cases h2 : m > 2000
        · have c2 : decide (2000 < m) = true := decide_eq_true h2
          have HV : Aside0 (vfS l0 = 3) := ⟨by unfold vfS; rw [if_neg H0.out, if_neg (by rw [HF.out]; decide), if_neg (by rw [HA'.out]; decide), if_neg H16.out, hm, if_pos h2]⟩
          clear h2 hm
          go_wp2_with (first | (go_at_call 69; (with_reducible refine (CL.out _ (Kd.C_below HR0.out HB.out) HC0.out).mono ?_); rintro e w8 ⟨rfl, hb⟩; have n0_ := Aside0.mk (below_step HB.out hb); clear HB; have HB := n0_; clear n0_; (try clear hb)))
          go_ret
          exact ⟨by rw [HV.out]; rfl, HB.out⟩
        · have c2 : decide (2000 < m) = false := decide_eq_false h2
          have HV : Aside0 (vfS l0 = 0) := ⟨by unfold vfS; rw [if_neg H0.out, if_neg (by rw [HF.out]; decide), if_neg (by rw [HA'.out]; decide), if_neg H16.out, hm, if_neg h2]⟩
          clear h2 hm
          go_wp2_with (first | (go_at_call 69; (with_reducible refine (CL.out _ (Kd.C_below HR0.out HB.out) HC0.out).mono ?_); rintro e w8 ⟨rfl, hb⟩; have n0_ := Aside0.mk (below_step HB.out hb); clear HB; have HB := n0_; clear n0_; (try clear hb)))
          go_ret
          exact ⟨by rw [HV.out]; rfl, HB.out⟩
def table_ValidateFields.f (l0 : List (S23)) : Option (Int) := if l0.length ≤ 1000000000 then some (vfS l0) else none
theorem table_ValidateFields.calls (A0 : Option Addr) (c0 : Nat) (l0 : List (S23)) (r : Int) (w : World) (hr0 : Kd.C k23 w A0 l0.length l0) (hc0 : l0.length ≤ c0) (h : table_ValidateFields.f l0 = some r) :
    Calls Tryz.prog 36 #[.slice A0 l0.length c0] w fun e w' => e = .returned (.int .i64 r) ∧ Below w.heap.size w w' := by
  unfold table_ValidateFields.f at h
  split at h
  · rename_i hL
    cases h
    exact vf_walk A0 c0 l0 w hr0 hc0 hL
  · cases h
end Go.Proofs.YtldpdidlfbphcaaGreatDoor.P
end
section
namespace Go.Proofs.YtldpdidlfbphcaaGreatDoor.P
open Go.RowKit Go.Proofs.YtldpdidlfbphcaaGreatDoorW.PrintWords Go.Proofs.YtldpdidlfbphcaaGreatDoorW.PrintLast Go.Proofs.YtldpdidlfbphcaaGreatDoorW.PrintMore
def nameL (s : ByteArray) : List Int := s.data.toList.map (fun b => (b.toNat : Int)) ++ List.replicate (10 - s.size) 0
def kindLetter (n : Int) : Int := if n = 1 then 76 else if n = 2 then 78 else if n = 3 then 68 else if n = 4 then 67 else if n = 5 then 77 else 0
def descL (x : S23) : List Int := nameL x.f0 ++ [kindLetter x.f1, x.f2 % 256, if x.f3 = true then 1 else 0, 0, 0, 0]
def descO (x : S23) : Option (List Int) := if x.f0.size ≤ 10 then some (descL x) else none
theorem nameL_len {s : ByteArray} (h : s.size ≤ 10) : (nameL s).length = 10 := by
  unfold nameL
  rw [List.length_append, List.length_map, List.length_replicate]
  have e : s.data.toList.length = s.size := rfl
  omega
theorem descO_some {x : S23} {l : List Int} (h : descO x = some l) : x.f0.size ≤ 10 ∧ l.length = 16 ∧ l = descL x := by
  unfold descO at h
  split at h
  · rename_i hs
    cases h
    refine ⟨hs, ?_, rfl⟩
    unfold descL
    rw [List.length_append, nameL_len hs]
    rfl
  · cases h
def u8s (l : List Int) : Array Value := (l.map (Value.int .u8)).toArray
theorem set16 : ∀ (L : List Int), L.length = 10 → ∀ a b c d e f x : Int, (u8s (L ++ [a, b, c, d, e, f])).setIfInBounds 10 (.int .u8 x) = u8s (L ++ [x, b, c, d, e, f]) ∧ (u8s (L ++ [a, b, c, d, e, f])).setIfInBounds 11 (.int .u8 x) = u8s (L ++ [a, x, c, d, e, f]) ∧ (u8s (L ++ [a, b, c, d, e, f])).setIfInBounds 12 (.int .u8 x) = u8s (L ++ [a, b, x, d, e, f])
  | [a0, a1, a2, a3, a4, a5, a6, a7, a8, a9], _, _, _, _, _, _, _, _ => ⟨rfl, rfl, rfl⟩
theorem u8s_some {l : List Int} {i : Nat} (h : i < l.length) : (u8s l)[i]? = some ((u8s l)[i]'(by unfold u8s; simpa using h)) := Array.getElem?_eq_getElem _
theorem copy_arr (W : World) (g : Nat) (s : ByteArray) (hg : W.heap[g]? = some (.cells #[.int .u8 0, .int .u8 0, .int .u8 0, .int .u8 0, .int .u8 0, .int .u8 0, .int .u8 0, .int .u8 0, .int .u8 0, .int .u8 0, .int .u8 0, .int .u8 0, .int .u8 0, .int .u8 0, .int .u8 0, .int .u8 0] 123 (0, 0))) (hs : s.size ≤ 10) :
    (Builtin.copy_ #[37, 9] 3 #[.slice (some ⟨g, 0, none⟩) 10 10, .string s]).run Tryz.prog W = .ok (goInt s.size) (W.setRow g (u8s (nameL s ++ [0, 0, 0, 0, 0, 0]))) := by
  have h := Lib.run_copy_row_string (P := Tryz.prog) W 37 9 3 5 g 0 10 10 s _ 123 Tryz.underlying37 (by kernel_rfl) hg hs (by simp; omega)
  have e2 : ((#[.int .u8 0, .int .u8 0, .int .u8 0, .int .u8 0, .int .u8 0, .int .u8 0, .int .u8 0, .int .u8 0, .int .u8 0, .int .u8 0, .int .u8 0, .int .u8 0, .int .u8 0, .int .u8 0, .int .u8 0, .int .u8 0] : Array Value).toList.take 0 ++ Lib.byteCells s.data.toList ++ (#[.int .u8 0, .int .u8 0, .int .u8 0, .int .u8 0, .int .u8 0, .int .u8 0, .int .u8 0, .int .u8 0, .int .u8 0, .int .u8 0, .int .u8 0, .int .u8 0, .int .u8 0, .int .u8 0, .int .u8 0, .int .u8 0] : Array Value).toList.drop (0 + s.size)).toArray = u8s (nameL s ++ [0, 0, 0, 0, 0, 0]) := by
    unfold u8s nameL
    refine congrArg List.toArray ?_
    rw [List.map_append, List.map_append, List.map_map, List.map_replicate, Nat.zero_add]
    rw [List.take_zero, List.nil_append, List.append_assoc]
    show Lib.byteCells s.data.toList ++ _ = Lib.byteCells s.data.toList ++ _
    refine congrArg (Lib.byteCells s.data.toList ++ ·) ?_
    obtain ⟨n, hn⟩ : ∃ n, s.size = n := ⟨_, rfl⟩
    rw [hn] at hs ⊢
    rcases n with _ | _ | _ | _ | _ | _ | _ | _ | _ | _ | _ | n
    all_goals first | rfl | (exfalso; omega)
  rw [e2] at h
  exact h
theorem rowset_far {W : World} {g k : Nat} {o : Obj} (h : W.heap[k]? = some o) (hk : k ≠ g) (cs : Array Value) : (W.setRow g cs).heap[k]? = some o := (setRow_other W g k cs hk).trans h
theorem rowset_R {W : World} {g base : Nat} {v : Value} {xs : List Int} {cs0 : Array Value} {t : TypeId} (h : Kd.R (Kd.int .u8) 5 W base (fun _ => True) v xs) (hg : W.heap[g]? = some (.cells cs0 t (0, 0))) (cs : Array Value) (hne : (5 : Nat) ≠ t) : Kd.R (Kd.int .u8) 5 (W.setRow g cs) base (fun _ => True) v xs := by
  exact Kd.R_mono (Kd.R_step (Kd.R_types h hg (by intro q hq; rcases List.mem_cons.1 hq with rfl | hq; exact hne; exact absurd hq (by simp [Kd.int, Kd.scalar]))) (fun k ho _ => setRow_other W g k cs ho.2)) (fun _ _ => trivial)
theorem cellset_R {W : World} {g base j : Nat} {v u : Value} {xs : List Int} {cs0 : Array Value} {t : TypeId} (h : Kd.R (Kd.int .u8) 5 W base (fun _ => True) v xs) (hg : W.heap[g]? = some (.cells cs0 t (0, 0))) (hne : (5 : Nat) ≠ t) : Kd.R (Kd.int .u8) 5 (W.setCell ⟨g, j, none⟩ u) base (fun _ => True) v xs :=
  Kd.R_mono (Kd.R_far (p := ⟨g, j, none⟩) (Kd.R_types h hg (by intro q hq; rcases List.mem_cons.1 hq with rfl | hq; exact hne; exact absurd hq (by simp [Kd.int, Kd.scalar]))) (fun _ hk => hk.2) u) (fun _ _ => trivial)
theorem kindVal_letter (n : Int) : ∃ f1 f2 : Value, kindVal n = .agg #[.int .u8 (kindLetter n), .int .i64 (kindLo n), .int .i64 (kindHi n), f1, f2] := by
  by_cases h1 : n = 1
  · subst h1; exact ⟨_, _, rfl⟩
  by_cases h2 : n = 2
  · subst h2; exact ⟨_, _, rfl⟩
  by_cases h3 : n = 3
  · subst h3; exact ⟨_, _, rfl⟩
  by_cases h4 : n = 4
  · subst h4; exact ⟨_, _, rfl⟩
  by_cases h5 : n = 5
  · subst h5; exact ⟨_, _, rfl⟩
  have e1 : kindLo n = 0 := by unfold kindLo kindFound; rw [if_neg (by omega), if_neg (by simp; omega)]
  have e2 : kindHi n = 0 := by unfold kindHi; rw [if_neg (by omega), if_neg h1, if_neg h2, if_neg h4]
  have e3 : kindLetter n = 0 := by unfold kindLetter; rw [if_neg h1, if_neg h2, if_neg h3, if_neg h4, if_neg h5]
  rw [e1, e2, e3]
  unfold kindVal
  rw [if_neg h1, if_neg h2, if_neg h3, if_neg h4, if_neg h5]
  exact ⟨_, _, rfl⟩
theorem run_look' (W : World) (r : Nat) (hb : W.heap[r]? = some (.map kindsEs 5)) (n : Int) (v : Value) (hv : kindVal n = v) : (Instr.lookup 104 (.map (some r)) (.int .i64 n) false).run Tryz.prog W = .ok v W := by
  rw [run_look W r hb n false, ← hv]; rfl
theorem blk_C {W : World} {g : Nat} {t : TypeId} (xs : List Int) (h : W.heap[g]? = some (.cells (u8s xs) t (0, 0))) (hl : xs.length ≤ 9223372036854775807) : (Kd.int .u8).C W (some ⟨g, 0, none⟩) xs.length xs := by
  refine ⟨rfl, hl, fun _ => ⟨_, rfl, fun j p hj => ⟨[.int .u8 p], rfl, rfl, fun i u hu => ?_⟩⟩⟩
  have hi : i = 0 := by
    have := (List.getElem?_eq_some_iff.1 hu).1
    simpa using this
  subst hi
  have hc := blk_cell h j
  have e : (u8s xs)[j]? = some (.int .u8 p) := by
    unfold u8s
    rw [List.getElem?_toArray, List.getElem?_map, hj]
    rfl
  have hu' : Value.int .u8 p = u := by simpa using hu
  rw [← hu', ← e, ← hc]
  simp [Addr.add, Kd.int, Kd.scalar]
  split
  · rename_i h0; rw [h0]
  · rfl
theorem hd_C {W : World} {g : Nat} {t : TypeId} {l ys : List Int} (h : W.heap[g]? = some (.cells (u8s l) t (0, 0))) (hy : ys = l) (hl : ys.length = 16) : (Kd.int .u8).C W (some ⟨g, 0, none⟩) 16 ys := by
  subst hy
  have := blk_C ys h (by omega)
  rw [hl] at this
  exact this
def hd_T9 : Bool × List (List Nat × List Nat) := (true, [([], []), ([], []), ([1], [1]), ([0, 2], [0, 2])])
theorem hd_tab9 : rtab .any (opsOf Tryz.f62 9) = hd_T9 := by kernel_rfl
def hd_T10 : Bool × List (List Nat × List Nat) := (true, [([], []), ([], []), ([1], [1]), ([0, 2], [0, 2]), ([3], [3]), ([], []), ([5], [5]), ([6], [6]), ([0, 1, 2, 3, 4], []), ([8, 4, 0, 0, 1, 2, 3, 4], [4, 8]), ([0, 1, 2, 3, 4, 5, 6, 7, 8, 9], []), ([10, 7, 9, 0, 1, 2, 3, 4, 5, 6, 7, 8, 9], [7, 10])])
theorem hd_tab10 : rtab .any (opsOf Tryz.f62 10) = hd_T10 := by kernel_rfl
end Go.Proofs.YtldpdidlfbphcaaGreatDoor.P
end
section
namespace Go.Proofs.YtldpdidlfbphcaaGreatDoor.P
open Go.RowKit Go.Proofs.YtldpdidlfbphcaaGreatDoorW.PrintWords Go.Proofs.YtldpdidlfbphcaaGreatDoorW.PrintLast Go.Proofs.YtldpdidlfbphcaaGreatDoorW.PrintMore
attribute [local go_sem] max2_int min2_int max_two min_two max_three min_three max_four min_four
def table_writeTruth.f (a0_0 : ByteArray) (a0_1 : Int) (a0_2 : Int) (a0_3 : Bool) (a1_0 : Int) (a1_1 : Int) (a1_2 : ByteArray) : Option (ByteArray) := if 0 ≤ a1_1 then (if a1_1 ≤ (wrap64 (a1_1 + 1)) then (if (wrap64 (a1_1 + 1)) ≤ 2 then (some ((⟨#[70, 84]⟩ : ByteArray).extract (a1_1 : Int).toNat ((wrap64 (a1_1 + 1)) : Int).toNat)) else (none)) else (none)) else (none)
set_option maxHeartbeats 8000000 in
set_option maxRecDepth 100000 in
theorem table_writeTruth.calls (a0_0 : ByteArray) (a0_1 : Int) (a0_2 : Int) (a0_3 : Bool) (a1_0 : Int) (a1_1 : Int) (a1_2 : ByteArray) (r : ByteArray) (w : World) (h : table_writeTruth.f a0_0 a0_1 a0_2 a0_3 a1_0 a1_1 a1_2 = some r) :
    Calls Tryz.prog 125 #[.agg #[.string a0_0, .int .i64 a0_1, .int .i64 a0_2, .bool a0_3], .agg #[.int .i64 a1_0, .int .i64 a1_1, .string a1_2]] w fun e w' => e = .returned (.string r) ∧ Below w.heap.size w w' := by
  have hu23 := Tryz.underlying23
  have hu25 := Tryz.underlying25
  have HB := Aside0.mk (Below.refl w.heap.size w)
  have H : (if 0 ≤ a1_1 then (if a1_1 ≤ (wrap64 (a1_1 + 1)) then (if (wrap64 (a1_1 + 1)) ≤ 2 then (some ((⟨#[70, 84]⟩ : ByteArray).extract (a1_1 : Int).toNat ((wrap64 (a1_1 + 1)) : Int).toNat)) else (none)) else (none)) else (none)) = some r := h
  clear h
  by_cases c3 : 0 ≤ a1_1
  · rw [if_pos c3] at H
    have c3b0 := eq_true c3
    have c3b1 : decide (0 ≤ a1_1) = true := decide_eq_true c3
    clear c3
    by_cases c4 : a1_1 ≤ (wrap64 (a1_1 + 1))
    · rw [if_pos c4] at H
      have c4b0 := eq_true c4
      have c4b1 : decide (a1_1 ≤ (wrap64 (a1_1 + 1))) = true := decide_eq_true c4
      by_cases c5 : (wrap64 (a1_1 + 1)) ≤ 2
      · rw [if_pos c5] at H
        have c5b0 := eq_true c5
        have c5b1 : decide ((wrap64 (a1_1 + 1)) ≤ 2) = true := decide_eq_true c5
        obtain rfl := Option.some.inj H
        go_enter Tryz.func125, Tryz.ntmps125
        go_wp2_with (first | ((with_reducible refine gate_dst (N := 2) rfl ?_); refine box_event ?hg (N := 2) ?hd (cs := #[.string a0_0, .int .i64 a0_1, .int .i64 a0_2, .bool a0_3]) (t := 23) ?hr ?_; (case hd => rfl); (case hg => rfl); (case hr => go_simp; try rfl); intro gb552 hg w6 hbox hb; have n0_ := Aside0.mk (below_step HB.out hb); have n1_ := Aside0.mk (hbox); have n3_ := Aside0.mk ((by rw [hg]; exact (below_size HB.out) : w.heap.size ≤ gb552)); clear HB; have HB := n0_; have BK552 := n1_; have GE552 := n3_; clear n0_ n1_ n3_; clear hb hbox hg) | ((with_reducible refine gate_dst (N := 3) rfl ?_); refine box_event ?hg (N := 3) ?hd (cs := #[.int .i64 a1_0, .int .i64 a1_1, .string a1_2]) (t := 25) ?hr ?_; (case hd => rfl); (case hg => rfl); (case hr => go_simp; try rfl); intro gb553 hg w7 hbox hb; have n0_ := Aside0.mk (blk_below (g := gb552) (o := .cells #[.string a0_0, .int .i64 a0_1, .int .i64 a0_2, .bool a0_3] 23 (0, 0)) BK552.out hb); have n1_ := Aside0.mk (below_step HB.out hb); have n2_ := Aside0.mk (hbox); have n4_ := Aside0.mk ((by rw [hg]; exact (below_size HB.out) : w.heap.size ≤ gb553)); have n5_ := Aside0.mk ((by rw [hg]; exact Nat.ne_of_lt (blk_lt (g := gb552) (o := .cells #[.string a0_0, .int .i64 a0_1, .int .i64 a0_2, .bool a0_3] 23 (0, 0)) BK552.out) : gb552 ≠ gb553)); have n6_ := Aside0.mk ((by rw [hg]; exact Nat.ne_of_gt (blk_lt (g := gb552) (o := .cells #[.string a0_0, .int .i64 a0_1, .int .i64 a0_2, .bool a0_3] 23 (0, 0)) BK552.out) : gb553 ≠ gb552)); clear BK552; clear HB; have BK552 := n0_; have HB := n1_; have BK553 := n2_; have GE553 := n4_; have NB552_553 := n5_; have NB553_552 := n6_; clear n0_ n1_ n2_ n4_ n5_ n6_; clear hb hbox hg; have hnb8 := NB553_552.out; have hnc8 := NB552_553.out; have hcz9_0 : w7.cell? ⟨gb553, 0, none⟩ = some (.int .i64 a1_0) := (blk_cell BK553.out 0).trans rfl; have hcz9_1 : w7.cell? ⟨gb553, 1, none⟩ = some (.int .i64 a1_1) := (blk_cell BK553.out 1).trans rfl; have hcz9_2 : w7.cell? ⟨gb553, 2, none⟩ = some (.string a1_2) := (blk_cell BK553.out 2).trans rfl; have hfz9_0 := blk_frozen BK553.out 0; have hfz9_1 := blk_frozen BK553.out 1; have hfz9_2 := blk_frozen BK553.out 2))
        go_ret
        exact ⟨rfl, by repeat (first | (with_reducible first | exact HB.out | apply below_alloc | apply pw_below_drewN | apply below_drew1 | refine below_set ?_ GE552.out | refine below_set ?_ GE553.out) | exact HB.out)⟩
      · rw [if_neg c5] at H
        exact absurd H (by simp)
    · rw [if_neg c4] at H
      exact absurd H (by simp)
  · rw [if_neg c3] at H
    exact absurd H (by simp)
end Go.Proofs.YtldpdidlfbphcaaGreatDoor.P
end
section
namespace Go.Proofs.YtldpdidlfbphcaaGreatDoor.P
open Go.RowKit Go.Proofs.YtldpdidlfbphcaaGreatDoorW.PrintWords Go.Proofs.YtldpdidlfbphcaaGreatDoorW.PrintLast Go.Proofs.YtldpdidlfbphcaaGreatDoorW.PrintMore
attribute [local go_sem] max2_int min2_int max_two min_two max_three min_three max_four min_four
def table_writeNum.f (k : Nat) (a0_0 : ByteArray) (a0_1 : Int) (a0_2 : Int) (a0_3 : Bool) (a1_0 : Int) (a1_1 : Int) (a1_2 : ByteArray) : Option (ByteArray) := (val_Str.f k a1_1 a0_2).bind fun bt543 => (some bt543.1)
theorem table_writeNum.mono : ∀ a0 a1 a2 a3 a4 a5 a6 k, LeO (table_writeNum.f k a0 a1 a2 a3 a4 a5 a6) (table_writeNum.f (k + 1) a0 a1 a2 a3 a4 a5 a6) := by
  intro a0 a1 a2 a3 a4 a5 a6 k
  unfold table_writeNum.f
  repeat' first
      | (with_reducible exact val_Str.mono _ _ _)
      | (with_reducible exact LeO.refl _)
      | (with_reducible exact LeO.none _)
      | (with_reducible refine LeO.ite ?_ ?_)
      | (with_reducible refine LeO.bind ?_ (fun _ => ?_))
      | exact val_Str.mono _ _ _
      | exact LeO.none _
      | refine LeO.ite ?_ ?_
      | refine LeO.bind ?_ (fun _ => ?_)
set_option maxHeartbeats 8000000 in
set_option maxRecDepth 100000 in
theorem table_writeNum.calls (k : Nat) (a0_0 : ByteArray) (a0_1 : Int) (a0_2 : Int) (a0_3 : Bool) (a1_0 : Int) (a1_1 : Int) (a1_2 : ByteArray) (r : ByteArray) (w : World) (h : table_writeNum.f k a0_0 a0_1 a0_2 a0_3 a1_0 a1_1 a1_2 = some r) :
    Calls Tryz.prog 127 #[.agg #[.string a0_0, .int .i64 a0_1, .int .i64 a0_2, .bool a0_3], .agg #[.int .i64 a1_0, .int .i64 a1_1, .string a1_2]] w fun e w' => e = .returned (.string r) ∧ Below w.heap.size w w' := by
  have hu23 := Tryz.underlying23
  have hu25 := Tryz.underlying25
  have HB := Aside0.mk (Below.refl w.heap.size w)
  have H : ((val_Str.f k a1_1 a0_2).bind fun bt543 => (some bt543.1)) = some r := h
  clear h
  replace H := Option.bind_eq_some_iff.mp H
  obtain ⟨⟨t543, t544⟩, A30, H⟩ := H
  replace H : (some t543) = some r := H
  have A3 := Aside0.mk A30
  clear A30
  obtain rfl := Option.some.inj H
  go_enter Tryz.func127, Tryz.ntmps127
  go_wp2_with (first | ((with_reducible refine gate_dst (N := 2) rfl ?_); refine box_event ?hg (N := 2) ?hd (cs := #[.string a0_0, .int .i64 a0_1, .int .i64 a0_2, .bool a0_3]) (t := 23) ?hr ?_; (case hd => rfl); (case hg => rfl); (case hr => go_simp; try rfl); intro gb541 hg w4 hbox hb; have n0_ := Aside0.mk (below_step HB.out hb); have n1_ := Aside0.mk (hbox); have n3_ := Aside0.mk ((by rw [hg]; exact (below_size HB.out) : w.heap.size ≤ gb541)); clear HB; have HB := n0_; have BK541 := n1_; have GE541 := n3_; clear n0_ n1_ n3_; clear hb hbox hg) | ((with_reducible refine gate_dst (N := 3) rfl ?_); refine box_event ?hg (N := 3) ?hd (cs := #[.int .i64 a1_0, .int .i64 a1_1, .string a1_2]) (t := 25) ?hr ?_; (case hd => rfl); (case hg => rfl); (case hr => go_simp; try rfl); intro gb542 hg w5 hbox hb; have n0_ := Aside0.mk (blk_below (g := gb541) (o := .cells #[.string a0_0, .int .i64 a0_1, .int .i64 a0_2, .bool a0_3] 23 (0, 0)) BK541.out hb); have n1_ := Aside0.mk (below_step HB.out hb); have n2_ := Aside0.mk (hbox); have n4_ := Aside0.mk ((by rw [hg]; exact (below_size HB.out) : w.heap.size ≤ gb542)); have n5_ := Aside0.mk ((by rw [hg]; exact Nat.ne_of_lt (blk_lt (g := gb541) (o := .cells #[.string a0_0, .int .i64 a0_1, .int .i64 a0_2, .bool a0_3] 23 (0, 0)) BK541.out) : gb541 ≠ gb542)); have n6_ := Aside0.mk ((by rw [hg]; exact Nat.ne_of_gt (blk_lt (g := gb541) (o := .cells #[.string a0_0, .int .i64 a0_1, .int .i64 a0_2, .bool a0_3] 23 (0, 0)) BK541.out) : gb542 ≠ gb541)); clear BK541; clear HB; have BK541 := n0_; have HB := n1_; have BK542 := n2_; have GE542 := n4_; have NB541_542 := n5_; have NB542_541 := n6_; clear n0_ n1_ n2_ n4_ n5_ n6_; clear hb hbox hg; have hnb6 := NB542_541.out; have hnc6 := NB541_542.out; have hcz7_0 : w5.cell? ⟨gb542, 0, none⟩ = some (.int .i64 a1_0) := (blk_cell BK542.out 0).trans rfl; have hcz7_1 : w5.cell? ⟨gb542, 1, none⟩ = some (.int .i64 a1_1) := (blk_cell BK542.out 1).trans rfl; have hcz7_2 : w5.cell? ⟨gb542, 2, none⟩ = some (.string a1_2) := (blk_cell BK542.out 2).trans rfl; have hfz7_0 := blk_frozen BK542.out 0; have hfz7_1 := blk_frozen BK542.out 1; have hfz7_2 := blk_frozen BK542.out 2; have hcz8_0 : w5.cell? ⟨gb541, 0, none⟩ = some (.string a0_0) := (blk_cell BK541.out 0).trans rfl; have hcz8_1 : w5.cell? ⟨gb541, 1, none⟩ = some (.int .i64 a0_1) := (blk_cell BK541.out 1).trans rfl; have hcz8_2 : w5.cell? ⟨gb541, 2, none⟩ = some (.int .i64 a0_2) := (blk_cell BK541.out 2).trans rfl; have hcz8_3 : w5.cell? ⟨gb541, 3, none⟩ = some (.bool a0_3) := (blk_cell BK541.out 3).trans rfl; have hfz8_0 := blk_frozen BK541.out 0; have hfz8_1 := blk_frozen BK541.out 1; have hfz8_2 := blk_frozen BK541.out 2; have hfz8_3 := blk_frozen BK541.out 3) | ((with_reducible refine gate_callee (f := 53) rfl ?_); refine goesL_ (some 12) rfl rfl Tryz.func53 (by kernel_rfl) rfl #[.int .i64 a1_1, .int .i64 a0_2] rfl (by (try simp only [List.map_toArray, List.map_cons, List.map_nil]); first | done | rfl) ?_; (with_reducible refine (val_Str.calls k a1_1 a0_2 t543 t544 _ A3.out).mono ?_); rintro e w9 ⟨rfl, hb⟩; refine ⟨_, rfl, ?_⟩; have n0_ := Aside0.mk (blk_below (g := gb541) (o := .cells #[.string a0_0, .int .i64 a0_1, .int .i64 a0_2, .bool a0_3] 23 (0, 0)) BK541.out hb); have n1_ := Aside0.mk (blk_below (g := gb542) (o := .cells #[.int .i64 a1_0, .int .i64 a1_1, .string a1_2] 25 (0, 0)) BK542.out hb); have n2_ := Aside0.mk (below_step HB.out hb); clear BK541; clear BK542; clear HB; have BK541 := n0_; have BK542 := n1_; have HB := n2_; clear n0_ n1_ n2_; (try clear hb); (try clear hb2); (try clear hk); (try clear hi)))
  go_ret
  exact ⟨rfl, by repeat (first | (with_reducible first | exact HB.out | apply below_alloc | apply pw_below_drewN | apply below_drew1 | refine below_set ?_ GE541.out | refine below_set ?_ GE542.out) | exact HB.out)⟩
end Go.Proofs.YtldpdidlfbphcaaGreatDoor.P
end
section
namespace Go.Proofs.YtldpdidlfbphcaaGreatDoor.P
open Go.RowKit Go.Proofs.YtldpdidlfbphcaaGreatDoorW.PrintWords Go.Proofs.YtldpdidlfbphcaaGreatDoorW.PrintLast Go.Proofs.YtldpdidlfbphcaaGreatDoorW.PrintMore
attribute [local go_sem] max2_int min2_int max_two min_two max_three min_three max_four min_four
def val_yearsDays.f (a0 : Int) : Option (Int) := some (wrap64 ((wrap64 ((wrap64 ((wrap64 (365 * (wrap64 (a0 - 1)))) + (wrap64 (Int.tdiv (wrap64 (a0 - 1)) 4)))) - (wrap64 (Int.tdiv (wrap64 (a0 - 1)) 100)))) + (wrap64 (Int.tdiv (wrap64 (a0 - 1)) 400))))
set_option maxHeartbeats 8000000 in
set_option maxRecDepth 100000 in
theorem val_yearsDays.calls (a0 : Int) (r : Int) (w : World) (h : val_yearsDays.f a0 = some r) :
    Calls Tryz.prog 180 #[.int .i64 a0] w fun e w' => e = .returned (.int .i64 r) ∧ Drawn0 w w' := by
  have H : (some (wrap64 ((wrap64 ((wrap64 ((wrap64 (365 * (wrap64 (a0 - 1)))) + (wrap64 (Int.tdiv (wrap64 (a0 - 1)) 4)))) - (wrap64 (Int.tdiv (wrap64 (a0 - 1)) 100)))) + (wrap64 (Int.tdiv (wrap64 (a0 - 1)) 400))))) = some r := h
  clear h
  obtain rfl := Option.some.inj H
  go_enter Tryz.func180, Tryz.ntmps180
  go_wp2
  go_ret
  exact ⟨by first | rfl | (simp; done) | (simp [*]; done), by repeat (first | exact Drawn0.refl _ | apply Drawn0.step)⟩
end Go.Proofs.YtldpdidlfbphcaaGreatDoor.P
end
section
namespace Go.Proofs.YtldpdidlfbphcaaGreatDoor.P
open Go.RowKit Go.Proofs.YtldpdidlfbphcaaGreatDoorW.PrintWords Go.Proofs.YtldpdidlfbphcaaGreatDoorW.PrintLast Go.Proofs.YtldpdidlfbphcaaGreatDoorW.PrintMore
attribute [local go_sem] max2_int min2_int max_two min_two max_three min_three max_four min_four
def val_isLeap.j0 : Nat → Bool → Option (Bool)
  | 0, _ => none
  | k + 1, x2 => some x2
def val_isLeap.f (k : Nat) (a0 : Int) : Option (Bool) := if (Int.tmod a0 4) = 0 then (if (Int.tmod a0 100) = 0 then (val_isLeap.j0 k ((Int.tmod a0 400) == 0)) else (val_isLeap.j0 k true)) else (val_isLeap.j0 k false)
theorem val_isLeap.mono_l : ∀ k, (∀ y0, LeO (val_isLeap.j0 k y0) (val_isLeap.j0 (k + 1) y0))
  | 0 => fun _ r h => by simp [val_isLeap.j0] at h
  | k + 1 => by
    have ih0 := val_isLeap.mono_l k
    · intro y0
      unfold val_isLeap.j0
      repeat' first
      | (with_reducible exact ih0 _)
      | (with_reducible exact LeO.refl _)
      | (with_reducible exact LeO.none _)
      | (with_reducible refine LeO.ite ?_ ?_)
      | (with_reducible refine LeO.bind ?_ (fun _ => ?_))
      | exact ih0 _
      | exact LeO.none _
      | refine LeO.ite ?_ ?_
      | refine LeO.bind ?_ (fun _ => ?_)
theorem val_isLeap.mono : ∀ a0 k, LeO (val_isLeap.f k a0) (val_isLeap.f (k + 1) a0) := by
  intro a0 k
  have ih0 := val_isLeap.mono_l k
  unfold val_isLeap.f
  repeat' first
      | (with_reducible exact ih0 _)
      | (with_reducible exact LeO.refl _)
      | (with_reducible exact LeO.none _)
      | (with_reducible refine LeO.ite ?_ ?_)
      | (with_reducible refine LeO.bind ?_ (fun _ => ?_))
      | exact ih0 _
      | exact LeO.none _
      | refine LeO.ite ?_ ?_
      | refine LeO.bind ?_ (fun _ => ?_)
set_option maxHeartbeats 8000000 in
set_option maxRecDepth 100000 in
theorem val_isLeap.calls (k : Nat) (a0 : Int) (r : Bool) (w : World) (h : val_isLeap.f k a0 = some r) :
    Calls Tryz.prog 183 #[.int .i64 a0] w fun e w' => e = .returned (.bool r) ∧ Drawn0 w w' := by
  have H : (if (Int.tmod a0 4) = 0 then (if (Int.tmod a0 100) = 0 then (val_isLeap.j0 k ((Int.tmod a0 400) == 0)) else (val_isLeap.j0 k true)) else (val_isLeap.j0 k false)) = some r := h
  clear h
  have HC2 := Aside0.mk H
  clear H
  go_enter Tryz.func183, Tryz.ntmps183
  go_upto_region 1 with (fail)
  go_cut [2] (fun v2 wc => ∃ (kq : Nat) (x2_1 : Bool), v2 = .bool x2_1 ∧ Aside0 (val_isLeap.j0 kq x2_1 = some r) ∧ Aside0 (kq ≤ k) ∧ Drawn0 w wc)
  case first =>
    have H := HC2.out
    clear HC2
    by_cases c3 : (Int.tmod a0 4) = 0
    · rw [if_pos c3] at H
      have c3b0 : ((Int.tmod a0 4) == 0) = true := beq_iff_eq.mpr c3
      have c3b1 : ((Int.tmod a0 4) != 0) = false := bne_eq_false_iff_eq.mpr c3
      clear c3
      (first | rw [c3b0] | (simp only [i64_w, i32_w]; rw [c3b0]) | skip)
      by_cases c4 : (Int.tmod a0 100) = 0
      · rw [if_pos c4] at H
        have c4b0 : ((Int.tmod a0 100) == 0) = true := beq_iff_eq.mpr c4
        have c4b1 : ((Int.tmod a0 100) != 0) = false := bne_eq_false_iff_eq.mpr c4
        clear c4
        have H' := Aside0.mk H
        clear H
        go_wp2
        go_meet
        case rel => exact ⟨_, (((Int.tmod a0 400) == 0)), (by first | rfl | (simp; done) | (simp [*]; done)), H', ⟨by first | omega | exact Nat.le_refl _⟩, by repeat (first | exact Drawn0.refl _ | apply Drawn0.step)⟩
      · rw [if_neg c4] at H
        have c4b0 : ((Int.tmod a0 100) == 0) = false := beq_eq_false_iff_ne.mpr c4
        have c4b1 : ((Int.tmod a0 100) != 0) = true := bne_iff_ne.mpr c4
        have H' := Aside0.mk H
        clear H
        go_wp2
        go_meet
        case rel => exact ⟨_, (true), (by first | rfl | (simp; done) | (simp [*]; done)), H', ⟨by first | omega | exact Nat.le_refl _⟩, by repeat (first | exact Drawn0.refl _ | apply Drawn0.step)⟩
    · rw [if_neg c3] at H
      have c3b0 : ((Int.tmod a0 4) == 0) = false := beq_eq_false_iff_ne.mpr c3
      have c3b1 : ((Int.tmod a0 4) != 0) = true := bne_iff_ne.mpr c3
      (first | rw [c3b0] | (simp only [i64_w, i32_w]; rw [c3b0]) | skip)
      have H' := Aside0.mk H
      clear H
      go_wp2
      go_meet
      case rel => exact ⟨_, (false), (by first | rfl | (simp; done) | (simp [*]; done)), H', ⟨by first | omega | exact Nat.le_refl _⟩, by repeat (first | exact Drawn0.refl _ | apply Drawn0.step)⟩
  case rest =>
    clear HC2
    (try clear c1);(try clear p2);(try clear c3);(try clear c3b0);(try clear c3b1);(try clear c4);(try clear c4b0);(try clear c4b1)
    obtain ⟨kq, x2_1, rfl, HA, HJ1, ⟨mc1, rfl⟩⟩ := hcut
    cases kq with
    | zero => exact absurd HA.out (by simp [val_isLeap.j0])
    | succ kj1 =>
      have H := HA.out
      clear HA
      simp only [val_isLeap.j0] at H
      obtain rfl := Option.some.inj H
      go_wp2
      go_ret
      exact ⟨by first | rfl | (simp; done) | (simp [*]; done), by repeat (first | exact Drawn0.refl _ | apply Drawn0.step)⟩
end Go.Proofs.YtldpdidlfbphcaaGreatDoor.P
end
section
namespace Go.Proofs.YtldpdidlfbphcaaGreatDoor.P
open Go.RowKit Go.Proofs.YtldpdidlfbphcaaGreatDoorW.PrintWords Go.Proofs.YtldpdidlfbphcaaGreatDoorW.PrintLast Go.Proofs.YtldpdidlfbphcaaGreatDoorW.PrintMore
def mdS (m : Int) : Int := if m = 2 then 28 else if m = 4 ∨ m = 6 ∨ m = 9 ∨ m = 11 then 30 else 31
def val_monthDays.f (a0 : Int) (a1 : Int) : Option (Int) := if 1 ≤ a1 ∧ a1 ≤ 12 then (if a1 = 2 then (val_isLeap.f 1 a0).bind fun l => some (if l = true then 29 else 28) else some (mdS a1)) else none
set_option maxHeartbeats 8000000 in
set_option maxRecDepth 100000 in
theorem md_1 (y : Int) (w : World) : Calls Tryz.prog 179 #[.int .i64 y, .int .i64 1] w fun e w' => e = .returned (.int .i64 31) ∧ Below w.heap.size w w' := by
  have HB := Aside0.mk (Below.refl w.heap.size w)
  go_enter Tryz.func179, Tryz.ntmps179
  go_wp2_with (first | fail)
  go_ret
  exact ⟨rfl, by repeat (first | exact HB.out | exact below_alloc HB.out _ | refine below_set ?_ (Nat.le_refl _))⟩
set_option maxHeartbeats 8000000 in
set_option maxRecDepth 100000 in
theorem md_2t (y : Int) (w : World) (hl : ∀ W, Calls Tryz.prog 183 #[.int .i64 y] W fun e w' => e = .returned (.bool true) ∧ Below W.heap.size W w') : Calls Tryz.prog 179 #[.int .i64 y, .int .i64 2] w fun e w' => e = .returned (.int .i64 29) ∧ Below w.heap.size w w' := by
  have HB := Aside0.mk (Below.refl w.heap.size w)
  go_enter Tryz.func179, Tryz.ntmps179
  go_wp2_with (first | fail | (go_at_call 183; refine (hl _).mono ?_; rintro e w7 ⟨rfl, hb⟩; have n0_ := Aside0.mk (below_step (by repeat (first | exact HB.out | exact below_alloc HB.out _ | refine below_set ?_ (Nat.le_refl _))) hb); clear HB; have HB := n0_; clear n0_ hb))
  go_ret
  exact ⟨rfl, by repeat (first | exact HB.out | exact below_alloc HB.out _ | refine below_set ?_ (Nat.le_refl _))⟩
set_option maxHeartbeats 8000000 in
set_option maxRecDepth 100000 in
theorem md_2f (y : Int) (w : World) (hl : ∀ W, Calls Tryz.prog 183 #[.int .i64 y] W fun e w' => e = .returned (.bool false) ∧ Below W.heap.size W w') : Calls Tryz.prog 179 #[.int .i64 y, .int .i64 2] w fun e w' => e = .returned (.int .i64 28) ∧ Below w.heap.size w w' := by
  have HB := Aside0.mk (Below.refl w.heap.size w)
  go_enter Tryz.func179, Tryz.ntmps179
  go_wp2_with (first | fail | (go_at_call 183; refine (hl _).mono ?_; rintro e w7 ⟨rfl, hb⟩; have hk7 := blk_below (blk_new w _) hb; have hc7 : w7.cell? ⟨w.heap.size, 1, none⟩ = some (.int .i64 28) := (blk_cell hk7 1).trans rfl; clear hk7; have n0_ := Aside0.mk (below_step (by repeat (first | exact HB.out | exact below_alloc HB.out _ | refine below_set ?_ (Nat.le_refl _))) hb); clear HB; have HB := n0_; clear n0_ hb))
  go_ret
  exact ⟨rfl, by repeat (first | exact HB.out | exact below_alloc HB.out _ | refine below_set ?_ (Nat.le_refl _))⟩
set_option maxHeartbeats 8000000 in
set_option maxRecDepth 100000 in
theorem md_3 (y : Int) (w : World) : Calls Tryz.prog 179 #[.int .i64 y, .int .i64 3] w fun e w' => e = .returned (.int .i64 31) ∧ Below w.heap.size w w' := by
  have HB := Aside0.mk (Below.refl w.heap.size w)
  go_enter Tryz.func179, Tryz.ntmps179
  go_wp2_with (first | fail)
  go_ret
  exact ⟨rfl, by repeat (first | exact HB.out | exact below_alloc HB.out _ | refine below_set ?_ (Nat.le_refl _))⟩
set_option maxHeartbeats 8000000 in
set_option maxRecDepth 100000 in
theorem md_4 (y : Int) (w : World) : Calls Tryz.prog 179 #[.int .i64 y, .int .i64 4] w fun e w' => e = .returned (.int .i64 30) ∧ Below w.heap.size w w' := by
  have HB := Aside0.mk (Below.refl w.heap.size w)
  go_enter Tryz.func179, Tryz.ntmps179
  go_wp2_with (first | fail)
  go_ret
  exact ⟨rfl, by repeat (first | exact HB.out | exact below_alloc HB.out _ | refine below_set ?_ (Nat.le_refl _))⟩
set_option maxHeartbeats 8000000 in
set_option maxRecDepth 100000 in
theorem md_5 (y : Int) (w : World) : Calls Tryz.prog 179 #[.int .i64 y, .int .i64 5] w fun e w' => e = .returned (.int .i64 31) ∧ Below w.heap.size w w' := by
  have HB := Aside0.mk (Below.refl w.heap.size w)
  go_enter Tryz.func179, Tryz.ntmps179
  go_wp2_with (first | fail)
  go_ret
  exact ⟨rfl, by repeat (first | exact HB.out | exact below_alloc HB.out _ | refine below_set ?_ (Nat.le_refl _))⟩
set_option maxHeartbeats 8000000 in
set_option maxRecDepth 100000 in
theorem md_6 (y : Int) (w : World) : Calls Tryz.prog 179 #[.int .i64 y, .int .i64 6] w fun e w' => e = .returned (.int .i64 30) ∧ Below w.heap.size w w' := by
  have HB := Aside0.mk (Below.refl w.heap.size w)
  go_enter Tryz.func179, Tryz.ntmps179
  go_wp2_with (first | fail)
  go_ret
  exact ⟨rfl, by repeat (first | exact HB.out | exact below_alloc HB.out _ | refine below_set ?_ (Nat.le_refl _))⟩
set_option maxHeartbeats 8000000 in
set_option maxRecDepth 100000 in
theorem md_7 (y : Int) (w : World) : Calls Tryz.prog 179 #[.int .i64 y, .int .i64 7] w fun e w' => e = .returned (.int .i64 31) ∧ Below w.heap.size w w' := by
  have HB := Aside0.mk (Below.refl w.heap.size w)
  go_enter Tryz.func179, Tryz.ntmps179
  go_wp2_with (first | fail)
  go_ret
  exact ⟨rfl, by repeat (first | exact HB.out | exact below_alloc HB.out _ | refine below_set ?_ (Nat.le_refl _))⟩
set_option maxHeartbeats 8000000 in
set_option maxRecDepth 100000 in
theorem md_8 (y : Int) (w : World) : Calls Tryz.prog 179 #[.int .i64 y, .int .i64 8] w fun e w' => e = .returned (.int .i64 31) ∧ Below w.heap.size w w' := by
  have HB := Aside0.mk (Below.refl w.heap.size w)
  go_enter Tryz.func179, Tryz.ntmps179
  go_wp2_with (first | fail)
  go_ret
  exact ⟨rfl, by repeat (first | exact HB.out | exact below_alloc HB.out _ | refine below_set ?_ (Nat.le_refl _))⟩
set_option maxHeartbeats 8000000 in
set_option maxRecDepth 100000 in
theorem md_9 (y : Int) (w : World) : Calls Tryz.prog 179 #[.int .i64 y, .int .i64 9] w fun e w' => e = .returned (.int .i64 30) ∧ Below w.heap.size w w' := by
  have HB := Aside0.mk (Below.refl w.heap.size w)
  go_enter Tryz.func179, Tryz.ntmps179
  go_wp2_with (first | fail)
  go_ret
  exact ⟨rfl, by repeat (first | exact HB.out | exact below_alloc HB.out _ | refine below_set ?_ (Nat.le_refl _))⟩
set_option maxHeartbeats 8000000 in
set_option maxRecDepth 100000 in
theorem md_10 (y : Int) (w : World) : Calls Tryz.prog 179 #[.int .i64 y, .int .i64 10] w fun e w' => e = .returned (.int .i64 31) ∧ Below w.heap.size w w' := by
  have HB := Aside0.mk (Below.refl w.heap.size w)
  go_enter Tryz.func179, Tryz.ntmps179
  go_wp2_with (first | fail)
  go_ret
  exact ⟨rfl, by repeat (first | exact HB.out | exact below_alloc HB.out _ | refine below_set ?_ (Nat.le_refl _))⟩
set_option maxHeartbeats 8000000 in
set_option maxRecDepth 100000 in
theorem md_11 (y : Int) (w : World) : Calls Tryz.prog 179 #[.int .i64 y, .int .i64 11] w fun e w' => e = .returned (.int .i64 30) ∧ Below w.heap.size w w' := by
  have HB := Aside0.mk (Below.refl w.heap.size w)
  go_enter Tryz.func179, Tryz.ntmps179
  go_wp2_with (first | fail)
  go_ret
  exact ⟨rfl, by repeat (first | exact HB.out | exact below_alloc HB.out _ | refine below_set ?_ (Nat.le_refl _))⟩
set_option maxHeartbeats 8000000 in
set_option maxRecDepth 100000 in
theorem md_12 (y : Int) (w : World) : Calls Tryz.prog 179 #[.int .i64 y, .int .i64 12] w fun e w' => e = .returned (.int .i64 31) ∧ Below w.heap.size w w' := by
  have HB := Aside0.mk (Below.refl w.heap.size w)
  go_enter Tryz.func179, Tryz.ntmps179
  go_wp2_with (first | fail)
  go_ret
  exact ⟨rfl, by repeat (first | exact HB.out | exact below_alloc HB.out _ | refine below_set ?_ (Nat.le_refl _))⟩
theorem val_monthDays.calls (a0 : Int) (a1 : Int) (r : Int) (w : World) (h : val_monthDays.f a0 a1 = some r) :
    Calls Tryz.prog 179 #[.int .i64 a0, .int .i64 a1] w fun e w' => e = .returned (.int .i64 r) ∧ Below w.heap.size w w' := by
  unfold val_monthDays.f at h
  split at h
  · rename_i hm
    by_cases h2 : a1 = 2
    · subst h2
      rw [if_pos rfl] at h
      obtain ⟨l, hl, h⟩ := Option.bind_eq_some_iff.mp h
      cases l with
      | true => cases h; exact md_2t a0 w (fun W => (val_isLeap.calls 1 a0 true W hl).mono (fun _ _ hx => ⟨hx.1, hx.2.below⟩))
      | false => cases h; exact md_2f a0 w (fun W => (val_isLeap.calls 1 a0 false W hl).mono (fun _ _ hx => ⟨hx.1, hx.2.below⟩))
    rw [if_neg h2] at h
    by_cases h1 : a1 = 1
    · subst h1; cases h; exact md_1 a0 w
    by_cases h3 : a1 = 3
    · subst h3; cases h; exact md_3 a0 w
    by_cases h4 : a1 = 4
    · subst h4; cases h; exact md_4 a0 w
    by_cases h5 : a1 = 5
    · subst h5; cases h; exact md_5 a0 w
    by_cases h6 : a1 = 6
    · subst h6; cases h; exact md_6 a0 w
    by_cases h7 : a1 = 7
    · subst h7; cases h; exact md_7 a0 w
    by_cases h8 : a1 = 8
    · subst h8; cases h; exact md_8 a0 w
    by_cases h9 : a1 = 9
    · subst h9; cases h; exact md_9 a0 w
    by_cases h10 : a1 = 10
    · subst h10; cases h; exact md_10 a0 w
    by_cases h11 : a1 = 11
    · subst h11; cases h; exact md_11 a0 w
    have h12 : a1 = 12 := by omega
    subst h12; cases h; exact md_12 a0 w
  · cases h
end Go.Proofs.YtldpdidlfbphcaaGreatDoor.P
end
section
namespace Go.Proofs.YtldpdidlfbphcaaGreatDoor.P
open Go.RowKit Go.Proofs.YtldpdidlfbphcaaGreatDoorW.PrintWords Go.Proofs.YtldpdidlfbphcaaGreatDoorW.PrintLast Go.Proofs.YtldpdidlfbphcaaGreatDoorW.PrintMore
attribute [local go_sem] max2_int min2_int max_two min_two max_three min_three max_four min_four
mutual
def val_Split.l0 : Nat → Int → Int → Option (Int × Int × Int × Int)
  | 0, _, _ => none
  | k + 1, x0, x6 => (val_yearsDays.f (wrap64 (x6 + 1))).bind fun t562 => (if t562 < x0 then (val_Split.l0 k x0 (wrap64 (x6 + 1))) else ((val_yearsDays.f x6).bind fun t563 => (val_Split.l1 k x6 (wrap64 (x0 - t563)) 1)))
def val_Split.l1 : Nat → Int → Int → Int → Option (Int × Int × Int × Int)
  | 0, _, _, _ => none
  | k + 1, x6, x7, x8 => (val_monthDays.f x6 x8).bind fun t564 => (if x7 > t564 then ((val_monthDays.f x6 x8).bind fun t565 => (val_Split.l1 k x6 (wrap64 (x7 - t565)) (wrap64 (x8 + 1)))) else (some (x6, x8, x7, 0)))
end
def val_Split.f (k : Nat) (a0 : Int) : Option (Int × Int × Int × Int) := (val_isDay.f a0).bind fun t561 => (if t561 = true then (if a0 = 0 then (some (0, 0, 0, 0)) else (val_Split.l0 k a0 (wrap64 ((wrap64 (Int.tdiv a0 366)) + 1)))) else (some (0, 0, 0, 1)))
theorem val_Split.mono_l : ∀ k, (∀ y0 y1, LeO (val_Split.l0 k y0 y1) (val_Split.l0 (k + 1) y0 y1)) ∧ (∀ y0 y1 y2, LeO (val_Split.l1 k y0 y1 y2) (val_Split.l1 (k + 1) y0 y1 y2))
  | 0 => ⟨fun _ _ r h => by simp [val_Split.l0] at h, fun _ _ _ r h => by simp [val_Split.l1] at h⟩
  | k + 1 => by
    obtain ⟨ih0, ih1⟩ := val_Split.mono_l k
    refine ⟨?_, ?_⟩
    · intro y0 y1
      unfold val_Split.l0
      repeat' first
      | (with_reducible exact ih0 _ _)
      | (with_reducible exact ih1 _ _ _)
      | (with_reducible exact LeO.refl _)
      | (with_reducible exact LeO.none _)
      | (with_reducible refine LeO.ite ?_ ?_)
      | (with_reducible refine LeO.bind ?_ (fun _ => ?_))
      | exact ih0 _ _
      | exact ih1 _ _ _
      | exact LeO.none _
      | refine LeO.ite ?_ ?_
      | refine LeO.bind ?_ (fun _ => ?_)
    · intro y0 y1 y2
      unfold val_Split.l1
      repeat' first
      | (with_reducible exact ih0 _ _)
      | (with_reducible exact ih1 _ _ _)
      | (with_reducible exact LeO.refl _)
      | (with_reducible exact LeO.none _)
      | (with_reducible refine LeO.ite ?_ ?_)
      | (with_reducible refine LeO.bind ?_ (fun _ => ?_))
      | exact ih0 _ _
      | exact ih1 _ _ _
      | exact LeO.none _
      | refine LeO.ite ?_ ?_
      | refine LeO.bind ?_ (fun _ => ?_)
theorem val_Split.mono : ∀ a0 k, LeO (val_Split.f k a0) (val_Split.f (k + 1) a0) := by
  intro a0 k
  obtain ⟨ih0, ih1⟩ := val_Split.mono_l k
  unfold val_Split.f
  repeat' first
      | (with_reducible exact ih0 _ _)
      | (with_reducible exact ih1 _ _ _)
      | (with_reducible exact LeO.refl _)
      | (with_reducible exact LeO.none _)
      | (with_reducible refine LeO.ite ?_ ?_)
      | (with_reducible refine LeO.bind ?_ (fun _ => ?_))
      | exact ih0 _ _
      | exact ih1 _ _ _
      | exact LeO.none _
      | refine LeO.ite ?_ ?_
      | refine LeO.bind ?_ (fun _ => ?_)
set_option maxHeartbeats 8000000 in
set_option maxRecDepth 100000 in
theorem val_Split.calls (k : Nat) (a0 : Int) (r1 : Int) (r2 : Int) (r3 : Int) (r4 : Int) (w : World) (h : val_Split.f k a0 = some (r1, r2, r3, r4)) :
    Calls Tryz.prog 177 #[.int .i64 a0] w fun e w' => e = .returned (.tuple #[.int .i64 r1, .int .i64 r2, .int .i64 r3, .int .i64 r4]) ∧ Below w.heap.size w w' := by
  have HB := Aside0.mk (Below.refl w.heap.size w)
  have H : ((val_isDay.f a0).bind fun t561 => (if t561 = true then (if a0 = 0 then (some (0, 0, 0, 0)) else (val_Split.l0 k a0 (wrap64 ((wrap64 (Int.tdiv a0 366)) + 1)))) else (some (0, 0, 0, 1)))) = some (r1, r2, r3, r4) := h
  clear h
  replace H := Option.bind_eq_some_iff.mp H
  obtain ⟨t561, A20, H⟩ := H
  replace H : (if t561 = true then (if a0 = 0 then (some (0, 0, 0, 0)) else (val_Split.l0 k a0 (wrap64 ((wrap64 (Int.tdiv a0 366)) + 1)))) else (some (0, 0, 0, 1))) = some (r1, r2, r3, r4) := H
  have A2 := Aside0.mk A20
  clear A20
  by_cases c3 : t561 = true
  · subst c3
    have H1 : (if a0 = 0 then (some (0, 0, 0, 0)) else (val_Split.l0 k a0 (wrap64 ((wrap64 (Int.tdiv a0 366)) + 1)))) = some (r1, r2, r3, r4) := by rw [if_pos rfl] at H; exact H
    clear H
    have H := H1
    clear H1
    by_cases c4 : a0 = 0
    · rw [if_pos c4] at H
      have c4b0 : (a0 == 0) = true := beq_iff_eq.mpr c4
      have c4b1 : (a0 != 0) = false := bne_eq_false_iff_eq.mpr c4
      clear c4
      simp only [Option.some.injEq, Prod.mk.injEq] at H
      obtain ⟨rfl, rfl, rfl, rfl⟩ := H
      go_enter Tryz.func177, Tryz.ntmps177
      go_wp2_with (first | ((with_reducible refine gate_callee (f := 136) rfl ?_); refine goesL_ (some 10) rfl rfl Tryz.func136 (by kernel_rfl) rfl #[.int .i64 a0] rfl (by (try simp only [List.map_toArray, List.map_cons, List.map_nil]); first | done | rfl) ?_; (with_reducible refine (val_isDay.calls a0 true _ A2.out).mono ?_); rintro e w' ⟨rfl, ⟨nd, rfl⟩⟩; refine ⟨_, rfl, ?_⟩))
      refine bodyPost_ret (results_list (rs := [.tmp 2, .tmp 3, .tmp 4, .tmp 5]) rfl (by simp) (.tmp (.tmp (.tmp (.tmp .nil))))) rfl ?_
      exact ⟨rfl, by repeat (first | (with_reducible first | exact HB.out | apply below_alloc | apply pw_below_drewN | apply below_drew1) | exact HB.out)⟩
    · rw [if_neg c4] at H
      have c4b0 : (a0 == 0) = false := beq_eq_false_iff_ne.mpr c4
      have c4b1 : (a0 != 0) = true := bne_iff_ne.mpr c4
      have H' := Aside0.mk H
      clear H
      go_enter Tryz.func177, Tryz.ntmps177
      go_wp2_with (first | ((with_reducible refine gate_callee (f := 136) rfl ?_); refine goesL_ (some 10) rfl rfl Tryz.func136 (by kernel_rfl) rfl #[.int .i64 a0] rfl (by (try simp only [List.map_toArray, List.map_cons, List.map_nil]); first | done | rfl) ?_; (with_reducible refine (val_isDay.calls a0 true _ A2.out).mono ?_); rintro e w' ⟨rfl, ⟨nd, rfl⟩⟩; refine ⟨_, rfl, ?_⟩))
      go_loopg [6] k (fun kq v6 w' => ∃ (x6_1 : Int), v6 = .int .i64 x6_1 ∧ Aside0 (val_Split.l0 kq a0 x6_1 = some (r1, r2, r3, r4)) ∧ Aside0 (kq ≤ k) ∧ Aside0 (Below w.heap.size w w'))
      case atStart => exact ⟨(wrap64 ((wrap64 (Int.tdiv a0 366)) + 1)), (by first | rfl | (simp; done) | (simp [*]; done)), H', ⟨Nat.le_refl _⟩, ⟨by repeat (first | (with_reducible first | exact HB.out | apply below_alloc | apply pw_below_drewN | apply below_drew1) | exact HB.out)⟩⟩
      case round =>
        clear H'
        (try clear c1);(try clear p2);(try clear c3);(try clear c4);(try clear c4b0);(try clear c4b1)
        obtain ⟨x6_1, rfl, HA, HK1, HB⟩ := hrel
        cases gk with
        | zero => exact absurd HA.out (by simp [val_Split.l0])
        | succ k1 =>
          have H := HA.out
          clear HA
          simp only [val_Split.l0] at H
          replace H := Option.bind_eq_some_iff.mp H
          obtain ⟨t562, A50, H⟩ := H
          replace H : (if t562 < a0 then (val_Split.l0 k1 a0 (wrap64 (x6_1 + 1))) else ((val_yearsDays.f x6_1).bind fun t563 => (val_Split.l1 k1 x6_1 (wrap64 (a0 - t563)) 1))) = some (r1, r2, r3, r4) := H
          have A5 := Aside0.mk A50
          clear A50
          by_cases c6 : t562 < a0
          · rw [if_pos c6] at H
            have c6b0 : decide (t562 < a0) = true := decide_eq_true c6
            clear c6
            have H' := Aside0.mk H
            clear H
            go_wp2_with (first | ((with_reducible refine gate_callee (f := 180) rfl ?_); refine goesL_ (some 19) rfl rfl Tryz.func180 (by kernel_rfl) rfl #[.int .i64 (wrap64 (x6_1 + 1))] rfl (by (try simp only [List.map_toArray, List.map_cons, List.map_nil]); first | done | rfl) ?_; (with_reducible refine (val_yearsDays.calls (wrap64 (x6_1 + 1)) t562 _ A5.out).mono ?_); rintro e w' ⟨rfl, ⟨nd, rfl⟩⟩; refine ⟨_, rfl, ?_⟩))
            go_roundg k1
            case measure => have := HK1.out; omega
            case rel => exact ⟨(wrap64 (x6_1 + 1)), (by first | rfl | (simp; done) | (simp [*]; done)), H', ⟨by have := HK1.out; omega⟩, ⟨by repeat (first | (with_reducible first | exact HB.out | apply below_alloc | apply pw_below_drewN | apply below_drew1) | exact HB.out)⟩⟩
          · rw [if_neg c6] at H
            have c6b0 : decide (t562 < a0) = false := decide_eq_false c6
            clear c6
            replace H := Option.bind_eq_some_iff.mp H
            obtain ⟨t563, A70, H⟩ := H
            replace H : (val_Split.l1 k1 x6_1 (wrap64 (a0 - t563)) 1) = some (r1, r2, r3, r4) := H
            have A7 := Aside0.mk A70
            clear A70
            have H' := Aside0.mk H
            clear H
            go_wp2_with (first | ((with_reducible refine gate_callee (f := 180) rfl ?_); refine goesL_ (some 19) rfl rfl Tryz.func180 (by kernel_rfl) rfl #[.int .i64 (wrap64 (x6_1 + 1))] rfl (by (try simp only [List.map_toArray, List.map_cons, List.map_nil]); first | done | rfl) ?_; (with_reducible refine (val_yearsDays.calls (wrap64 (x6_1 + 1)) t562 _ A5.out).mono ?_); rintro e w' ⟨rfl, ⟨nd, rfl⟩⟩; refine ⟨_, rfl, ?_⟩) | ((with_reducible refine gate_callee (f := 180) rfl ?_); refine goesL_ (some 26) rfl rfl Tryz.func180 (by kernel_rfl) rfl #[.int .i64 x6_1] rfl (by (try simp only [List.map_toArray, List.map_cons, List.map_nil]); first | done | rfl) ?_; (with_reducible refine (val_yearsDays.calls x6_1 t563 _ A7.out).mono ?_); rintro e w' ⟨rfl, ⟨nd, rfl⟩⟩; refine ⟨_, rfl, ?_⟩))
            go_loopg [7, 8] k1 (fun kq v7 v8 w' => ∃ (x7_2 : Int) (x8_2 : Int), v7 = .int .i64 x7_2 ∧ v8 = .int .i64 x8_2 ∧ Aside0 (val_Split.l1 kq x6_1 x7_2 x8_2 = some (r1, r2, r3, r4)) ∧ Aside0 (kq ≤ k1) ∧ Aside0 (Below w.heap.size w w'))
            case atStart => exact ⟨(wrap64 (a0 - t563)), (1), (by first | rfl | (simp; done) | (simp [*]; done)), (by first | rfl | (simp; done) | (simp [*]; done)), H', ⟨Nat.le_refl _⟩, ⟨by repeat (first | (with_reducible first | exact HB.out | apply below_alloc | apply pw_below_drewN | apply below_drew1) | exact HB.out)⟩⟩
            case round =>
              clear H'
              (try clear c1);(try clear p2);(try clear c3);(try clear c4);(try clear c4b0);(try clear c4b1);(try clear c6);(try clear c6b0);(try clear p6);(try clear p2)
              obtain ⟨x7_2, x8_2, rfl, rfl, HA, HK2, HB⟩ := hrel
              cases gk with
              | zero => exact absurd HA.out (by simp [val_Split.l1])
              | succ k2 =>
                have H := HA.out
                clear HA
                simp only [val_Split.l1] at H
                replace H := Option.bind_eq_some_iff.mp H
                obtain ⟨t564, A80, H⟩ := H
                replace H : (if x7_2 > t564 then ((val_monthDays.f x6_1 x8_2).bind fun t565 => (val_Split.l1 k2 x6_1 (wrap64 (x7_2 - t565)) (wrap64 (x8_2 + 1)))) else (some (x6_1, x8_2, x7_2, 0))) = some (r1, r2, r3, r4) := H
                have A8 := Aside0.mk A80
                clear A80
                by_cases c9 : x7_2 > t564
                · rw [if_pos c9] at H
                  have c9b0 : decide (t564 < x7_2) = true := decide_eq_true c9
                  clear c9
                  replace H := Option.bind_eq_some_iff.mp H
                  obtain ⟨t565, A100, H⟩ := H
                  replace H : (val_Split.l1 k2 x6_1 (wrap64 (x7_2 - t565)) (wrap64 (x8_2 + 1))) = some (r1, r2, r3, r4) := H
                  have A10 := Aside0.mk A100
                  clear A100
                  have H' := Aside0.mk H
                  clear H
                  go_wp2_with (first | ((with_reducible refine gate_callee (f := 179) rfl ?_); refine goesL_ (some 31) rfl rfl Tryz.func179 (by kernel_rfl) rfl #[.int .i64 x6_1, .int .i64 x8_2] rfl (by (try simp only [List.map_toArray, List.map_cons, List.map_nil]); first | done | rfl) ?_; (with_reducible refine (val_monthDays.calls x6_1 x8_2 t564 _ A8.out).mono ?_); rintro e w11 ⟨rfl, hb⟩; refine ⟨_, rfl, ?_⟩; have n0_ := Aside0.mk (below_step HB.out hb); clear HB; have HB := n0_; clear n0_; (try clear hb); (try clear hb2); (try clear hk); (try clear hi)) | ((with_reducible refine gate_callee (f := 179) rfl ?_); refine goesL_ (some 36) rfl rfl Tryz.func179 (by kernel_rfl) rfl #[.int .i64 x6_1, .int .i64 x8_2] rfl (by (try simp only [List.map_toArray, List.map_cons, List.map_nil]); first | done | rfl) ?_; (with_reducible refine (val_monthDays.calls x6_1 x8_2 t565 _ A10.out).mono ?_); rintro e w12 ⟨rfl, hb⟩; refine ⟨_, rfl, ?_⟩; have n0_ := Aside0.mk (below_step HB.out hb); clear HB; have HB := n0_; clear n0_; (try clear hb); (try clear hb2); (try clear hk); (try clear hi)))
                  go_roundg k2
                  case measure => have := HK1.out; have := HK2.out; omega
                  case rel => exact ⟨(wrap64 (x7_2 - t565)), (wrap64 (x8_2 + 1)), (by first | rfl | (simp; done) | (simp [*]; done)), (by first | rfl | (simp; done) | (simp [*]; done)), H', ⟨by have := HK1.out; have := HK2.out; omega⟩, ⟨by repeat (first | (with_reducible first | exact HB.out | apply below_alloc | apply pw_below_drewN | apply below_drew1) | exact HB.out)⟩⟩
                · rw [if_neg c9] at H
                  have c9b0 : decide (t564 < x7_2) = false := decide_eq_false c9
                  clear c9
                  simp only [Option.some.injEq, Prod.mk.injEq] at H
                  obtain ⟨rfl, rfl, rfl, rfl⟩ := H
                  go_wp2_with (first | ((with_reducible refine gate_callee (f := 179) rfl ?_); refine goesL_ (some 31) rfl rfl Tryz.func179 (by kernel_rfl) rfl #[.int .i64 x6_1, .int .i64 x8_2] rfl (by (try simp only [List.map_toArray, List.map_cons, List.map_nil]); first | done | rfl) ?_; (with_reducible refine (val_monthDays.calls x6_1 x8_2 t564 _ A8.out).mono ?_); rintro e w13 ⟨rfl, hb⟩; refine ⟨_, rfl, ?_⟩; have n0_ := Aside0.mk (below_step HB.out hb); clear HB; have HB := n0_; clear n0_; (try clear hb); (try clear hb2); (try clear hk); (try clear hi)))
                  refine bodyPost_ret (results_list (rs := [.tmp 2, .tmp 3, .tmp 4, .tmp 5]) rfl (by simp) (.tmp (.tmp (.tmp (.tmp .nil))))) rfl ?_
                  exact ⟨rfl, by repeat (first | (with_reducible first | exact HB.out | apply below_alloc | apply pw_below_drewN | apply below_drew1) | exact HB.out)⟩
  · replace c3 := Bool.eq_false_iff.mpr c3
    subst c3
    have H1 : (some (0, 0, 0, 1)) = some (r1, r2, r3, r4) := by rw [if_neg (show ¬ (false = true) by decide)] at H; exact H
    clear H
    have H := H1
    clear H1
    simp only [Option.some.injEq, Prod.mk.injEq] at H
    obtain ⟨rfl, rfl, rfl, rfl⟩ := H
    go_enter Tryz.func177, Tryz.ntmps177
    go_wp2_with (first | ((with_reducible refine gate_callee (f := 136) rfl ?_); refine goesL_ (some 10) rfl rfl Tryz.func136 (by kernel_rfl) rfl #[.int .i64 a0] rfl (by (try simp only [List.map_toArray, List.map_cons, List.map_nil]); first | done | rfl) ?_; (with_reducible refine (val_isDay.calls a0 false _ A2.out).mono ?_); rintro e w' ⟨rfl, ⟨nd, rfl⟩⟩; refine ⟨_, rfl, ?_⟩))
    refine bodyPost_ret (results_list (rs := [.tmp 2, .tmp 3, .tmp 4, .tmp 5]) rfl (by simp) (.tmp (.tmp (.tmp (.tmp .nil))))) rfl ?_
    exact ⟨rfl, by repeat (first | (with_reducible first | exact HB.out | apply below_alloc | apply pw_below_drewN | apply below_drew1) | exact HB.out)⟩
end Go.Proofs.YtldpdidlfbphcaaGreatDoor.P
end
section
namespace Go.Proofs.YtldpdidlfbphcaaGreatDoor.P
open Go.RowKit Go.Proofs.YtldpdidlfbphcaaGreatDoorW.PrintWords Go.Proofs.YtldpdidlfbphcaaGreatDoorW.PrintLast Go.Proofs.YtldpdidlfbphcaaGreatDoorW.PrintMore
attribute [local go_sem] max2_int min2_int max_two min_two max_three min_three max_four min_four
def val_padded.f (a0 : Int) (a1 : Int) : Option (ByteArray) := (val_decimal.f a0).bind fun t566 => ((strings_Repeat.f (⟨#[48]⟩ : ByteArray) (wrap64 (a1 - (t566.size : Int)))).bind fun t567 => (if t567.size + t566.size ≤ 9223372036854775807 then (some (t567 ++ t566)) else (none)))
set_option maxHeartbeats 8000000 in
set_option maxRecDepth 100000 in
theorem val_padded.calls (a0 : Int) (a1 : Int) (r : ByteArray) (w : World) (h : val_padded.f a0 a1 = some r) :
    Calls Tryz.prog 178 #[.int .i64 a0, .int .i64 a1] w fun e w' => e = .returned (.string r) ∧ Below w.heap.size w w' := by
  have HB := Aside0.mk (Below.refl w.heap.size w)
  have H : ((val_decimal.f a0).bind fun t566 => ((strings_Repeat.f (⟨#[48]⟩ : ByteArray) (wrap64 (a1 - (t566.size : Int)))).bind fun t567 => (if t567.size + t566.size ≤ 9223372036854775807 then (some (t567 ++ t566)) else (none)))) = some r := h
  clear h
  replace H := Option.bind_eq_some_iff.mp H
  obtain ⟨t566, A30, H⟩ := H
  replace H : ((strings_Repeat.f (⟨#[48]⟩ : ByteArray) (wrap64 (a1 - (t566.size : Int)))).bind fun t567 => (if t567.size + t566.size ≤ 9223372036854775807 then (some (t567 ++ t566)) else (none))) = some r := H
  have A3 := Aside0.mk A30
  clear A30
  replace H := Option.bind_eq_some_iff.mp H
  obtain ⟨t567, A40, H⟩ := H
  replace H : (if t567.size + t566.size ≤ 9223372036854775807 then (some (t567 ++ t566)) else (none)) = some r := H
  have A4 := Aside0.mk A40
  clear A40
  by_cases c5 : t567.size + t566.size ≤ 9223372036854775807
  · rw [if_pos c5] at H
    have c5b0 := eq_true c5
    have c5b1 : decide (t567.size + t566.size ≤ 9223372036854775807) = true := decide_eq_true c5
    try have c5b2 : (9223372036854775807 < t567.size + t566.size) = False := eq_false (Nat.not_lt.2 c5)
    obtain rfl := Option.some.inj H
    go_enter Tryz.func178, Tryz.ntmps178
    go_wp2_with (first | ((with_reducible refine gate_callee (f := 98) rfl ?_); refine goesL_ (some 7) rfl rfl Tryz.func98 (by kernel_rfl) rfl #[.int .i64 a0] rfl (by (try simp only [List.map_toArray, List.map_cons, List.map_nil]); first | done | rfl | (simp only [List.length_drop, List.length_take]; rfl)) ?_; (with_reducible refine (val_decimal.calls a0 t566 _ A3.out).mono ?_); rintro e w6 ⟨rfl, hb⟩; refine ⟨_, rfl, ?_⟩; have n0_ := Aside0.mk (below_step (by repeat (first | (with_reducible first | exact HB.out | apply below_alloc | apply pw_below_drewN | apply below_drew1) | exact HB.out)) hb); clear HB; have HB := n0_; clear n0_; (try clear hb); (try clear hb2); (try clear hk); (try clear hi)) | ((with_reducible refine gate_callee (f := 99) rfl ?_); refine goesL_ (some 12) rfl rfl Tryz.func99 (by kernel_rfl) rfl #[.string (⟨#[48]⟩ : ByteArray), .int .i64 (wrap64 (a1 - (t566.size : Int)))] rfl (by (try simp only [List.map_toArray, List.map_cons, List.map_nil]); first | done | rfl | (simp only [List.length_drop, List.length_take]; rfl)) ?_; (with_reducible refine (strings_Repeat.calls (⟨#[48]⟩ : ByteArray) (wrap64 (a1 - (t566.size : Int))) t567 _ A4.out).mono ?_); rintro e w7 ⟨rfl, hb⟩; refine ⟨_, rfl, ?_⟩; have n0_ := Aside0.mk (below_step (by repeat (first | (with_reducible first | exact HB.out | apply below_alloc | apply pw_below_drewN | apply below_drew1) | exact HB.out)) hb); clear HB; have HB := n0_; clear n0_; (try clear hb); (try clear hb2); (try clear hk); (try clear hi)))
    go_ret
    exact ⟨by first | rfl | (simp [errW_none, errW_some] <;> rfl) | (simp [*, errW_none, errW_some] <;> rfl), by repeat (first | (with_reducible first | exact HB.out | apply below_alloc | apply pw_below_drewN | apply below_drew1) | exact HB.out)⟩
  · rw [if_neg c5] at H
    exact absurd H (by simp)
end Go.Proofs.YtldpdidlfbphcaaGreatDoor.P
end
section
namespace Go.Proofs.YtldpdidlfbphcaaGreatDoor.P
open Go.RowKit Go.Proofs.YtldpdidlfbphcaaGreatDoorW.PrintWords Go.Proofs.YtldpdidlfbphcaaGreatDoorW.PrintLast Go.Proofs.YtldpdidlfbphcaaGreatDoorW.PrintMore
attribute [local go_sem] max2_int min2_int max_two min_two max_three min_three max_four min_four
def val_stamp.f (k : Nat) (a0 : Int) : Option (ByteArray) := (val_Split.f k a0).bind fun bt561 => ((val_padded.f bt561.1 4).bind fun t565 => ((val_padded.f bt561.2.1 2).bind fun t566 => (if t565.size + t566.size ≤ 9223372036854775807 then ((val_padded.f bt561.2.2.1 2).bind fun t567 => (if (t565 ++ t566).size + t567.size ≤ 9223372036854775807 then (some ((t565 ++ t566) ++ t567)) else (none))) else (none))))
theorem val_stamp.mono : ∀ a0 k, LeO (val_stamp.f k a0) (val_stamp.f (k + 1) a0) := by
  intro a0 k
  unfold val_stamp.f
  repeat' first
      | (with_reducible exact val_Split.mono _ _)
      | (with_reducible exact LeO.refl _)
      | (with_reducible exact LeO.none _)
      | (with_reducible refine LeO.ite ?_ ?_)
      | (with_reducible refine LeO.bind ?_ (fun _ => ?_))
      | exact val_Split.mono _ _
      | exact LeO.none _
      | refine LeO.ite ?_ ?_
      | refine LeO.bind ?_ (fun _ => ?_)
set_option maxHeartbeats 8000000 in
set_option maxRecDepth 100000 in
theorem val_stamp.calls (k : Nat) (a0 : Int) (r : ByteArray) (w : World) (h : val_stamp.f k a0 = some r) :
    Calls Tryz.prog 167 #[.int .i64 a0] w fun e w' => e = .returned (.string r) ∧ Below w.heap.size w w' := by
  have HB := Aside0.mk (Below.refl w.heap.size w)
  have H : ((val_Split.f k a0).bind fun bt561 => ((val_padded.f bt561.1 4).bind fun t565 => ((val_padded.f bt561.2.1 2).bind fun t566 => (if t565.size + t566.size ≤ 9223372036854775807 then ((val_padded.f bt561.2.2.1 2).bind fun t567 => (if (t565 ++ t566).size + t567.size ≤ 9223372036854775807 then (some ((t565 ++ t566) ++ t567)) else (none))) else (none))))) = some r := h
  clear h
  replace H := Option.bind_eq_some_iff.mp H
  obtain ⟨⟨t561, t562, t563, t564⟩, A20, H⟩ := H
  replace H : ((val_padded.f t561 4).bind fun t565 => ((val_padded.f t562 2).bind fun t566 => (if t565.size + t566.size ≤ 9223372036854775807 then ((val_padded.f t563 2).bind fun t567 => (if (t565 ++ t566).size + t567.size ≤ 9223372036854775807 then (some ((t565 ++ t566) ++ t567)) else (none))) else (none)))) = some r := H
  have A2 := Aside0.mk A20
  clear A20
  replace H := Option.bind_eq_some_iff.mp H
  obtain ⟨t565, A30, H⟩ := H
  replace H : ((val_padded.f t562 2).bind fun t566 => (if t565.size + t566.size ≤ 9223372036854775807 then ((val_padded.f t563 2).bind fun t567 => (if (t565 ++ t566).size + t567.size ≤ 9223372036854775807 then (some ((t565 ++ t566) ++ t567)) else (none))) else (none))) = some r := H
  have A3 := Aside0.mk A30
  clear A30
  replace H := Option.bind_eq_some_iff.mp H
  obtain ⟨t566, A40, H⟩ := H
  replace H : (if t565.size + t566.size ≤ 9223372036854775807 then ((val_padded.f t563 2).bind fun t567 => (if (t565 ++ t566).size + t567.size ≤ 9223372036854775807 then (some ((t565 ++ t566) ++ t567)) else (none))) else (none)) = some r := H
  have A4 := Aside0.mk A40
  clear A40
  by_cases c5 : t565.size + t566.size ≤ 9223372036854775807
  · rw [if_pos c5] at H
    have c5b0 := eq_true c5
    have c5b1 : decide (t565.size + t566.size ≤ 9223372036854775807) = true := decide_eq_true c5
    try have c5b2 : (9223372036854775807 < t565.size + t566.size) = False := eq_false (Nat.not_lt.2 c5)
    replace H := Option.bind_eq_some_iff.mp H
    obtain ⟨t567, A60, H⟩ := H
    replace H : (if (t565 ++ t566).size + t567.size ≤ 9223372036854775807 then (some ((t565 ++ t566) ++ t567)) else (none)) = some r := H
    have A6 := Aside0.mk A60
    clear A60
    by_cases c7 : (t565 ++ t566).size + t567.size ≤ 9223372036854775807
    · rw [if_pos c7] at H
      have c7b0 := eq_true c7
      have c7b1 : decide ((t565 ++ t566).size + t567.size ≤ 9223372036854775807) = true := decide_eq_true c7
      try have c7b2 : (9223372036854775807 < (t565 ++ t566).size + t567.size) = False := eq_false (Nat.not_lt.2 c7)
      have c7b3 : (9223372036854775807 < t565.size + t566.size + t567.size) = False := eq_false (by rw [ByteArray.size_append] at c7; omega)
      obtain rfl := Option.some.inj H
      go_enter Tryz.func167, Tryz.ntmps167
      go_wp2_with (first | ((with_reducible refine gate_callee (f := 177) rfl ?_); refine goesL_ (some 9) rfl rfl Tryz.func177 (by kernel_rfl) rfl #[.int .i64 a0] rfl (by (try simp only [List.map_toArray, List.map_cons, List.map_nil]); first | done | rfl) ?_; (with_reducible refine (val_Split.calls k a0 t561 t562 t563 t564 _ A2.out).mono ?_); rintro e w8 ⟨rfl, hb⟩; refine ⟨_, rfl, ?_⟩; have n0_ := Aside0.mk (below_step HB.out hb); clear HB; have HB := n0_; clear n0_; (try clear hb); (try clear hb2); (try clear hk); (try clear hi)) | ((with_reducible refine gate_callee (f := 178) rfl ?_); refine goesL_ (some 15) rfl rfl Tryz.func178 (by kernel_rfl) rfl #[.int .i64 t561, .int .i64 4] rfl (by (try simp only [List.map_toArray, List.map_cons, List.map_nil]); first | done | rfl) ?_; (with_reducible refine (val_padded.calls t561 4 t565 _ A3.out).mono ?_); rintro e w9 ⟨rfl, hb⟩; refine ⟨_, rfl, ?_⟩; have n0_ := Aside0.mk (below_step HB.out hb); clear HB; have HB := n0_; clear n0_; (try clear hb); (try clear hb2); (try clear hk); (try clear hi)) | ((with_reducible refine gate_callee (f := 178) rfl ?_); refine goesL_ (some 17) rfl rfl Tryz.func178 (by kernel_rfl) rfl #[.int .i64 t562, .int .i64 2] rfl (by (try simp only [List.map_toArray, List.map_cons, List.map_nil]); first | done | rfl) ?_; (with_reducible refine (val_padded.calls t562 2 t566 _ A4.out).mono ?_); rintro e w10 ⟨rfl, hb⟩; refine ⟨_, rfl, ?_⟩; have n0_ := Aside0.mk (below_step HB.out hb); clear HB; have HB := n0_; clear n0_; (try clear hb); (try clear hb2); (try clear hk); (try clear hi)) | ((with_reducible refine gate_callee (f := 178) rfl ?_); refine goesL_ (some 20) rfl rfl Tryz.func178 (by kernel_rfl) rfl #[.int .i64 t563, .int .i64 2] rfl (by (try simp only [List.map_toArray, List.map_cons, List.map_nil]); first | done | rfl) ?_; (with_reducible refine (val_padded.calls t563 2 t567 _ A6.out).mono ?_); rintro e w11 ⟨rfl, hb⟩; refine ⟨_, rfl, ?_⟩; have n0_ := Aside0.mk (below_step HB.out hb); clear HB; have HB := n0_; clear n0_; (try clear hb); (try clear hb2); (try clear hk); (try clear hi)))
      go_ret
      exact ⟨rfl, by repeat (first | (with_reducible first | exact HB.out | apply below_alloc | apply pw_below_drewN | apply below_drew1) | exact HB.out)⟩
    · rw [if_neg c7] at H
      exact absurd H (by simp)
  · rw [if_neg c5] at H
    exact absurd H (by simp)
end Go.Proofs.YtldpdidlfbphcaaGreatDoor.P
end
section
namespace Go.Proofs.YtldpdidlfbphcaaGreatDoor.P
open Go.RowKit Go.Proofs.YtldpdidlfbphcaaGreatDoorW.PrintWords Go.Proofs.YtldpdidlfbphcaaGreatDoorW.PrintLast Go.Proofs.YtldpdidlfbphcaaGreatDoorW.PrintMore
attribute [local go_sem] max2_int min2_int max_two min_two max_three min_three max_four min_four
def val_Stamp.f (k : Nat) (a0 : Int) : Option (ByteArray × Int) := (val_isDay.f a0).bind fun t554 => (if t554 = true then (if a0 = 0 then (some ((⟨#[32, 32, 32, 32, 32, 32, 32, 32]⟩ : ByteArray), 0)) else ((val_stamp.f k a0).bind fun t555 => (some (t555, 0)))) else (some ((⟨#[]⟩ : ByteArray), 1)))
theorem val_Stamp.mono : ∀ a0 k, LeO (val_Stamp.f k a0) (val_Stamp.f (k + 1) a0) := by
  intro a0 k
  unfold val_Stamp.f
  repeat' first
      | (with_reducible exact val_stamp.mono _ _)
      | (with_reducible exact LeO.refl _)
      | (with_reducible exact LeO.none _)
      | (with_reducible refine LeO.ite ?_ ?_)
      | (with_reducible refine LeO.bind ?_ (fun _ => ?_))
      | exact val_stamp.mono _ _
      | exact LeO.none _
      | refine LeO.ite ?_ ?_
      | refine LeO.bind ?_ (fun _ => ?_)
set_option maxHeartbeats 8000000 in
set_option maxRecDepth 100000 in
theorem val_Stamp.calls (k : Nat) (a0 : Int) (r1 : ByteArray) (r2 : Int) (w : World) (h : val_Stamp.f k a0 = some (r1, r2)) :
    Calls Tryz.prog 156 #[.int .i64 a0] w fun e w' => e = .returned (.tuple #[.string r1, .int .i64 r2]) ∧ Below w.heap.size w w' := by
  have HB := Aside0.mk (Below.refl w.heap.size w)
  have H : ((val_isDay.f a0).bind fun t554 => (if t554 = true then (if a0 = 0 then (some ((⟨#[32, 32, 32, 32, 32, 32, 32, 32]⟩ : ByteArray), 0)) else ((val_stamp.f k a0).bind fun t555 => (some (t555, 0)))) else (some ((⟨#[]⟩ : ByteArray), 1)))) = some (r1, r2) := h
  clear h
  replace H := Option.bind_eq_some_iff.mp H
  obtain ⟨t554, A20, H⟩ := H
  replace H : (if t554 = true then (if a0 = 0 then (some ((⟨#[32, 32, 32, 32, 32, 32, 32, 32]⟩ : ByteArray), 0)) else ((val_stamp.f k a0).bind fun t555 => (some (t555, 0)))) else (some ((⟨#[]⟩ : ByteArray), 1))) = some (r1, r2) := H
  have A2 := Aside0.mk A20
  clear A20
  by_cases c3 : t554 = true
  · subst c3
    have H1 : (if a0 = 0 then (some ((⟨#[32, 32, 32, 32, 32, 32, 32, 32]⟩ : ByteArray), 0)) else ((val_stamp.f k a0).bind fun t555 => (some (t555, 0)))) = some (r1, r2) := by rw [if_pos rfl] at H; exact H
    clear H
    have H := H1
    clear H1
    by_cases c4 : a0 = 0
    · rw [if_pos c4] at H
      have c4b0 : (a0 == 0) = true := beq_iff_eq.mpr c4
      have c4b1 : (a0 != 0) = false := bne_eq_false_iff_eq.mpr c4
      clear c4
      simp only [Option.some.injEq, Prod.mk.injEq] at H
      obtain ⟨rfl, rfl⟩ := H
      go_enter Tryz.func156, Tryz.ntmps156
      go_wp2_with (first | ((with_reducible refine gate_callee (f := 136) rfl ?_); refine goesL_ (some 5) rfl rfl Tryz.func136 (by kernel_rfl) rfl #[.int .i64 a0] rfl (by (try simp only [List.map_toArray, List.map_cons, List.map_nil]); first | done | rfl) ?_; (with_reducible refine (val_isDay.calls a0 true _ A2.out).mono ?_); rintro e w' ⟨rfl, ⟨nd, rfl⟩⟩; refine ⟨_, rfl, ?_⟩))
      go_ret2
      exact ⟨rfl, by repeat (first | (with_reducible first | exact HB.out | apply below_alloc | apply pw_below_drewN | apply below_drew1) | exact HB.out)⟩
    · rw [if_neg c4] at H
      have c4b0 : (a0 == 0) = false := beq_eq_false_iff_ne.mpr c4
      have c4b1 : (a0 != 0) = true := bne_iff_ne.mpr c4
      replace H := Option.bind_eq_some_iff.mp H
      obtain ⟨t555, A50, H⟩ := H
      replace H : (some (t555, 0)) = some (r1, r2) := H
      have A5 := Aside0.mk A50
      clear A50
      simp only [Option.some.injEq, Prod.mk.injEq] at H
      obtain ⟨rfl, rfl⟩ := H
      go_enter Tryz.func156, Tryz.ntmps156
      go_wp2_with (first | ((with_reducible refine gate_callee (f := 136) rfl ?_); refine goesL_ (some 5) rfl rfl Tryz.func136 (by kernel_rfl) rfl #[.int .i64 a0] rfl (by (try simp only [List.map_toArray, List.map_cons, List.map_nil]); first | done | rfl) ?_; (with_reducible refine (val_isDay.calls a0 true _ A2.out).mono ?_); rintro e w' ⟨rfl, ⟨nd, rfl⟩⟩; refine ⟨_, rfl, ?_⟩) | ((with_reducible refine gate_callee (f := 167) rfl ?_); refine goesL_ (some 10) rfl rfl Tryz.func167 (by kernel_rfl) rfl #[.int .i64 a0] rfl (by (try simp only [List.map_toArray, List.map_cons, List.map_nil]); first | done | rfl) ?_; (with_reducible refine (val_stamp.calls k a0 t555 _ A5.out).mono ?_); rintro e w6 ⟨rfl, hb⟩; refine ⟨_, rfl, ?_⟩; have n0_ := Aside0.mk (below_step (by repeat (first | (with_reducible first | exact HB.out | apply below_alloc | apply pw_below_drewN | apply below_drew1) | exact HB.out)) hb); clear HB; have HB := n0_; clear n0_; (try clear hb); (try clear hb2); (try clear hk); (try clear hi)))
      go_ret2
      exact ⟨rfl, by repeat (first | (with_reducible first | exact HB.out | apply below_alloc | apply pw_below_drewN | apply below_drew1) | exact HB.out)⟩
  · replace c3 := Bool.eq_false_iff.mpr c3
    subst c3
    have H1 : (some ((⟨#[]⟩ : ByteArray), 1)) = some (r1, r2) := by rw [if_neg (show ¬ (false = true) by decide)] at H; exact H
    clear H
    have H := H1
    clear H1
    simp only [Option.some.injEq, Prod.mk.injEq] at H
    obtain ⟨rfl, rfl⟩ := H
    go_enter Tryz.func156, Tryz.ntmps156
    go_wp2_with (first | ((with_reducible refine gate_callee (f := 136) rfl ?_); refine goesL_ (some 5) rfl rfl Tryz.func136 (by kernel_rfl) rfl #[.int .i64 a0] rfl (by (try simp only [List.map_toArray, List.map_cons, List.map_nil]); first | done | rfl) ?_; (with_reducible refine (val_isDay.calls a0 false _ A2.out).mono ?_); rintro e w' ⟨rfl, ⟨nd, rfl⟩⟩; refine ⟨_, rfl, ?_⟩))
    go_ret2
    exact ⟨rfl, by repeat (first | (with_reducible first | exact HB.out | apply below_alloc | apply pw_below_drewN | apply below_drew1) | exact HB.out)⟩
end Go.Proofs.YtldpdidlfbphcaaGreatDoor.P
end
section
namespace Go.Proofs.YtldpdidlfbphcaaGreatDoor.P
open Go.RowKit Go.Proofs.YtldpdidlfbphcaaGreatDoorW.PrintWords Go.Proofs.YtldpdidlfbphcaaGreatDoorW.PrintLast Go.Proofs.YtldpdidlfbphcaaGreatDoorW.PrintMore
attribute [local go_sem] max2_int min2_int max_two min_two max_three min_three max_four min_four
def table_writeDate.f (k : Nat) (a0_0 : ByteArray) (a0_1 : Int) (a0_2 : Int) (a0_3 : Bool) (a1_0 : Int) (a1_1 : Int) (a1_2 : ByteArray) : Option (ByteArray) := (val_Stamp.f k a1_1).bind fun bt558 => (some bt558.1)
theorem table_writeDate.mono : ∀ a0 a1 a2 a3 a4 a5 a6 k, LeO (table_writeDate.f k a0 a1 a2 a3 a4 a5 a6) (table_writeDate.f (k + 1) a0 a1 a2 a3 a4 a5 a6) := by
  intro a0 a1 a2 a3 a4 a5 a6 k
  unfold table_writeDate.f
  repeat' first
      | (with_reducible exact val_Stamp.mono _ _)
      | (with_reducible exact LeO.refl _)
      | (with_reducible exact LeO.none _)
      | (with_reducible refine LeO.ite ?_ ?_)
      | (with_reducible refine LeO.bind ?_ (fun _ => ?_))
      | exact val_Stamp.mono _ _
      | exact LeO.none _
      | refine LeO.ite ?_ ?_
      | refine LeO.bind ?_ (fun _ => ?_)
set_option maxHeartbeats 8000000 in
set_option maxRecDepth 100000 in
theorem table_writeDate.calls (k : Nat) (a0_0 : ByteArray) (a0_1 : Int) (a0_2 : Int) (a0_3 : Bool) (a1_0 : Int) (a1_1 : Int) (a1_2 : ByteArray) (r : ByteArray) (w : World) (h : table_writeDate.f k a0_0 a0_1 a0_2 a0_3 a1_0 a1_1 a1_2 = some r) :
    Calls Tryz.prog 129 #[.agg #[.string a0_0, .int .i64 a0_1, .int .i64 a0_2, .bool a0_3], .agg #[.int .i64 a1_0, .int .i64 a1_1, .string a1_2]] w fun e w' => e = .returned (.string r) ∧ Below w.heap.size w w' := by
  have hu23 := Tryz.underlying23
  have hu25 := Tryz.underlying25
  have HB := Aside0.mk (Below.refl w.heap.size w)
  have H : ((val_Stamp.f k a1_1).bind fun bt558 => (some bt558.1)) = some r := h
  clear h
  replace H := Option.bind_eq_some_iff.mp H
  obtain ⟨⟨t558, t559⟩, A30, H⟩ := H
  replace H : (some t558) = some r := H
  have A3 := Aside0.mk A30
  clear A30
  obtain rfl := Option.some.inj H
  go_enter Tryz.func129, Tryz.ntmps129
  go_wp2_with (first | ((with_reducible refine gate_dst (N := 2) rfl ?_); refine box_event ?hg (N := 2) ?hd (cs := #[.string a0_0, .int .i64 a0_1, .int .i64 a0_2, .bool a0_3]) (t := 23) ?hr ?_; (case hd => rfl); (case hg => rfl); (case hr => go_simp; try rfl); intro gb556 hg w4 hbox hb; have n0_ := Aside0.mk (below_step HB.out hb); have n1_ := Aside0.mk (hbox); have n3_ := Aside0.mk ((by rw [hg]; exact (below_size HB.out) : w.heap.size ≤ gb556)); clear HB; have HB := n0_; have BK556 := n1_; have GE556 := n3_; clear n0_ n1_ n3_; clear hb hbox hg) | ((with_reducible refine gate_dst (N := 3) rfl ?_); refine box_event ?hg (N := 3) ?hd (cs := #[.int .i64 a1_0, .int .i64 a1_1, .string a1_2]) (t := 25) ?hr ?_; (case hd => rfl); (case hg => rfl); (case hr => go_simp; try rfl); intro gb557 hg w5 hbox hb; have n0_ := Aside0.mk (blk_below (g := gb556) (o := .cells #[.string a0_0, .int .i64 a0_1, .int .i64 a0_2, .bool a0_3] 23 (0, 0)) BK556.out hb); have n1_ := Aside0.mk (below_step HB.out hb); have n2_ := Aside0.mk (hbox); have n4_ := Aside0.mk ((by rw [hg]; exact (below_size HB.out) : w.heap.size ≤ gb557)); have n5_ := Aside0.mk ((by rw [hg]; exact Nat.ne_of_lt (blk_lt (g := gb556) (o := .cells #[.string a0_0, .int .i64 a0_1, .int .i64 a0_2, .bool a0_3] 23 (0, 0)) BK556.out) : gb556 ≠ gb557)); have n6_ := Aside0.mk ((by rw [hg]; exact Nat.ne_of_gt (blk_lt (g := gb556) (o := .cells #[.string a0_0, .int .i64 a0_1, .int .i64 a0_2, .bool a0_3] 23 (0, 0)) BK556.out) : gb557 ≠ gb556)); clear BK556; clear HB; have BK556 := n0_; have HB := n1_; have BK557 := n2_; have GE557 := n4_; have NB556_557 := n5_; have NB557_556 := n6_; clear n0_ n1_ n2_ n4_ n5_ n6_; clear hb hbox hg; have hnb6 := NB557_556.out; have hnc6 := NB556_557.out; have hcz7_0 : w5.cell? ⟨gb557, 0, none⟩ = some (.int .i64 a1_0) := (blk_cell BK557.out 0).trans rfl; have hcz7_1 : w5.cell? ⟨gb557, 1, none⟩ = some (.int .i64 a1_1) := (blk_cell BK557.out 1).trans rfl; have hcz7_2 : w5.cell? ⟨gb557, 2, none⟩ = some (.string a1_2) := (blk_cell BK557.out 2).trans rfl; have hfz7_0 := blk_frozen BK557.out 0; have hfz7_1 := blk_frozen BK557.out 1; have hfz7_2 := blk_frozen BK557.out 2) | ((with_reducible refine gate_callee (f := 156) rfl ?_); refine goesL_ (some 10) rfl rfl Tryz.func156 (by kernel_rfl) rfl #[.int .i64 a1_1] rfl (by (try simp only [List.map_toArray, List.map_cons, List.map_nil]); first | done | rfl) ?_; (with_reducible refine (val_Stamp.calls k a1_1 t558 t559 _ A3.out).mono ?_); rintro e w8 ⟨rfl, hb⟩; refine ⟨_, rfl, ?_⟩; have n0_ := Aside0.mk (blk_below (g := gb556) (o := .cells #[.string a0_0, .int .i64 a0_1, .int .i64 a0_2, .bool a0_3] 23 (0, 0)) BK556.out hb); have n1_ := Aside0.mk (blk_below (g := gb557) (o := .cells #[.int .i64 a1_0, .int .i64 a1_1, .string a1_2] 25 (0, 0)) BK557.out hb); have n2_ := Aside0.mk (below_step HB.out hb); clear BK556; clear BK557; clear HB; have BK556 := n0_; have BK557 := n1_; have HB := n2_; clear n0_ n1_ n2_; (try clear hb); (try clear hb2); (try clear hk); (try clear hi)))
  go_ret
  exact ⟨rfl, by repeat (first | (with_reducible first | exact HB.out | apply below_alloc | apply pw_below_drewN | apply below_drew1 | refine below_set ?_ GE556.out | refine below_set ?_ GE557.out) | exact HB.out)⟩
end Go.Proofs.YtldpdidlfbphcaaGreatDoor.P
end
section
namespace Go.Proofs.YtldpdidlfbphcaaGreatDoor.P
open Go.RowKit Go.Proofs.YtldpdidlfbphcaaGreatDoorW.PrintWords Go.Proofs.YtldpdidlfbphcaaGreatDoorW.PrintLast Go.Proofs.YtldpdidlfbphcaaGreatDoorW.PrintMore
attribute [local go_sem] max2_int min2_int max_two min_two max_three min_three max_four min_four
def table_writeText.f (a0_0 : ByteArray) (a0_1 : Int) (a0_2 : Int) (a0_3 : Bool) (a1_0 : Int) (a1_1 : Int) (a1_2 : ByteArray) : Option (ByteArray) := (strings_Repeat.f (⟨#[32]⟩ : ByteArray) (wrap64 (a0_2 - (a1_2.size : Int)))).bind fun t551 => (if a1_2.size + t551.size ≤ 9223372036854775807 then (some (a1_2 ++ t551)) else (none))
def table_writeText.T1 : Bool × List (List Nat × List Nat) := (true, [([], []), ([0], [0]), ([], []), ([2], [2]), ([], []), ([4], [4]), ([5], [5]), ([3, 6], [3, 6]), ([7], [7]), ([1, 8], [1, 8]), ([9, 8, 0, 1, 2, 3, 4, 5, 6, 7, 8, 9], [9])])
def table_writeText.B1 : List Nat := [0, 1, 0, 4, 0, 16, 48, 124, 252, 511, 1023]
theorem table_writeText.tab1 : rtab .any (opsOf Tryz.f131 1) = table_writeText.T1 := by kernel_rfl
theorem table_writeText.bits1 : waitsOk table_writeText.T1.2 table_writeText.B1 = true := by kernel_rfl
set_option maxHeartbeats 8000000 in
set_option maxRecDepth 100000 in
theorem table_writeText.calls (a0_0 : ByteArray) (a0_1 : Int) (a0_2 : Int) (a0_3 : Bool) (a1_0 : Int) (a1_1 : Int) (a1_2 : ByteArray) (r : ByteArray) (w : World) (h : table_writeText.f a0_0 a0_1 a0_2 a0_3 a1_0 a1_1 a1_2 = some r) :
    Calls Tryz.prog 131 #[.agg #[.string a0_0, .int .i64 a0_1, .int .i64 a0_2, .bool a0_3], .agg #[.int .i64 a1_0, .int .i64 a1_1, .string a1_2]] w fun e w' => e = .returned (.string r) ∧ Below w.heap.size w w' := by
  have hu23 := Tryz.underlying23
  have hu25 := Tryz.underlying25
  have HB := Aside0.mk (Below.refl w.heap.size w)
  have H : ((strings_Repeat.f (⟨#[32]⟩ : ByteArray) (wrap64 (a0_2 - (a1_2.size : Int)))).bind fun t551 => (if a1_2.size + t551.size ≤ 9223372036854775807 then (some (a1_2 ++ t551)) else (none))) = some r := h
  clear h
  replace H := Option.bind_eq_some_iff.mp H
  obtain ⟨t551, A30, H⟩ := H
  replace H : (if a1_2.size + t551.size ≤ 9223372036854775807 then (some (a1_2 ++ t551)) else (none)) = some r := H
  have A3 := Aside0.mk A30
  clear A30
  by_cases c4 : a1_2.size + t551.size ≤ 9223372036854775807
  · rw [if_pos c4] at H
    have c4b0 := eq_true c4
    have c4b1 : decide (a1_2.size + t551.size ≤ 9223372036854775807) = true := decide_eq_true c4
    try have c4b2 : (9223372036854775807 < a1_2.size + t551.size) = False := eq_false (Nat.not_lt.2 c4)
    obtain rfl := Option.some.inj H
    go_enter Tryz.func131, Tryz.ntmps131
    try go_wp2_with (first | ((with_reducible refine gate_dst (N := 2) rfl ?_); refine box_event ?hg (N := 2) ?hd (cs := #[.string a0_0, .int .i64 a0_1, .int .i64 a0_2, .bool a0_3]) (t := 23) ?hr ?_; (case hd => rfl); (case hg => rfl); (case hr => go_simp; try rfl); intro gb549 hg w5 hbox hb; have n0_ := Aside0.mk (below_step HB.out hb); have n1_ := Aside0.mk (hbox); have n3_ := Aside0.mk ((by rw [hg]; exact (below_size HB.out) : w.heap.size ≤ gb549)); clear HB; have HB := n0_; have BK549 := n1_; have GE549 := n3_; clear n0_ n1_ n3_; clear hb hbox hg) | ((with_reducible refine gate_dst (N := 3) rfl ?_); refine box_event ?hg (N := 3) ?hd (cs := #[.int .i64 a1_0, .int .i64 a1_1, .string a1_2]) (t := 25) ?hr ?_; (case hd => rfl); (case hg => rfl); (case hr => go_simp; try rfl); intro gb550 hg w6 hbox hb; have n0_ := Aside0.mk (blk_below (g := gb549) (o := .cells #[.string a0_0, .int .i64 a0_1, .int .i64 a0_2, .bool a0_3] 23 (0, 0)) BK549.out hb); have n1_ := Aside0.mk (below_step HB.out hb); have n2_ := Aside0.mk (hbox); have n4_ := Aside0.mk ((by rw [hg]; exact (below_size HB.out) : w.heap.size ≤ gb550)); have n5_ := Aside0.mk ((by rw [hg]; exact Nat.ne_of_lt (blk_lt (g := gb549) (o := .cells #[.string a0_0, .int .i64 a0_1, .int .i64 a0_2, .bool a0_3] 23 (0, 0)) BK549.out) : gb549 ≠ gb550)); have n6_ := Aside0.mk ((by rw [hg]; exact Nat.ne_of_gt (blk_lt (g := gb549) (o := .cells #[.string a0_0, .int .i64 a0_1, .int .i64 a0_2, .bool a0_3] 23 (0, 0)) BK549.out) : gb550 ≠ gb549)); clear BK549; clear HB; have BK549 := n0_; have HB := n1_; have BK550 := n2_; have GE550 := n4_; have NB549_550 := n5_; have NB550_549 := n6_; clear n0_ n1_ n2_ n4_ n5_ n6_; clear hb hbox hg))
    have n0_ := Aside0.mk (blk_drew BK549.out)
    have n1_ := Aside0.mk (blk_drew BK550.out)
    have n2_ := Aside0.mk (below_drew1 HB.out)
    clear BK549
    clear BK550
    clear HB
    have BK549 := n0_
    have BK550 := n1_
    have HB := n2_
    clear n0_ n1_ n2_
    refine start_ (n := 11) (S := fun w' => w'.cell? ⟨gb550, 0, none⟩ = some (.int .i64 a1_0) ∧ w'.cell? ⟨gb550, 1, none⟩ = some (.int .i64 a1_1) ∧ w'.cell? ⟨gb550, 2, none⟩ = some (.string a1_2) ∧ w'.cell? ⟨gb549, 0, none⟩ = some (.string a0_0) ∧ w'.cell? ⟨gb549, 1, none⟩ = some (.int .i64 a0_1) ∧ w'.cell? ⟨gb549, 2, none⟩ = some (.int .i64 a0_2) ∧ w'.cell? ⟨gb549, 3, none⟩ = some (.bool a0_3)) (ds := []) #[false, false, false, false, false, false, false, false, false, false, false] (by kernel_rfl) rfl rfl ⟨(blk_cell BK550.out 0).trans rfl, (blk_cell BK550.out 1).trans rfl, (blk_cell BK550.out 2).trans rfl, (blk_cell BK549.out 0).trans rfl, (blk_cell BK549.out 1).trans rfl, (blk_cell BK549.out 2).trans rfl, (blk_cell BK549.out 3).trans rfl⟩ (fun hHeld => ?_); refine with_tabW table_writeText.tab1 table_writeText.bits1 (fun HT_ HW_ => ?_)
    generalize w6.drew = w7 at BK549 BK550 HB hHeld ⊢
    refine pure_ (i := 0) (N := some 5) (v := ?_) (a' := ?_) #[true, false, false, false, false, false, false, false, false, false, false] rfl rfl (any_of HT_.out (by kernel_rfl)) (fun _ _ _ h => h) (Or.inl ⟨by rfl, ?_⟩) ?_ ?_
    rotate_left
    · intro w'
      go_simp
      with_reducible rfl
    rotate_left
    · simp only [Act.put, List.setIfInBounds_toArray, List.set_cons_zero, List.set_cons_succ, i64_w, i32_w]
      rfl
    refine pure_ (i := 2) (N := some 7) (v := ?_) (a' := ?_) #[true, false, true, false, false, false, false, false, false, false, false] rfl rfl (any_of HT_.out (by kernel_rfl)) (fun _ _ _ h => h) (Or.inl ⟨by rfl, ?_⟩) ?_ ?_
    rotate_left
    · intro w'
      go_simp
      with_reducible rfl
    rotate_left
    · simp only [Act.put, List.setIfInBounds_toArray, List.set_cons_zero, List.set_cons_succ, i64_w, i32_w]
      rfl
    refine pure_ (i := 4) (N := some 9) (v := ?_) (a' := ?_) #[true, false, true, false, true, false, false, false, false, false, false] rfl rfl (any_of HT_.out (by kernel_rfl)) (fun _ _ _ h => h) (Or.inl ⟨by rfl, ?_⟩) ?_ ?_
    rotate_left
    · intro w'
      go_simp
      with_reducible rfl
    rotate_left
    · simp only [Act.put, List.setIfInBounds_toArray, List.set_cons_zero, List.set_cons_succ, i64_w, i32_w]
      rfl
    refine take_ (i := 1) (N := some 6) (v := ?_) (a' := ?_) #[true, true, true, false, true, false, false, false, false, false, false] rfl rfl (take_ofW HT_.out HW_.out (by kernel_rfl)) (fun _ _ _ h => h) (Or.inl ⟨by rfl, ?_⟩) hHeld ?_ ?_
    rotate_left
    · rintro w' ⟨s0, s1, s2, s3, s4, s5, s6⟩
      go_simp
      with_reducible rfl
    rotate_left
    · simp only [Act.put, List.setIfInBounds_toArray, List.set_cons_zero, List.set_cons_succ, i64_w, i32_w]
      rfl
    refine take_ (i := 3) (N := some 8) (v := ?_) (a' := ?_) #[true, true, true, true, true, false, false, false, false, false, false] rfl rfl (take_ofW HT_.out HW_.out (by kernel_rfl)) (fun _ _ _ h => h) (Or.inl ⟨by rfl, ?_⟩) hHeld ?_ ?_
    rotate_left
    · rintro w' ⟨s0, s1, s2, s3, s4, s5, s6⟩
      go_simp
      with_reducible rfl
    rotate_left
    · simp only [Act.put, List.setIfInBounds_toArray, List.set_cons_zero, List.set_cons_succ, i64_w, i32_w]
      rfl
    refine take_ (i := 5) (N := some 10) (v := ?_) (a' := ?_) #[true, true, true, true, true, true, false, false, false, false, false] rfl rfl (take_ofW HT_.out HW_.out (by kernel_rfl)) (fun _ _ _ h => h) (Or.inl ⟨by rfl, ?_⟩) hHeld ?_ ?_
    rotate_left
    · rintro w' ⟨s0, s1, s2, s3, s4, s5, s6⟩
      go_simp
      with_reducible rfl
    rotate_left
    · simp only [Act.put, List.setIfInBounds_toArray, List.set_cons_zero, List.set_cons_succ, i64_w, i32_w]
      rfl
    refine pure_ (i := 6) (N := some 11) (v := ?_) (a' := ?_) #[true, true, true, true, true, true, true, false, false, false, false] rfl rfl (any_of HT_.out (by kernel_rfl)) (fun _ _ _ h => h) (Or.inl ⟨by rfl, ?_⟩) ?_ ?_
    rotate_left
    · intro w'
      go_simp
      with_reducible rfl
    rotate_left
    · simp only [Act.put, List.setIfInBounds_toArray, List.set_cons_zero, List.set_cons_succ, i64_w, i32_w]
      rfl
    refine pure_ (i := 7) (N := some 12) (v := ?_) (a' := ?_) #[true, true, true, true, true, true, true, true, false, false, false] rfl rfl (any_of HT_.out (by kernel_rfl)) (fun _ _ _ h => h) (Or.inl ⟨by rfl, ?_⟩) ?_ ?_
    rotate_left
    · intro w'
      go_simp
      with_reducible rfl
    rotate_left
    · simp only [Act.put, List.setIfInBounds_toArray, List.set_cons_zero, List.set_cons_succ, i64_w, i32_w]
      rfl
    refine one_ (i := 8) (N := some 13) #[true, true, true, true, true, true, true, true, true, false, false] rfl rfl (one_of HT_.out (by kernel_rfl)) (by decide) (fun K hK => ?_)
    refine goes_ Tryz.func99 (by kernel_rfl) rfl #[.string (⟨#[32]⟩ : ByteArray), .int .i64 (wrap64 (a0_2 - (a1_2.size : Int)))] (by rfl) rfl rfl (by (try simp only [List.map_toArray, List.map_cons, List.map_nil]); first | done | rfl) ?_
    with_reducible refine (strings_Repeat.calls (⟨#[32]⟩ : ByteArray) (wrap64 (a0_2 - (a1_2.size : Int))) t551 _ A3.out).mono ?_
    rintro e w8 ⟨rfl, hb⟩
    refine ⟨_, rfl, ?_⟩
    have n0_ := Aside0.mk (blk_below (g := gb549) (o := .cells #[.string a0_0, .int .i64 a0_1, .int .i64 a0_2, .bool a0_3] 23 (0, 0)) BK549.out hb)
    have n1_ := Aside0.mk (blk_below (g := gb550) (o := .cells #[.int .i64 a1_0, .int .i64 a1_1, .string a1_2] 25 (0, 0)) BK550.out hb)
    have n2_ := Aside0.mk (below_step HB.out hb)
    clear BK549
    clear BK550
    clear HB
    have BK549 := n0_
    have BK550 := n1_
    have HB := n2_
    clear n0_ n1_ n2_
    (try clear hb)
    (try clear hb2)
    (try clear hk)
    (try clear hi)
    refine hK.out _ _ ⟨(blk_cell BK550.out 0).trans rfl, (blk_cell BK550.out 1).trans rfl, (blk_cell BK550.out 2).trans rfl, (blk_cell BK549.out 0).trans rfl, (blk_cell BK549.out 1).trans rfl, (blk_cell BK549.out 2).trans rfl, (blk_cell BK549.out 3).trans rfl⟩ (fun hHeld => ?_)
    clear hK K
    refine norm_ (a' := ?_) ?_ ?_
    rotate_left
    · show Act.put _ (some 13) _ = _
      simp only [Act.put, List.setIfInBounds_toArray, List.set_cons_zero, List.set_cons_succ, i64_w, i32_w]
      rfl
    refine pure_ (i := 9) (N := some 14) (v := ?_) (a' := ?_) #[true, true, true, true, true, true, true, true, true, true, false] rfl rfl (any_of HT_.out (by kernel_rfl)) (fun _ _ _ h => h) (Or.inl ⟨by rfl, ?_⟩) ?_ ?_
    rotate_left
    · intro w'
      go_simp
      with_reducible rfl
    rotate_left
    · simp only [Act.put, List.setIfInBounds_toArray, List.set_cons_zero, List.set_cons_succ, i64_w, i32_w]
      rfl
    refine pure_ (i := 10) (N := some 4) (v := ?_) (a' := ?_) #[true, true, true, true, true, true, true, true, true, true, true] rfl rfl (any_of HT_.out (by kernel_rfl)) (fun _ _ _ h => h) (Or.inl ⟨by rfl, ?_⟩) ?_ ?_
    rotate_left
    · intro w'
      go_simp
      with_reducible rfl
    rotate_left
    · simp only [Act.put, List.setIfInBounds_toArray, List.set_cons_zero, List.set_cons_succ, i64_w, i32_w]
      rfl
    refine done_ (done_of HT_.out (by kernel_rfl)) ?_
    try go_wp2
    go_ret
    exact ⟨rfl, by repeat (first | (with_reducible first | exact HB.out | apply below_alloc | apply pw_below_drewN | apply below_drew1 | refine below_set ?_ GE549.out | refine below_set ?_ GE550.out) | exact HB.out)⟩
  · rw [if_neg c4] at H
    exact absurd H (by simp)
end Go.Proofs.YtldpdidlfbphcaaGreatDoor.P
end
section
namespace Go.Proofs.YtldpdidlfbphcaaGreatDoor.P
open Go.RowKit Go.Proofs.YtldpdidlfbphcaaGreatDoorW.PrintWords Go.Proofs.YtldpdidlfbphcaaGreatDoorW.PrintLast Go.Proofs.YtldpdidlfbphcaaGreatDoorW.PrintMore
attribute [local go_sem] max2_int min2_int max_two min_two max_three min_three max_four min_four
def table_writeMemo.f (k : Nat) (a0_0 : ByteArray) (a0_1 : Int) (a0_2 : Int) (a0_3 : Bool) (a1_0 : Int) (a1_1 : Int) (a1_2 : ByteArray) : Option (ByteArray) := if a1_1 = 0 then ((strings_Repeat.f (⟨#[32]⟩ : ByteArray) a0_2).bind fun t547 => (some t547)) else ((table_writeNum.f k a0_0 a0_1 a0_2 a0_3 a1_0 a1_1 a1_2).bind fun t548 => (some t548))
theorem table_writeMemo.mono : ∀ a0 a1 a2 a3 a4 a5 a6 k, LeO (table_writeMemo.f k a0 a1 a2 a3 a4 a5 a6) (table_writeMemo.f (k + 1) a0 a1 a2 a3 a4 a5 a6) := by
  intro a0 a1 a2 a3 a4 a5 a6 k
  unfold table_writeMemo.f
  repeat' first
      | (with_reducible exact table_writeNum.mono _ _ _ _ _ _ _ _)
      | (with_reducible exact LeO.refl _)
      | (with_reducible exact LeO.none _)
      | (with_reducible refine LeO.ite ?_ ?_)
      | (with_reducible refine LeO.bind ?_ (fun _ => ?_))
      | exact table_writeNum.mono _ _ _ _ _ _ _ _
      | exact LeO.none _
      | refine LeO.ite ?_ ?_
      | refine LeO.bind ?_ (fun _ => ?_)
set_option maxHeartbeats 8000000 in
set_option maxRecDepth 100000 in
theorem table_writeMemo.calls (k : Nat) (a0_0 : ByteArray) (a0_1 : Int) (a0_2 : Int) (a0_3 : Bool) (a1_0 : Int) (a1_1 : Int) (a1_2 : ByteArray) (r : ByteArray) (w : World) (h : table_writeMemo.f k a0_0 a0_1 a0_2 a0_3 a1_0 a1_1 a1_2 = some r) :
    Calls Tryz.prog 133 #[.agg #[.string a0_0, .int .i64 a0_1, .int .i64 a0_2, .bool a0_3], .agg #[.int .i64 a1_0, .int .i64 a1_1, .string a1_2]] w fun e w' => e = .returned (.string r) ∧ Below w.heap.size w w' := by
  have hu23 := Tryz.underlying23
  have hu25 := Tryz.underlying25
  have HB := Aside0.mk (Below.refl w.heap.size w)
  have H : (if a1_1 = 0 then ((strings_Repeat.f (⟨#[32]⟩ : ByteArray) a0_2).bind fun t547 => (some t547)) else ((table_writeNum.f k a0_0 a0_1 a0_2 a0_3 a1_0 a1_1 a1_2).bind fun t548 => (some t548))) = some r := h
  clear h
  by_cases c3 : a1_1 = 0
  · rw [if_pos c3] at H
    have c3b0 : (a1_1 == 0) = true := beq_iff_eq.mpr c3
    have c3b1 : (a1_1 != 0) = false := bne_eq_false_iff_eq.mpr c3
    clear c3
    replace H := Option.bind_eq_some_iff.mp H
    obtain ⟨t547, A40, H⟩ := H
    replace H : (some t547) = some r := H
    have A4 := Aside0.mk A40
    clear A40
    obtain rfl := Option.some.inj H
    go_enter Tryz.func133, Tryz.ntmps133
    go_wp2_with (first | ((with_reducible refine gate_dst (N := 2) rfl ?_); refine box_event ?hg (N := 2) ?hd (cs := #[.string a0_0, .int .i64 a0_1, .int .i64 a0_2, .bool a0_3]) (t := 23) ?hr ?_; (case hd => rfl); (case hg => rfl); (case hr => go_simp; try rfl); intro gb545 hg w5 hbox hb; have n0_ := Aside0.mk (below_step HB.out hb); have n1_ := Aside0.mk (hbox); have n3_ := Aside0.mk ((by rw [hg]; exact (below_size HB.out) : w.heap.size ≤ gb545)); clear HB; have HB := n0_; have BK545 := n1_; have GE545 := n3_; clear n0_ n1_ n3_; clear hb hbox hg) | ((with_reducible refine gate_dst (N := 3) rfl ?_); refine box_event ?hg (N := 3) ?hd (cs := #[.int .i64 a1_0, .int .i64 a1_1, .string a1_2]) (t := 25) ?hr ?_; (case hd => rfl); (case hg => rfl); (case hr => go_simp; try rfl); intro gb546 hg w6 hbox hb; have n0_ := Aside0.mk (blk_below (g := gb545) (o := .cells #[.string a0_0, .int .i64 a0_1, .int .i64 a0_2, .bool a0_3] 23 (0, 0)) BK545.out hb); have n1_ := Aside0.mk (below_step HB.out hb); have n2_ := Aside0.mk (hbox); have n4_ := Aside0.mk ((by rw [hg]; exact (below_size HB.out) : w.heap.size ≤ gb546)); have n5_ := Aside0.mk ((by rw [hg]; exact Nat.ne_of_lt (blk_lt (g := gb545) (o := .cells #[.string a0_0, .int .i64 a0_1, .int .i64 a0_2, .bool a0_3] 23 (0, 0)) BK545.out) : gb545 ≠ gb546)); have n6_ := Aside0.mk ((by rw [hg]; exact Nat.ne_of_gt (blk_lt (g := gb545) (o := .cells #[.string a0_0, .int .i64 a0_1, .int .i64 a0_2, .bool a0_3] 23 (0, 0)) BK545.out) : gb546 ≠ gb545)); clear BK545; clear HB; have BK545 := n0_; have HB := n1_; have BK546 := n2_; have GE546 := n4_; have NB545_546 := n5_; have NB546_545 := n6_; clear n0_ n1_ n2_ n4_ n5_ n6_; clear hb hbox hg; have hnb7 := NB546_545.out; have hnc7 := NB545_546.out; have hcz8_0 : w6.cell? ⟨gb546, 0, none⟩ = some (.int .i64 a1_0) := (blk_cell BK546.out 0).trans rfl; have hcz8_1 : w6.cell? ⟨gb546, 1, none⟩ = some (.int .i64 a1_1) := (blk_cell BK546.out 1).trans rfl; have hcz8_2 : w6.cell? ⟨gb546, 2, none⟩ = some (.string a1_2) := (blk_cell BK546.out 2).trans rfl; have hfz8_0 := blk_frozen BK546.out 0; have hfz8_1 := blk_frozen BK546.out 1; have hfz8_2 := blk_frozen BK546.out 2; have hcz9_0 : w6.cell? ⟨gb545, 0, none⟩ = some (.string a0_0) := (blk_cell BK545.out 0).trans rfl; have hcz9_1 : w6.cell? ⟨gb545, 1, none⟩ = some (.int .i64 a0_1) := (blk_cell BK545.out 1).trans rfl; have hcz9_2 : w6.cell? ⟨gb545, 2, none⟩ = some (.int .i64 a0_2) := (blk_cell BK545.out 2).trans rfl; have hcz9_3 : w6.cell? ⟨gb545, 3, none⟩ = some (.bool a0_3) := (blk_cell BK545.out 3).trans rfl; have hfz9_0 := blk_frozen BK545.out 0; have hfz9_1 := blk_frozen BK545.out 1; have hfz9_2 := blk_frozen BK545.out 2; have hfz9_3 := blk_frozen BK545.out 3) | ((with_reducible refine gate_callee (f := 99) rfl ?_); refine goesL_ (some 10) rfl rfl Tryz.func99 (by kernel_rfl) rfl #[.string (⟨#[32]⟩ : ByteArray), .int .i64 a0_2] rfl (by (try simp only [List.map_toArray, List.map_cons, List.map_nil]); first | done | rfl) ?_; (with_reducible refine (strings_Repeat.calls (⟨#[32]⟩ : ByteArray) a0_2 t547 _ A4.out).mono ?_); rintro e w10 ⟨rfl, hb⟩; refine ⟨_, rfl, ?_⟩; have n0_ := Aside0.mk (blk_below (g := gb545) (o := .cells #[.string a0_0, .int .i64 a0_1, .int .i64 a0_2, .bool a0_3] 23 (0, 0)) BK545.out hb); have n1_ := Aside0.mk (blk_below (g := gb546) (o := .cells #[.int .i64 a1_0, .int .i64 a1_1, .string a1_2] 25 (0, 0)) BK546.out hb); have n2_ := Aside0.mk (below_step HB.out hb); clear BK545; clear BK546; clear HB; have BK545 := n0_; have BK546 := n1_; have HB := n2_; clear n0_ n1_ n2_; (try clear hb); (try clear hb2); (try clear hk); (try clear hi)))
    go_ret
    exact ⟨rfl, by repeat (first | (with_reducible first | exact HB.out | apply below_alloc | apply pw_below_drewN | apply below_drew1 | refine below_set ?_ GE545.out | refine below_set ?_ GE546.out) | exact HB.out)⟩
  · rw [if_neg c3] at H
    have c3b0 : (a1_1 == 0) = false := beq_eq_false_iff_ne.mpr c3
    have c3b1 : (a1_1 != 0) = true := bne_iff_ne.mpr c3
    replace H := Option.bind_eq_some_iff.mp H
    obtain ⟨t548, A110, H⟩ := H
    replace H : (some t548) = some r := H
    have A11 := Aside0.mk A110
    clear A110
    obtain rfl := Option.some.inj H
    go_enter Tryz.func133, Tryz.ntmps133
    go_wp2_with (first | ((with_reducible refine gate_dst (N := 2) rfl ?_); refine box_event ?hg (N := 2) ?hd (cs := #[.string a0_0, .int .i64 a0_1, .int .i64 a0_2, .bool a0_3]) (t := 23) ?hr ?_; (case hd => rfl); (case hg => rfl); (case hr => go_simp; try rfl); intro gb545 hg w12 hbox hb; have n0_ := Aside0.mk (below_step HB.out hb); have n1_ := Aside0.mk (hbox); have n3_ := Aside0.mk ((by rw [hg]; exact (below_size HB.out) : w.heap.size ≤ gb545)); clear HB; have HB := n0_; have BK545 := n1_; have GE545 := n3_; clear n0_ n1_ n3_; clear hb hbox hg) | ((with_reducible refine gate_dst (N := 3) rfl ?_); refine box_event ?hg (N := 3) ?hd (cs := #[.int .i64 a1_0, .int .i64 a1_1, .string a1_2]) (t := 25) ?hr ?_; (case hd => rfl); (case hg => rfl); (case hr => go_simp; try rfl); intro gb546 hg w13 hbox hb; have n0_ := Aside0.mk (blk_below (g := gb545) (o := .cells #[.string a0_0, .int .i64 a0_1, .int .i64 a0_2, .bool a0_3] 23 (0, 0)) BK545.out hb); have n1_ := Aside0.mk (below_step HB.out hb); have n2_ := Aside0.mk (hbox); have n4_ := Aside0.mk ((by rw [hg]; exact (below_size HB.out) : w.heap.size ≤ gb546)); have n5_ := Aside0.mk ((by rw [hg]; exact Nat.ne_of_lt (blk_lt (g := gb545) (o := .cells #[.string a0_0, .int .i64 a0_1, .int .i64 a0_2, .bool a0_3] 23 (0, 0)) BK545.out) : gb545 ≠ gb546)); have n6_ := Aside0.mk ((by rw [hg]; exact Nat.ne_of_gt (blk_lt (g := gb545) (o := .cells #[.string a0_0, .int .i64 a0_1, .int .i64 a0_2, .bool a0_3] 23 (0, 0)) BK545.out) : gb546 ≠ gb545)); clear BK545; clear HB; have BK545 := n0_; have HB := n1_; have BK546 := n2_; have GE546 := n4_; have NB545_546 := n5_; have NB546_545 := n6_; clear n0_ n1_ n2_ n4_ n5_ n6_; clear hb hbox hg; have hnb14 := NB546_545.out; have hnc14 := NB545_546.out; have hcz15_0 : w13.cell? ⟨gb546, 0, none⟩ = some (.int .i64 a1_0) := (blk_cell BK546.out 0).trans rfl; have hcz15_1 : w13.cell? ⟨gb546, 1, none⟩ = some (.int .i64 a1_1) := (blk_cell BK546.out 1).trans rfl; have hcz15_2 : w13.cell? ⟨gb546, 2, none⟩ = some (.string a1_2) := (blk_cell BK546.out 2).trans rfl; have hfz15_0 := blk_frozen BK546.out 0; have hfz15_1 := blk_frozen BK546.out 1; have hfz15_2 := blk_frozen BK546.out 2; have hcz16_0 : w13.cell? ⟨gb545, 0, none⟩ = some (.string a0_0) := (blk_cell BK545.out 0).trans rfl; have hcz16_1 : w13.cell? ⟨gb545, 1, none⟩ = some (.int .i64 a0_1) := (blk_cell BK545.out 1).trans rfl; have hcz16_2 : w13.cell? ⟨gb545, 2, none⟩ = some (.int .i64 a0_2) := (blk_cell BK545.out 2).trans rfl; have hcz16_3 : w13.cell? ⟨gb545, 3, none⟩ = some (.bool a0_3) := (blk_cell BK545.out 3).trans rfl; have hfz16_0 := blk_frozen BK545.out 0; have hfz16_1 := blk_frozen BK545.out 1; have hfz16_2 := blk_frozen BK545.out 2; have hfz16_3 := blk_frozen BK545.out 3) | ((with_reducible refine gate_callee (f := 127) rfl ?_); refine goesL_ (some 13) rfl rfl Tryz.func127 (by kernel_rfl) rfl #[.agg #[.string a0_0, .int .i64 a0_1, .int .i64 a0_2, .bool a0_3], .agg #[.int .i64 a1_0, .int .i64 a1_1, .string a1_2]] rfl (by (try simp only [List.map_toArray, List.map_cons, List.map_nil]); first | done | rfl) ?_; (with_reducible refine (table_writeNum.calls k a0_0 a0_1 a0_2 a0_3 a1_0 a1_1 a1_2 t548 _ A11.out).mono ?_); rintro e w17 ⟨rfl, hb⟩; refine ⟨_, rfl, ?_⟩; have n0_ := Aside0.mk (blk_below (g := gb545) (o := .cells #[.string a0_0, .int .i64 a0_1, .int .i64 a0_2, .bool a0_3] 23 (0, 0)) BK545.out hb); have n1_ := Aside0.mk (blk_below (g := gb546) (o := .cells #[.int .i64 a1_0, .int .i64 a1_1, .string a1_2] 25 (0, 0)) BK546.out hb); have n2_ := Aside0.mk (below_step HB.out hb); clear BK545; clear BK546; clear HB; have BK545 := n0_; have BK546 := n1_; have HB := n2_; clear n0_ n1_ n2_; (try clear hb); (try clear hb2); (try clear hk); (try clear hi)))
    go_ret
    exact ⟨rfl, by repeat (first | (with_reducible first | exact HB.out | apply below_alloc | apply pw_below_drewN | apply below_drew1 | refine below_set ?_ GE545.out | refine below_set ?_ GE546.out) | exact HB.out)⟩
end Go.Proofs.YtldpdidlfbphcaaGreatDoor.P
end
section
namespace Go.Proofs.YtldpdidlfbphcaaGreatDoor.P
open Go.RowKit Go.Proofs.YtldpdidlfbphcaaGreatDoorW.PrintWords Go.Proofs.YtldpdidlfbphcaaGreatDoorW.PrintLast Go.Proofs.YtldpdidlfbphcaaGreatDoorW.PrintMore
theorem store_box {P : Program} {ops : Array Oper} {rest : List Oper} {o : Oper} {a : Act} {Q : Exit → Act → World → Prop} {W : World} (hgd : o.guard = none) {ty : TypeId} {p : Tmp} {y : Operand} (ho : o.op = .store ty (.tmp p) y) (hd : o.dst = none)
    (g : Nat) {cells old : Array Value} {t : TypeId} (hx : a.eval (.tmp p) = .pointer (some ⟨g, 0, none⟩)) (hy : a.eval y = .agg cells) (hg : W.heap[g]? = some (.cells old t (0, 0))) (hi : (P.info? ty).map (·.size) = some cells.size) (hold : old.size = cells.size) (h1 : cells.all (·.oneCell') = true)
    (h : ∀ w1, w1.heap[g]? = some (.cells cells t (0, 0)) → (∀ B w0, Below B w0 W → B ≤ g → Below B w0 w1) → (∀ k, k ≠ g → w1.heap[k]? = W.heap[k]?) → wpList P ops Q rest a w1) : wpList P ops Q (o :: rest) a W := by
  refine wpList_store_row hgd ty (.tmp p) y ho g cells hx hy t old hg hi hold h1 ?_
  rw [hd]
  exact h _ (setRow_heap W g old cells t (0, 0) hg) (fun B w0 hb hB => below_setRow hb hB cells) (fun k hk => setRow_other W g k cells hk)
theorem R_append_str {ops : Array Oper} {rest : List Oper} {o : Oper} {a : Act} {Q : Exit → Act → World → Prop} {w0 W : World} (base : Nat) (hgd : o.guard = none) (s x : Operand)
    (ho : o.op = .call { callee := .builtin .append, args := #[s, x], argTypes := #[37, 9] }) (v : Value) (xs : List Int) (str : ByteArray) (ok : Nat → Prop) (hs : a.eval s = v) (hx : a.eval x = .string str)
    (HO : (Kd.int .u8).R 5 W base ok v xs) (HB : Below base w0 W) (hbase : base ≤ W.heap.size) (hl : xs.length + str.size ≤ 140737488355328)
    (h : ∀ v1 w1, (Kd.int .u8).R 5 w1 base (fun _ => True) v1 (xs ++ str.data.toList.map (fun b => (b.toNat : Int))) → Below base w0 w1 → wpList Tryz.prog ops Q rest (a.put o.dst v1) w1) : wpList Tryz.prog ops Q (o :: rest) a W := by
  obtain ⟨i0, hi, hz0, hz1, hz2⟩ := info_parts info5
  refine Lib.wpList_append_own_string W hgd s x 37 9 ho base 5 i0 Tryz.underlying37 Tryz.underlying9 hi hz0 hz1 hz2 v xs.length _ hs (Kd.own_of_R HO) str hx (by unfold maxLen; omega) hl hbase ?_
  intro v1 w1 hown hg _
  refine h v1 w1 (Kd.R_of_own ?_ (fun _ _ => trivial)) ?_
  · have e1 : (xs ++ str.data.toList.map (fun b => (b.toNat : Int))).length = xs.length + str.size := by
      rw [List.length_append, List.length_map]; rfl
    have e2 : encs (Value.int .u8) (xs ++ str.data.toList.map (fun b => (b.toNat : Int))) = encs (Value.int .u8) xs ++ Lib.strCells str := by
      unfold encs Lib.strCells
      rw [List.map_append, List.map_map]
      rfl
    rw [e1, e2]
    exact hown
  · exact HB.grown hg hbase (fun k hk => Kd.R_base HO k hk)
def writeO (f : S23) (v : S25) : Option ByteArray :=
  if f.f1 = 1 then table_writeTruth.f f.f0 f.f1 f.f2 f.f3 v.f0 v.f1 v.f2
  else if f.f1 = 2 then table_writeNum.f 100 f.f0 f.f1 f.f2 f.f3 v.f0 v.f1 v.f2
  else if f.f1 = 3 then table_writeDate.f 100 f.f0 f.f1 f.f2 f.f3 v.f0 v.f1 v.f2
  else if f.f1 = 4 then table_writeText.f f.f0 f.f1 f.f2 f.f3 v.f0 v.f1 v.f2
  else if f.f1 = 5 then table_writeMemo.f 100 f.f0 f.f1 f.f2 f.f3 v.f0 v.f1 v.f2
  else none
theorem write_any (f : S23) (v : S25) (p : ByteArray) (h : writeO f v = some p) : ∃ (c lo hi rf : Value) (K : Nat), kindVal f.f1 = .agg #[c, lo, hi, .func (.func K) #[] #[], rf] ∧ (∀ args W, (callFunc K args).run Tryz.prog W = .ok (.enter K args) W) ∧
    ∀ W, Calls Tryz.prog K #[.agg #[.string f.f0, .int .i64 f.f1, .int .i64 f.f2, .bool f.f3], .agg #[.int .i64 v.f0, .int .i64 v.f1, .string v.f2]] W fun e w' => e = .returned (.string p) ∧ Below W.heap.size W w' := by
  unfold writeO at h
  by_cases h1 : f.f1 = 1
  · rw [if_pos h1] at h
    exact ⟨_, _, _, _, 125, by unfold kindVal; rw [if_pos h1]; rfl, fun args W => enters_ Tryz.func125 (by kernel_rfl) rfl args W, fun W => table_writeTruth.calls _ _ _ _ _ _ _ p W h⟩
  rw [if_neg h1] at h
  by_cases h2 : f.f1 = 2
  · rw [if_pos h2] at h
    exact ⟨_, _, _, _, 127, by unfold kindVal; rw [if_neg h1, if_pos h2]; rfl, fun args W => enters_ Tryz.func127 (by kernel_rfl) rfl args W, fun W => table_writeNum.calls _ _ _ _ _ _ _ _ p W h⟩
  rw [if_neg h2] at h
  by_cases h3 : f.f1 = 3
  · rw [if_pos h3] at h
    exact ⟨_, _, _, _, 129, by unfold kindVal; rw [if_neg h1, if_neg h2, if_pos h3]; rfl, fun args W => enters_ Tryz.func129 (by kernel_rfl) rfl args W, fun W => table_writeDate.calls _ _ _ _ _ _ _ _ p W h⟩
  rw [if_neg h3] at h
  by_cases h4 : f.f1 = 4
  · rw [if_pos h4] at h
    exact ⟨_, _, _, _, 131, by unfold kindVal; rw [if_neg h1, if_neg h2, if_neg h3, if_pos h4]; rfl, fun args W => enters_ Tryz.func131 (by kernel_rfl) rfl args W, fun W => table_writeText.calls _ _ _ _ _ _ _ p W h⟩
  rw [if_neg h4] at h
  by_cases h5 : f.f1 = 5
  · rw [if_pos h5] at h
    exact ⟨_, _, _, _, 133, by unfold kindVal; rw [if_neg h1, if_neg h2, if_neg h3, if_neg h4, if_pos h5]; rfl, fun args W => enters_ Tryz.func133 (by kernel_rfl) rfl args W, fun W => table_writeMemo.calls _ _ _ _ _ _ _ _ p W h⟩
  rw [if_neg h5] at h
  cases h
theorem goesV_ {P : Program} {ops : Array Oper} {Q : Exit → Act → World → Prop} {oi : Oper} {N : Option Tmp} {a : Act} {w : World} {K : Act → World → Prop} {f : FuncId} {x : Tmp} {xs0 : Array Operand} {ts : Array TypeId} (he : ∀ args W, (callFunc f args).run P W = .ok (.enter f args) W) (args : Array Value)
    (hw : Region.wanted oi (yielded ops a.tmps) = true) (hN : oi.dst = N) (hop : oi.op = .call { callee := .value (.tmp x), args := xs0, argTypes := ts }) (hx : a.eval (.tmp x) = .func (.func f) #[] #[]) (hargs : xs0.map a.eval = args)
    (h : Calls P f args w fun e w' => ∃ v, e = .returned v ∧ K (a.put N v) w') : if Region.wanted oi (yielded ops a.tmps) = true then Oper.wp P oi a w K Q else K (a.put N undef) w := by
  refine call_ f args hw hN ?_ h
  unfold execOp
  simp [hop, resolve, Deferred.ofValue, invoke, hx, hargs, he]
def rowFlag (f : S23) (v : S25) (x6 : List Int) (b : Int) : Option (List Int) :=
  if f.f3 = true then (if v.f0 = 0 then (if 0 ≤ wrap64 (Int.tdiv b 8) then (if wrap64 (Int.tdiv b 8) < (x6.length : Int) then (if 0 ≤ Int.tmod b 8 then some (x6.set (wrap64 (Int.tdiv b 8)).toNat (Go.bits .or .u8 (rd x6 (wrap64 (Int.tdiv b 8))) (shl .u8 1 (Int.tmod b 8)))) else none) else none) else none) else some x6) else some x6
def rowBit (f : S23) (b : Int) : Int := if f.f3 = true then wrap64 (b + 1) else b
def rowPart (f : S23) (v : S25) : Option ByteArray := if v.f0 = 0 then strings_Repeat.f (⟨#[32]⟩ : ByteArray) f.f2 else writeO f v
def rowL : List S23 → List S25 → List Int → Int → ByteArray → Option (List Int × ByteArray)
  | [], _, x6, _, X => some (x6, X)
  | _ :: _, [], _, _, _ => none
  | f :: fs, v :: vs, x6, b, X => (rowFlag f v x6 b).bind fun y6 => (rowPart f v).bind fun p => if X.size + p.size ≤ 140737488355328 then rowL fs vs y6 (rowBit f b) (X ++ p) else none
def bytesI (s : ByteArray) : List Int := s.data.toList.map (fun b => (b.toNat : Int))
def rowHead (g : Bool) : Int := if g = true then 42 else 32
def table_row.f (l0 : List S23) (g : Bool) (l1 : List S25) : Option (List Int) :=
  (table_nullBytes.f (l0.length + 2) l0).bind fun t => if 0 ≤ t then (if (t : Int).toNat ≤ 281474976710656 then (rowL l0 l1 (List.replicate (t : Int).toNat 0) 0 (⟨#[]⟩ : ByteArray)).bind fun FY => if l0.length ≤ 1000000000 ∧ FY.2.size ≠ 0 ∧ 1 + FY.1.length + FY.2.size ≤ 140737488355328 then some (([rowHead g] : List Int) ++ FY.1 ++ bytesI FY.2) else none else none) else none
def RowInv (w : World) (gr gB : Nat) (rc : Array Value) (vo vf : Value) (x5 x6 : List Int) (X : ByteArray) (W : World) : Prop :=
  Kd.R (Kd.int .u8) 5 W w.heap.size (fun k => k < gB) vo x5 ∧ Kd.R (Kd.int .u8) 5 W w.heap.size (fun k => k < gB) vf x6 ∧ (∀ k, vo.ownBlock = some k → vf.ownBlock ≠ some k) ∧
    W.heap[gr]? = some (.cells rc 46 (0, 0)) ∧ gr < gB ∧ w.heap.size ≤ gB ∧ Lib.IsBuilderF 126 5 gB gB (Lib.byteCells X.data.toList) W ∧ Below w.heap.size w W
theorem builder_below {T e : TypeId} {B b : Nat} {p : Value} {bs : List Value} {W W' : World} (h : Lib.BuilderAtF T e B b p bs W) (hb : Below W.heap.size W W') : Lib.BuilderAtF T e B b p bs W' := by
  have hlt := h.lt
  obtain ⟨hB, v, hv, hown, hne⟩ := h
  exact ⟨hB, v, (hb.block b hlt).trans hv, hown.kept (row := none) ⟨hb.os, hb.tape, hb.output, hb.size, fun k hk _ => hb.block k hk⟩ (Classical.em _), hne⟩
theorem isBuilder_below {T e : TypeId} {B b : Nat} {bs : List Value} {W W' : World} (h : Lib.IsBuilderF T e B b bs W) (hb : Below W.heap.size W W') : Lib.IsBuilderF T e B b bs W' :=
  h.elim (fun x => .inl (builder_below x hb)) (fun x => .inr (builder_below x hb))
theorem isBuilder_lt {T e : TypeId} {B b : Nat} {bs : List Value} {W : World} (h : Lib.IsBuilderF T e B b bs W) : b < W.heap.size := h.elim (·.lt) (·.lt)
theorem RowInv.below {w W W' : World} {gr gB : Nat} {rc : Array Value} {vo vf : Value} {x5 x6 : List Int} {X : ByteArray} (h : RowInv w gr gB rc vo vf x5 x6 X W) (hb : Below W.heap.size W W') : RowInv w gr gB rc vo vf x5 x6 X W' := by
  obtain ⟨h1, h2, h3, h4, h5, h6, h7, h8⟩ := h
  exact ⟨Kd.R_below h1 hb, Kd.R_below h2 hb, h3, blk_below h4 hb, h5, h6, isBuilder_below h7 hb, below_step h8 hb⟩
theorem RowInv.flag {w W : World} {gr gB : Nat} {rc : Array Value} {vo : Value} {g cap n : Nat} {x5 x6 : List Int} {X : ByteArray} (h : RowInv w gr gB rc vo (.slice (some ⟨g, 0, none⟩) n cap) x5 x6 X W) (i x : Int) (h0 : 0 ≤ i) (hi : i < (x6.length : Int)) :
    RowInv w gr gB rc vo (.slice (some ⟨g, 0, none⟩) n cap) x5 (x6.set i.toNat x) X (W.setCell ⟨g, i.toNat, none⟩ (.int .u8 x)) ∧ g < gB := by
  obtain ⟨h1, h2, h3, h4, h5, h6, h7, h8⟩ := h
  obtain ⟨rfl, hnc, _⟩ := Kd.R_reads' h2
  have hlen : 0 < x6.length := by omega
  obtain ⟨g', cap', e', hbg, hlt, cells, hc⟩ := Kd.R_form h2 hlen
  injection e' with e1 _ _
  injection e1 with e1
  injection e1 with e1 _ _
  subst e1
  have hgB : g < gB := h2.1 g (by simp only [Value.ownBlock])
  have hoth : ∀ k, k ≠ g → (W.setCell ⟨g, i.toNat, none⟩ (.int .u8 x)).heap[k]? = W.heap[k]? := fun k hk => Below.heap_setCell W ⟨g, i.toNat, none⟩ _ k hk
  have hown : (Value.slice (some ⟨g, 0, none⟩) x6.length cap).ownBlock = some g := by
    simp only [Value.ownBlock]
  refine ⟨⟨?_, (Kd.R_put h2 i x).1, h3, ?_, h5, h6, ?_, below_set h8 hbg⟩, hgB⟩
  · have h1' : Kd.R (Kd.int .u8) 5 W w.heap.size (fun k => k < gB ∧ k ≠ g) vo x5 := Kd.R_far1 h1 rfl (fun e => h3 g e.symm hown)
    exact Kd.R_mono (Kd.R_step h1' (fun k hk _ => hoth k hk.2)) (fun _ hk => hk.1)
  · exact (hoth gr (fun e => by
      subst e
      rw [hc] at h4
      injection h4 with h4
      injection h4 with _ h4
      cases h4)).trans h4
  · have hb : ∀ p, Lib.BuilderAtF 126 5 gB gB p (Lib.byteCells X.data.toList) W → Lib.BuilderAtF 126 5 gB gB p (Lib.byteCells X.data.toList) (W.setCell ⟨g, i.toNat, none⟩ (.int .u8 x)) := by
      rintro p ⟨hB, v, hv, ho, hne⟩
      refine ⟨hB, v, (hoth gB (by omega)).trans hv, ho.kept (row := some g) ⟨rfl, rfl, rfl, by simp [World.setCell], fun k _ hk => hoth k (fun e => hk (by rw [e]))⟩ (Or.inr ?_), hne⟩
      intro e
      rcases ho.2 with ⟨rfl, _⟩ | ⟨q, cap', cur, fz, rfl, hq, _⟩
      · simp [Value.ownBlock] at e
      · simp only [Value.ownBlock, Option.some.injEq] at e
        omega
    exact h7.elim (fun x => .inl (hb _ x)) (fun x => .inr (hb _ x))
theorem RowInv.write {w W W' : World} {gr gB : Nat} {rc : Array Value} {vo vf : Value} {x5 x6 : List Int} {X p : ByteArray} (h : RowInv w gr gB rc vo vf x5 x6 X W) (hw : Lib.BuilderAtF 126 5 gB gB (.pointer (some ⟨gB, 0, none⟩)) (Lib.byteCells X.data.toList ++ Lib.strCells p) W') (hb : Below gB W W') :
    RowInv w gr gB rc vo vf x5 x6 (X ++ p) W' := by
  obtain ⟨h1, h2, h3, h4, h5, h6, h7, h8⟩ := h
  refine ⟨Kd.R_step h1 (fun k hk _ => hb.block k hk), Kd.R_step h2 (fun k hk _ => hb.block k hk), h3, (hb.block gr h5).trans h4, h5, h6, .inr ?_, below_weaken h8 h6 hb⟩
  have e : Lib.byteCells (X ++ p).data.toList = Lib.byteCells X.data.toList ++ Lib.strCells p := by
    rw [Lib.strCells_eq]
    unfold Lib.byteCells
    rw [ByteArray.data_append, Array.toList_append, List.map_append]
  rw [e]
  exact hw
theorem isBuilder_grown {w W w1 : World} {gr gB : Nat} {rc : Array Value} {vo vf : Value} {x5 x6 : List Int} {X : ByteArray} (h : RowInv w gr gB rc vo vf x5 x6 X W) (hg : W.grownBy w1 vo.ownBlock) : Lib.IsBuilderF 126 5 gB gB (Lib.byteCells X.data.toList) w1 := by
  obtain ⟨h1, h2, h3, h4, h5, h6, h7, h8⟩ := h
  have hb : ∀ p, Lib.BuilderAtF 126 5 gB gB p (Lib.byteCells X.data.toList) W → Lib.BuilderAtF 126 5 gB gB p (Lib.byteCells X.data.toList) w1 := by
    rintro p ⟨hB, v, hv, ho, hne⟩
    refine ⟨hB, v, (hg.block gB (blk_lt hv) (fun e => by have := h1.1 gB e.symm; omega)).trans hv, ho.kept (row := vo.ownBlock) hg (Classical.byCases Or.inl (fun hn => Or.inr (fun e => hn ?_))), hne⟩
    rcases ho.2 with ⟨rfl, _⟩ | ⟨q, cap', cur, fz, rfl, hq, _⟩
    · rfl
    · simp only [Value.ownBlock] at e
      have := h1.1 q e.symm
      omega
  exact h7.elim (fun x => .inl (hb _ x)) (fun x => .inr (hb _ x))
theorem builder_away {w W w1 : World} {gr gB : Nat} {rc : Array Value} {vo vf v1 : Value} {x5 x6 : List Int} {X : ByteArray} (h : RowInv w gr gB rc vo vf x5 x6 X W) (hg : W.grownBy w1 vo.ownBlock) (hat : v1.ownBlock = vo.ownBlock ∨ ∃ b, v1.ownBlock = some b ∧ W.heap.size ≤ b) :
    ∀ k, v1.ownBlock = some k → ∀ v, w1.cell? ⟨gB, 1, none⟩ = some v → v.ownBlock ≠ some k := by
  intro k hk v hv hvk
  have hbb := h.2.2.2.2.2.2.1
  obtain ⟨p, hB, u, hu, ho, hne⟩ : ∃ p, Lib.BuilderAtF 126 5 gB gB p (Lib.byteCells X.data.toList) W := hbb.elim (fun x => ⟨_, x⟩) (fun x => ⟨_, x⟩)
  have hgB : w1.heap[gB]? = W.heap[gB]? := hg.block gB (blk_lt hu) (fun e => by have := h.1.1 gB e.symm; omega)
  have e1 : w1.cell? ⟨gB, 1, none⟩ = some u := by rw [blk_cell (hgB.trans hu) 1]; rfl
  rw [e1] at hv
  obtain rfl := Option.some.inj hv
  rcases ho.2 with ⟨rfl, _⟩ | ⟨q, cap', cur, fz, rfl, hq, hqq, _⟩
  · simp [Value.ownBlock] at hvk
  · simp only [Value.ownBlock, Option.some.injEq] at hvk
    subst hvk
    have hlt := blk_lt hqq
    rcases hat with e | ⟨b, e, hb⟩
    · have := h.1.1 q (e ▸ hk)
      omega
    · rw [e] at hk
      injection hk with hk
      omega
set_option maxHeartbeats 2000000 in
set_option maxRecDepth 100000 in
theorem builder_string (b : Nat) (l : List UInt8) (w : World) (h : Lib.IsBuilderF 126 5 b b (Lib.byteCells l) w) (h0 : l ≠ []) :
    Calls Tryz.prog 112 #[.pointer (some ⟨b, 0, none⟩)] w fun e w' => e = .returned (.string ⟨l.toArray⟩) ∧ Below b w w' ∧ ∀ k o, w.heap[k]? = some o → (∀ v, w.cell? ⟨b, 1, none⟩ = some v → v.ownBlock ≠ some k) → w'.heap[k]? = some o := by
  obtain ⟨p, hB, v, hbk, hown, hne⟩ : ∃ p, Lib.BuilderAtF 126 5 b b p (Lib.byteCells l) w := h.elim (fun x => ⟨_, x⟩) (fun x => ⟨_, x⟩)
  have hl0 : l.length ≠ 0 := by simpa using h0
  rw [Lib.byteCells_length] at hown
  obtain ⟨g, cap, cur, fz, rfl, hbg, hg, hfz, hnc, hcm, hcs, htake⟩ : ∃ g cap cur fz, v = .slice (some ⟨g, 0, none⟩) l.length cap ∧ b ≤ g ∧ w.heap[g]? = some (.cells cur 5 fz) ∧ fz.2 ≤ l.length * 1 ∧ l.length ≤ cap ∧ cap ≤ maxLen ∧ cur.size = cap * 1 ∧ cur.toList.take (l.length * 1) = Lib.byteCells l := by
    rcases hown.2 with ⟨_, hz⟩ | ⟨g, cap, cur, fz, hv, r⟩
    · exact absurd hz hl0
    · exact ⟨g, cap, cur, fz, hv, r⟩
  have c1 : w.drew.cell? ⟨b, 1, none⟩ = some (.slice (some ⟨g, 0, none⟩) l.length cap) := by
    have : w.drew.heap[b]? = some (.cells #[p, .slice (some ⟨g, 0, none⟩) l.length cap] 126 (0, 0)) := hbk
    rw [Lib.cell_of_heap this]; rfl
  have hSD : (Builtin.unsafeSliceData_ #[37] 157 #[.slice (some ⟨g, 0, none⟩) l.length cap]).run Tryz.prog w.drew = .ok (.pointer (some ⟨g, 0, none⟩)) w.drew :=
    Lib.run_unsafeSliceData_row _ _ _ _ _ _ (by omega)
  have hUS : (Builtin.unsafeString_ #[157, 3] 9 #[.pointer (some ⟨g, 0, none⟩), .int .i64 l.length]).run Tryz.prog w.drew = .ok (.string ⟨l.toArray⟩) (w.drew.freeze ⟨g, 0, none⟩ l.length) := by
    refine Lib.run_unsafeString_row w.drew 157 3 9 5 Tryz.underlying157 (by kernel_rfl) g cur.size (by have hg' : w.drew.heap[g]? = some (.cells cur 5 fz) := hg; simp [World.shape?, hg']) l h0 (by omega) (by unfold maxLen at hcm; omega) ?_
    intro j x hx
    have := hown.cells (g := g) rfl j (.int .u8 x.toNat) (by simp [Lib.byteCells, hx])
    exact this
  have hcell : w.cell? ⟨b, 1, none⟩ = some (.slice (some ⟨g, 0, none⟩) l.length cap) := by
    rw [blk_cell hbk 1]; rfl
  have hfz : ∀ k, k ≠ g → (w.drew.freeze ⟨g, 0, none⟩ l.length).heap[k]? = w.heap[k]? := by
    intro k hk
    unfold World.freeze
    split
    · rfl
    · simp only [Array.getElem?_modify]
      rw [if_neg (fun e => hk e.symm)]
      rfl
  have hfin : Below b w (w.drew.freeze ⟨g, 0, none⟩ l.length) ∧ ∀ k o, w.heap[k]? = some o → (∀ v, w.cell? ⟨b, 1, none⟩ = some v → v.ownBlock ≠ some k) → (w.drew.freeze ⟨g, 0, none⟩ l.length).heap[k]? = some o := by
    refine ⟨⟨?_, ?_, ?_, ?_, fun k hk => hfz k (by omega)⟩, fun k o ho hv => (hfz k (fun e => hv _ hcell (by subst e; simp [Value.ownBlock]))).trans ho⟩
    · unfold World.freeze; split <;> rfl
    · unfold World.freeze; split <;> rfl
    · unfold World.freeze; split <;> rfl
    · unfold World.freeze
      split
      · exact Nat.le_refl _
      · show _ ≤ (Array.modify _ _ _).size
        rw [Array.size_modify]
        exact Nat.le_refl _
  have HF := Aside0.mk hfin
  clear hfin hfz hcell hg hown hbk hbg hne hB hcm hcs htake h hl0
  have hu126 := Tryz.underlying126
  have hu124 := Tryz.underlying124
  go_enter Tryz.func112, Tryz.ntmps112
  go_wp2
  go_region
  all_goals (go_wp2; go_ret; exact ⟨rfl, HF.out⟩)
end Go.Proofs.YtldpdidlfbphcaaGreatDoor.P
end
section
namespace Go.Proofs.YtldpdidlfbphcaaGreatDoor.P
open Go.RowKit Go.Proofs.YtldpdidlfbphcaaGreatDoorW.PrintWords Go.Proofs.YtldpdidlfbphcaaGreatDoorW.PrintLast Go.Proofs.YtldpdidlfbphcaaGreatDoorW.PrintMore
attribute [local go_sem] max2_int min2_int max_two min_two max_three min_three max_four min_four
theorem eqA25 (d : Nat) (w : World) (x0 y0 : Int) (x1 y1 : Int) (x2 y2 : ByteArray) :
    (Op.equalIn (d + 2) 25 (.agg #[.int .i64 x0, .int .i64 x1, .string x2]) (.agg #[.int .i64 y0, .int .i64 y1, .string y2])).run Tryz.prog w = .ok (x0 == y0 && (x1 == y1 && (x2.toList == y2.toList))) w := by
  refine eqA_of Tryz.underlying25 (by kernel_rfl) ?_
  refine eqf_cons (by rfl) (by go_simp; rfl) (by go_simp; rfl) (by go_simp) ?_
  refine eqf_cons (by rfl) (by go_simp; rfl) (by go_simp; rfl) (by go_simp) ?_
  exact eqf_last (by rfl) (by go_simp; rfl) (by go_simp; rfl) (by go_simp)
end Go.Proofs.YtldpdidlfbphcaaGreatDoor.P
end
section
namespace Go.Proofs.YtldpdidlfbphcaaGreatDoor.P
open Go.RowKit Go.Proofs.YtldpdidlfbphcaaGreatDoorW.PrintWords Go.Proofs.YtldpdidlfbphcaaGreatDoorW.PrintLast Go.Proofs.YtldpdidlfbphcaaGreatDoorW.PrintMore
attribute [local go_sem] max2_int min2_int max_two min_two max_three min_three max_four min_four
attribute [local go_sem high] eqA25
def table_holds.f (k : Nat) (a0_0 : ByteArray) (a0_1 : Int) (a0_2 : Int) (a0_3 : Bool) (a1 : Int) (a2_0 : Int) (a2_1 : Int) (a2_2 : ByteArray) : Option (Bool) := if a2_0 = 0 then (if a0_3 = true then (some (a2_0 == 0 && (a2_1 == 0 && (a2_2.toList == ([] : List UInt8))))) else (some false)) else ((val_Validate.f k a2_0 a2_1 a2_2).bind fun t176 => (if t176 = 0 then ((table_Fit.f a0_0 a0_1 a0_2 a0_3 a1 a2_0 a2_1 a2_2).bind fun bt177 => (if bt177.2.2.2 = 0 then (some (bt177.1 == a2_0 && (bt177.2.1 == a2_1 && (bt177.2.2.1.toList == a2_2.toList)))) else (some false))) else (some false)))
theorem table_holds.mono : ∀ a0 a1 a2 a3 a4 a5 a6 a7 k, LeO (table_holds.f k a0 a1 a2 a3 a4 a5 a6 a7) (table_holds.f (k + 1) a0 a1 a2 a3 a4 a5 a6 a7) := by
  intro a0 a1 a2 a3 a4 a5 a6 a7 k
  unfold table_holds.f
  repeat' first
      | (with_reducible exact val_Validate.mono _ _ _ _)
      | (with_reducible exact LeO.refl _)
      | (with_reducible exact LeO.none _)
      | (with_reducible refine LeO.ite ?_ ?_)
      | (with_reducible refine LeO.bind ?_ (fun _ => ?_))
      | exact val_Validate.mono _ _ _ _
      | exact LeO.none _
      | refine LeO.ite ?_ ?_
      | refine LeO.bind ?_ (fun _ => ?_)
set_option maxHeartbeats 8000000 in
set_option maxRecDepth 100000 in
theorem table_holds.calls (k : Nat) (a0_0 : ByteArray) (a0_1 : Int) (a0_2 : Int) (a0_3 : Bool) (a1 : Int) (a2_0 : Int) (a2_1 : Int) (a2_2 : ByteArray) (r : Bool) (w : World) (h : table_holds.f k a0_0 a0_1 a0_2 a0_3 a1 a2_0 a2_1 a2_2 = some r) :
    Calls Tryz.prog 73 #[.agg #[.string a0_0, .int .i64 a0_1, .int .i64 a0_2, .bool a0_3], .int .i64 a1, .agg #[.int .i64 a2_0, .int .i64 a2_1, .string a2_2]] w fun e w' => e = .returned (.bool r) ∧ Below w.heap.size w w' := by
  have hu23 := Tryz.underlying23
  have hu25 := Tryz.underlying25
  have HB := Aside0.mk (Below.refl w.heap.size w)
  have H : (if a2_0 = 0 then (if a0_3 = true then (some (a2_0 == 0 && (a2_1 == 0 && (a2_2.toList == ([] : List UInt8))))) else (some false)) else ((val_Validate.f k a2_0 a2_1 a2_2).bind fun t176 => (if t176 = 0 then ((table_Fit.f a0_0 a0_1 a0_2 a0_3 a1 a2_0 a2_1 a2_2).bind fun bt177 => (if bt177.2.2.2 = 0 then (some (bt177.1 == a2_0 && (bt177.2.1 == a2_1 && (bt177.2.2.1.toList == a2_2.toList)))) else (some false))) else (some false)))) = some r := h
  clear h
  by_cases c4 : a2_0 = 0
  · rw [if_pos c4] at H
    have c4b0 : (a2_0 == 0) = true := beq_iff_eq.mpr c4
    have c4b1 : (a2_0 != 0) = false := bne_eq_false_iff_eq.mpr c4
    clear c4
    by_cases c5 : a0_3 = true
    · subst c5
      have H1 : (some (a2_0 == 0 && (a2_1 == 0 && (a2_2.toList == ([] : List UInt8))))) = some r := by rw [if_pos rfl] at H; exact H
      clear H
      have H := H1
      clear H1
      obtain rfl := Option.some.inj H
      go_enter Tryz.func73, Tryz.ntmps73
      go_wp2_with (first | ((with_reducible refine gate_dst (N := 3) rfl ?_); refine box_event ?hg (N := 3) ?hd (cs := #[.string a0_0, .int .i64 a0_1, .int .i64 a0_2, .bool true]) (t := 23) ?hr ?_; (case hd => rfl); (case hg => rfl); (case hr => go_simp; try rfl); intro gb174 hg w6 hbox hb; have n0_ := Aside0.mk (below_step HB.out hb); have n1_ := Aside0.mk (hbox); have n3_ := Aside0.mk ((by rw [hg]; exact (below_size HB.out) : w.heap.size ≤ gb174)); clear HB; have HB := n0_; have BK174 := n1_; have GE174 := n3_; clear n0_ n1_ n3_; clear hb hbox hg) | ((with_reducible refine gate_dst (N := 5) rfl ?_); refine box_event ?hg (N := 5) ?hd (cs := #[.int .i64 a2_0, .int .i64 a2_1, .string a2_2]) (t := 25) ?hr ?_; (case hd => rfl); (case hg => rfl); (case hr => go_simp; try rfl); intro gb175 hg w7 hbox hb; have n0_ := Aside0.mk (blk_below (g := gb174) (o := .cells #[.string a0_0, .int .i64 a0_1, .int .i64 a0_2, .bool true] 23 (0, 0)) BK174.out hb); have n1_ := Aside0.mk (below_step HB.out hb); have n2_ := Aside0.mk (hbox); have n4_ := Aside0.mk ((by rw [hg]; exact (below_size HB.out) : w.heap.size ≤ gb175)); have n5_ := Aside0.mk ((by rw [hg]; exact Nat.ne_of_lt (blk_lt (g := gb174) (o := .cells #[.string a0_0, .int .i64 a0_1, .int .i64 a0_2, .bool true] 23 (0, 0)) BK174.out) : gb174 ≠ gb175)); have n6_ := Aside0.mk ((by rw [hg]; exact Nat.ne_of_gt (blk_lt (g := gb174) (o := .cells #[.string a0_0, .int .i64 a0_1, .int .i64 a0_2, .bool true] 23 (0, 0)) BK174.out) : gb175 ≠ gb174)); clear BK174; clear HB; have BK174 := n0_; have HB := n1_; have BK175 := n2_; have GE175 := n4_; have NB174_175 := n5_; have NB175_174 := n6_; clear n0_ n1_ n2_ n4_ n5_ n6_; clear hb hbox hg; have hnb8 := NB175_174.out; have hnc8 := NB174_175.out; have hcz9_0 : w7.cell? ⟨gb175, 0, none⟩ = some (.int .i64 a2_0) := (blk_cell BK175.out 0).trans rfl; have hcz9_1 : w7.cell? ⟨gb175, 1, none⟩ = some (.int .i64 a2_1) := (blk_cell BK175.out 1).trans rfl; have hcz9_2 : w7.cell? ⟨gb175, 2, none⟩ = some (.string a2_2) := (blk_cell BK175.out 2).trans rfl; have hfz9_0 := blk_frozen BK175.out 0; have hfz9_1 := blk_frozen BK175.out 1; have hfz9_2 := blk_frozen BK175.out 2; have hcz10_0 : w7.cell? ⟨gb174, 0, none⟩ = some (.string a0_0) := (blk_cell BK174.out 0).trans rfl; have hcz10_1 : w7.cell? ⟨gb174, 1, none⟩ = some (.int .i64 a0_1) := (blk_cell BK174.out 1).trans rfl; have hcz10_2 : w7.cell? ⟨gb174, 2, none⟩ = some (.int .i64 a0_2) := (blk_cell BK174.out 2).trans rfl; have hcz10_3 : w7.cell? ⟨gb174, 3, none⟩ = some (.bool true) := (blk_cell BK174.out 3).trans rfl; have hfz10_0 := blk_frozen BK174.out 0; have hfz10_1 := blk_frozen BK174.out 1; have hfz10_2 := blk_frozen BK174.out 2; have hfz10_3 := blk_frozen BK174.out 3))
      go_ret
      exact ⟨rfl, by repeat (first | (with_reducible first | exact HB.out | apply below_alloc | apply pw_below_drewN | apply below_drew1 | refine below_set ?_ GE174.out | refine below_set ?_ GE175.out) | exact HB.out)⟩
    · replace c5 := Bool.eq_false_iff.mpr c5
      subst c5
      have H1 : (some false) = some r := by rw [if_neg (show ¬ (false = true) by decide)] at H; exact H
      clear H
      have H := H1
      clear H1
      obtain rfl := Option.some.inj H
      go_enter Tryz.func73, Tryz.ntmps73
      go_wp2_with (first | ((with_reducible refine gate_dst (N := 3) rfl ?_); refine box_event ?hg (N := 3) ?hd (cs := #[.string a0_0, .int .i64 a0_1, .int .i64 a0_2, .bool false]) (t := 23) ?hr ?_; (case hd => rfl); (case hg => rfl); (case hr => go_simp; try rfl); intro gb174 hg w11 hbox hb; have n0_ := Aside0.mk (below_step HB.out hb); have n1_ := Aside0.mk (hbox); have n3_ := Aside0.mk ((by rw [hg]; exact (below_size HB.out) : w.heap.size ≤ gb174)); clear HB; have HB := n0_; have BK174 := n1_; have GE174 := n3_; clear n0_ n1_ n3_; clear hb hbox hg) | ((with_reducible refine gate_dst (N := 5) rfl ?_); refine box_event ?hg (N := 5) ?hd (cs := #[.int .i64 a2_0, .int .i64 a2_1, .string a2_2]) (t := 25) ?hr ?_; (case hd => rfl); (case hg => rfl); (case hr => go_simp; try rfl); intro gb175 hg w12 hbox hb; have n0_ := Aside0.mk (blk_below (g := gb174) (o := .cells #[.string a0_0, .int .i64 a0_1, .int .i64 a0_2, .bool false] 23 (0, 0)) BK174.out hb); have n1_ := Aside0.mk (below_step HB.out hb); have n2_ := Aside0.mk (hbox); have n4_ := Aside0.mk ((by rw [hg]; exact (below_size HB.out) : w.heap.size ≤ gb175)); have n5_ := Aside0.mk ((by rw [hg]; exact Nat.ne_of_lt (blk_lt (g := gb174) (o := .cells #[.string a0_0, .int .i64 a0_1, .int .i64 a0_2, .bool false] 23 (0, 0)) BK174.out) : gb174 ≠ gb175)); have n6_ := Aside0.mk ((by rw [hg]; exact Nat.ne_of_gt (blk_lt (g := gb174) (o := .cells #[.string a0_0, .int .i64 a0_1, .int .i64 a0_2, .bool false] 23 (0, 0)) BK174.out) : gb175 ≠ gb174)); clear BK174; clear HB; have BK174 := n0_; have HB := n1_; have BK175 := n2_; have GE175 := n4_; have NB174_175 := n5_; have NB175_174 := n6_; clear n0_ n1_ n2_ n4_ n5_ n6_; clear hb hbox hg; have hnb13 := NB175_174.out; have hnc13 := NB174_175.out; have hcz14_0 : w12.cell? ⟨gb175, 0, none⟩ = some (.int .i64 a2_0) := (blk_cell BK175.out 0).trans rfl; have hcz14_1 : w12.cell? ⟨gb175, 1, none⟩ = some (.int .i64 a2_1) := (blk_cell BK175.out 1).trans rfl; have hcz14_2 : w12.cell? ⟨gb175, 2, none⟩ = some (.string a2_2) := (blk_cell BK175.out 2).trans rfl; have hfz14_0 := blk_frozen BK175.out 0; have hfz14_1 := blk_frozen BK175.out 1; have hfz14_2 := blk_frozen BK175.out 2; have hcz15_0 : w12.cell? ⟨gb174, 0, none⟩ = some (.string a0_0) := (blk_cell BK174.out 0).trans rfl; have hcz15_1 : w12.cell? ⟨gb174, 1, none⟩ = some (.int .i64 a0_1) := (blk_cell BK174.out 1).trans rfl; have hcz15_2 : w12.cell? ⟨gb174, 2, none⟩ = some (.int .i64 a0_2) := (blk_cell BK174.out 2).trans rfl; have hcz15_3 : w12.cell? ⟨gb174, 3, none⟩ = some (.bool false) := (blk_cell BK174.out 3).trans rfl; have hfz15_0 := blk_frozen BK174.out 0; have hfz15_1 := blk_frozen BK174.out 1; have hfz15_2 := blk_frozen BK174.out 2; have hfz15_3 := blk_frozen BK174.out 3))
      go_ret
      exact ⟨rfl, by repeat (first | (with_reducible first | exact HB.out | apply below_alloc | apply pw_below_drewN | apply below_drew1 | refine below_set ?_ GE174.out | refine below_set ?_ GE175.out) | exact HB.out)⟩
  · rw [if_neg c4] at H
    have c4b0 : (a2_0 == 0) = false := beq_eq_false_iff_ne.mpr c4
    have c4b1 : (a2_0 != 0) = true := bne_iff_ne.mpr c4
    replace H := Option.bind_eq_some_iff.mp H
    obtain ⟨t176, A160, H⟩ := H
    replace H : (if t176 = 0 then ((table_Fit.f a0_0 a0_1 a0_2 a0_3 a1 a2_0 a2_1 a2_2).bind fun bt177 => (if bt177.2.2.2 = 0 then (some (bt177.1 == a2_0 && (bt177.2.1 == a2_1 && (bt177.2.2.1.toList == a2_2.toList)))) else (some false))) else (some false)) = some r := H
    have A16 := Aside0.mk A160
    clear A160
    by_cases c17 : t176 = 0
    · rw [if_pos c17] at H
      have c17b0 : (t176 == 0) = true := beq_iff_eq.mpr c17
      have c17b1 : (t176 != 0) = false := bne_eq_false_iff_eq.mpr c17
      clear c17
      replace H := Option.bind_eq_some_iff.mp H
      obtain ⟨⟨t177, t178, t179, t180⟩, A180, H⟩ := H
      replace H : (if t180 = 0 then (some (t177 == a2_0 && (t178 == a2_1 && (t179.toList == a2_2.toList)))) else (some false)) = some r := H
      have A18 := Aside0.mk A180
      clear A180
      by_cases c19 : t180 = 0
      · rw [if_pos c19] at H
        have c19b0 : (t180 == 0) = true := beq_iff_eq.mpr c19
        have c19b1 : (t180 != 0) = false := bne_eq_false_iff_eq.mpr c19
        clear c19
        obtain rfl := Option.some.inj H
        go_enter Tryz.func73, Tryz.ntmps73
        go_wp2_with (first | ((with_reducible refine gate_dst (N := 3) rfl ?_); refine box_event ?hg (N := 3) ?hd (cs := #[.string a0_0, .int .i64 a0_1, .int .i64 a0_2, .bool a0_3]) (t := 23) ?hr ?_; (case hd => rfl); (case hg => rfl); (case hr => go_simp; try rfl); intro gb174 hg w20 hbox hb; have n0_ := Aside0.mk (below_step HB.out hb); have n1_ := Aside0.mk (hbox); have n3_ := Aside0.mk ((by rw [hg]; exact (below_size HB.out) : w.heap.size ≤ gb174)); clear HB; have HB := n0_; have BK174 := n1_; have GE174 := n3_; clear n0_ n1_ n3_; clear hb hbox hg) | ((with_reducible refine gate_dst (N := 5) rfl ?_); refine box_event ?hg (N := 5) ?hd (cs := #[.int .i64 a2_0, .int .i64 a2_1, .string a2_2]) (t := 25) ?hr ?_; (case hd => rfl); (case hg => rfl); (case hr => go_simp; try rfl); intro gb175 hg w21 hbox hb; have n0_ := Aside0.mk (blk_below (g := gb174) (o := .cells #[.string a0_0, .int .i64 a0_1, .int .i64 a0_2, .bool a0_3] 23 (0, 0)) BK174.out hb); have n1_ := Aside0.mk (below_step HB.out hb); have n2_ := Aside0.mk (hbox); have n4_ := Aside0.mk ((by rw [hg]; exact (below_size HB.out) : w.heap.size ≤ gb175)); have n5_ := Aside0.mk ((by rw [hg]; exact Nat.ne_of_lt (blk_lt (g := gb174) (o := .cells #[.string a0_0, .int .i64 a0_1, .int .i64 a0_2, .bool a0_3] 23 (0, 0)) BK174.out) : gb174 ≠ gb175)); have n6_ := Aside0.mk ((by rw [hg]; exact Nat.ne_of_gt (blk_lt (g := gb174) (o := .cells #[.string a0_0, .int .i64 a0_1, .int .i64 a0_2, .bool a0_3] 23 (0, 0)) BK174.out) : gb175 ≠ gb174)); clear BK174; clear HB; have BK174 := n0_; have HB := n1_; have BK175 := n2_; have GE175 := n4_; have NB174_175 := n5_; have NB175_174 := n6_; clear n0_ n1_ n2_ n4_ n5_ n6_; clear hb hbox hg; have hnb22 := NB175_174.out; have hnc22 := NB174_175.out; have hcz23_0 : w21.cell? ⟨gb175, 0, none⟩ = some (.int .i64 a2_0) := (blk_cell BK175.out 0).trans rfl; have hcz23_1 : w21.cell? ⟨gb175, 1, none⟩ = some (.int .i64 a2_1) := (blk_cell BK175.out 1).trans rfl; have hcz23_2 : w21.cell? ⟨gb175, 2, none⟩ = some (.string a2_2) := (blk_cell BK175.out 2).trans rfl; have hfz23_0 := blk_frozen BK175.out 0; have hfz23_1 := blk_frozen BK175.out 1; have hfz23_2 := blk_frozen BK175.out 2) | ((with_reducible refine gate_callee (f := 49) rfl ?_); refine goesL_ (some 20) rfl rfl Tryz.func49 (by kernel_rfl) rfl #[.agg #[.int .i64 a2_0, .int .i64 a2_1, .string a2_2]] rfl (by (try simp only [List.map_toArray, List.map_cons, List.map_nil]); first | done | rfl) ?_; (with_reducible refine (val_Validate.calls k a2_0 a2_1 a2_2 t176 _ A16.out).mono ?_); rintro e w24 ⟨rfl, hb⟩; refine ⟨_, rfl, ?_⟩; have n0_ := Aside0.mk (blk_below (g := gb174) (o := .cells #[.string a0_0, .int .i64 a0_1, .int .i64 a0_2, .bool a0_3] 23 (0, 0)) BK174.out hb); have n1_ := Aside0.mk (blk_below (g := gb175) (o := .cells #[.int .i64 a2_0, .int .i64 a2_1, .string a2_2] 25 (0, 0)) BK175.out hb); have n2_ := Aside0.mk (below_step HB.out hb); clear BK174; clear BK175; clear HB; have BK174 := n0_; have BK175 := n1_; have HB := n2_; clear n0_ n1_ n2_; (try clear hb); (try clear hb2); (try clear hk); (try clear hi); have hcz25_0 : w24.cell? ⟨gb174, 0, none⟩ = some (.string a0_0) := (blk_cell BK174.out 0).trans rfl; have hcz25_1 : w24.cell? ⟨gb174, 1, none⟩ = some (.int .i64 a0_1) := (blk_cell BK174.out 1).trans rfl; have hcz25_2 : w24.cell? ⟨gb174, 2, none⟩ = some (.int .i64 a0_2) := (blk_cell BK174.out 2).trans rfl; have hcz25_3 : w24.cell? ⟨gb174, 3, none⟩ = some (.bool a0_3) := (blk_cell BK174.out 3).trans rfl; have hfz25_0 := blk_frozen BK174.out 0; have hfz25_1 := blk_frozen BK174.out 1; have hfz25_2 := blk_frozen BK174.out 2; have hfz25_3 := blk_frozen BK174.out 3; have hcz26_0 : w24.cell? ⟨gb175, 0, none⟩ = some (.int .i64 a2_0) := (blk_cell BK175.out 0).trans rfl; have hcz26_1 : w24.cell? ⟨gb175, 1, none⟩ = some (.int .i64 a2_1) := (blk_cell BK175.out 1).trans rfl; have hcz26_2 : w24.cell? ⟨gb175, 2, none⟩ = some (.string a2_2) := (blk_cell BK175.out 2).trans rfl; have hfz26_0 := blk_frozen BK175.out 0; have hfz26_1 := blk_frozen BK175.out 1; have hfz26_2 := blk_frozen BK175.out 2) | ((with_reducible refine gate_callee (f := 13) rfl ?_); refine goesL_ (some 26) rfl rfl Tryz.func13 (by kernel_rfl) rfl #[.agg #[.string a0_0, .int .i64 a0_1, .int .i64 a0_2, .bool a0_3], .int .i64 a1, .agg #[.int .i64 a2_0, .int .i64 a2_1, .string a2_2]] rfl (by (try simp only [List.map_toArray, List.map_cons, List.map_nil]); first | done | rfl) ?_; (with_reducible refine (table_Fit.calls a0_0 a0_1 a0_2 a0_3 a1 a2_0 a2_1 a2_2 t177 t178 t179 t180 _ A18.out).mono ?_); rintro e w27 ⟨rfl, hb⟩; refine ⟨_, rfl, ?_⟩; have n0_ := Aside0.mk (blk_below (g := gb174) (o := .cells #[.string a0_0, .int .i64 a0_1, .int .i64 a0_2, .bool a0_3] 23 (0, 0)) BK174.out hb); have n1_ := Aside0.mk (blk_below (g := gb175) (o := .cells #[.int .i64 a2_0, .int .i64 a2_1, .string a2_2] 25 (0, 0)) BK175.out hb); have n2_ := Aside0.mk (below_step HB.out hb); clear BK174; clear BK175; clear HB; have BK174 := n0_; have BK175 := n1_; have HB := n2_; clear n0_ n1_ n2_; (try clear hb); (try clear hb2); (try clear hk); (try clear hi)) | ((with_reducible refine gate_dst (N := 7) rfl ?_); refine box_event ?hg (N := 7) ?hd (cs := #[.int .i64 0, .int .i64 0, .string (⟨#[]⟩ : ByteArray)]) (t := 25) ?hr ?_; (case hd => rfl); (case hg => rfl); (case hr => go_simp; try rfl); intro gb181 hg w28 hbox hb; have n0_ := Aside0.mk (blk_below (g := gb174) (o := .cells #[.string a0_0, .int .i64 a0_1, .int .i64 a0_2, .bool a0_3] 23 (0, 0)) BK174.out hb); have n1_ := Aside0.mk (blk_below (g := gb175) (o := .cells #[.int .i64 a2_0, .int .i64 a2_1, .string a2_2] 25 (0, 0)) BK175.out hb); have n2_ := Aside0.mk (below_step HB.out hb); have n3_ := Aside0.mk (hbox); have n5_ := Aside0.mk ((by rw [hg]; exact (below_size HB.out) : w.heap.size ≤ gb181)); have n6_ := Aside0.mk ((by rw [hg]; exact Nat.ne_of_lt (blk_lt (g := gb174) (o := .cells #[.string a0_0, .int .i64 a0_1, .int .i64 a0_2, .bool a0_3] 23 (0, 0)) BK174.out) : gb174 ≠ gb181)); have n7_ := Aside0.mk ((by rw [hg]; exact Nat.ne_of_gt (blk_lt (g := gb174) (o := .cells #[.string a0_0, .int .i64 a0_1, .int .i64 a0_2, .bool a0_3] 23 (0, 0)) BK174.out) : gb181 ≠ gb174)); have n8_ := Aside0.mk ((by rw [hg]; exact Nat.ne_of_lt (blk_lt (g := gb175) (o := .cells #[.int .i64 a2_0, .int .i64 a2_1, .string a2_2] 25 (0, 0)) BK175.out) : gb175 ≠ gb181)); have n9_ := Aside0.mk ((by rw [hg]; exact Nat.ne_of_gt (blk_lt (g := gb175) (o := .cells #[.int .i64 a2_0, .int .i64 a2_1, .string a2_2] 25 (0, 0)) BK175.out) : gb181 ≠ gb175)); clear BK174; clear BK175; clear HB; have BK174 := n0_; have BK175 := n1_; have HB := n2_; have BK181 := n3_; have GE181 := n5_; have NB174_181 := n6_; have NB181_174 := n7_; have NB175_181 := n8_; have NB181_175 := n9_; clear n0_ n1_ n2_ n3_ n5_ n6_ n7_ n8_ n9_; clear hb hbox hg; have hnb29 := NB181_174.out; have hnc29 := NB174_181.out; have hnb30 := NB181_175.out; have hnc30 := NB175_181.out; have hcz31_0 : w28.cell? ⟨gb181, 0, none⟩ = some (.int .i64 0) := (blk_cell BK181.out 0).trans rfl; have hcz31_1 : w28.cell? ⟨gb181, 1, none⟩ = some (.int .i64 0) := (blk_cell BK181.out 1).trans rfl; have hcz31_2 : w28.cell? ⟨gb181, 2, none⟩ = some (.string (⟨#[]⟩ : ByteArray)) := (blk_cell BK181.out 2).trans rfl; have hfz31_0 := blk_frozen BK181.out 0; have hfz31_1 := blk_frozen BK181.out 1; have hfz31_2 := blk_frozen BK181.out 2; have hcz32_0 : w28.cell? ⟨gb175, 0, none⟩ = some (.int .i64 a2_0) := (blk_cell BK175.out 0).trans rfl; have hcz32_1 : w28.cell? ⟨gb175, 1, none⟩ = some (.int .i64 a2_1) := (blk_cell BK175.out 1).trans rfl; have hcz32_2 : w28.cell? ⟨gb175, 2, none⟩ = some (.string a2_2) := (blk_cell BK175.out 2).trans rfl; have hfz32_0 := blk_frozen BK175.out 0; have hfz32_1 := blk_frozen BK175.out 1; have hfz32_2 := blk_frozen BK175.out 2))
        go_ret
        exact ⟨rfl, by repeat (first | (with_reducible first | exact HB.out | apply below_alloc | apply pw_below_drewN | apply below_drew1 | refine below_set ?_ GE174.out | refine below_set ?_ GE175.out | refine below_set ?_ GE181.out) | exact HB.out)⟩
      · rw [if_neg c19] at H
        have c19b0 : (t180 == 0) = false := beq_eq_false_iff_ne.mpr c19
        have c19b1 : (t180 != 0) = true := bne_iff_ne.mpr c19
        obtain rfl := Option.some.inj H
        go_enter Tryz.func73, Tryz.ntmps73
        go_wp2_with (first | ((with_reducible refine gate_dst (N := 3) rfl ?_); refine box_event ?hg (N := 3) ?hd (cs := #[.string a0_0, .int .i64 a0_1, .int .i64 a0_2, .bool a0_3]) (t := 23) ?hr ?_; (case hd => rfl); (case hg => rfl); (case hr => go_simp; try rfl); intro gb174 hg w33 hbox hb; have n0_ := Aside0.mk (below_step HB.out hb); have n1_ := Aside0.mk (hbox); have n3_ := Aside0.mk ((by rw [hg]; exact (below_size HB.out) : w.heap.size ≤ gb174)); clear HB; have HB := n0_; have BK174 := n1_; have GE174 := n3_; clear n0_ n1_ n3_; clear hb hbox hg) | ((with_reducible refine gate_dst (N := 5) rfl ?_); refine box_event ?hg (N := 5) ?hd (cs := #[.int .i64 a2_0, .int .i64 a2_1, .string a2_2]) (t := 25) ?hr ?_; (case hd => rfl); (case hg => rfl); (case hr => go_simp; try rfl); intro gb175 hg w34 hbox hb; have n0_ := Aside0.mk (blk_below (g := gb174) (o := .cells #[.string a0_0, .int .i64 a0_1, .int .i64 a0_2, .bool a0_3] 23 (0, 0)) BK174.out hb); have n1_ := Aside0.mk (below_step HB.out hb); have n2_ := Aside0.mk (hbox); have n4_ := Aside0.mk ((by rw [hg]; exact (below_size HB.out) : w.heap.size ≤ gb175)); have n5_ := Aside0.mk ((by rw [hg]; exact Nat.ne_of_lt (blk_lt (g := gb174) (o := .cells #[.string a0_0, .int .i64 a0_1, .int .i64 a0_2, .bool a0_3] 23 (0, 0)) BK174.out) : gb174 ≠ gb175)); have n6_ := Aside0.mk ((by rw [hg]; exact Nat.ne_of_gt (blk_lt (g := gb174) (o := .cells #[.string a0_0, .int .i64 a0_1, .int .i64 a0_2, .bool a0_3] 23 (0, 0)) BK174.out) : gb175 ≠ gb174)); clear BK174; clear HB; have BK174 := n0_; have HB := n1_; have BK175 := n2_; have GE175 := n4_; have NB174_175 := n5_; have NB175_174 := n6_; clear n0_ n1_ n2_ n4_ n5_ n6_; clear hb hbox hg; have hnb35 := NB175_174.out; have hnc35 := NB174_175.out; have hcz36_0 : w34.cell? ⟨gb175, 0, none⟩ = some (.int .i64 a2_0) := (blk_cell BK175.out 0).trans rfl; have hcz36_1 : w34.cell? ⟨gb175, 1, none⟩ = some (.int .i64 a2_1) := (blk_cell BK175.out 1).trans rfl; have hcz36_2 : w34.cell? ⟨gb175, 2, none⟩ = some (.string a2_2) := (blk_cell BK175.out 2).trans rfl; have hfz36_0 := blk_frozen BK175.out 0; have hfz36_1 := blk_frozen BK175.out 1; have hfz36_2 := blk_frozen BK175.out 2) | ((with_reducible refine gate_callee (f := 49) rfl ?_); refine goesL_ (some 20) rfl rfl Tryz.func49 (by kernel_rfl) rfl #[.agg #[.int .i64 a2_0, .int .i64 a2_1, .string a2_2]] rfl (by (try simp only [List.map_toArray, List.map_cons, List.map_nil]); first | done | rfl) ?_; (with_reducible refine (val_Validate.calls k a2_0 a2_1 a2_2 t176 _ A16.out).mono ?_); rintro e w37 ⟨rfl, hb⟩; refine ⟨_, rfl, ?_⟩; have n0_ := Aside0.mk (blk_below (g := gb174) (o := .cells #[.string a0_0, .int .i64 a0_1, .int .i64 a0_2, .bool a0_3] 23 (0, 0)) BK174.out hb); have n1_ := Aside0.mk (blk_below (g := gb175) (o := .cells #[.int .i64 a2_0, .int .i64 a2_1, .string a2_2] 25 (0, 0)) BK175.out hb); have n2_ := Aside0.mk (below_step HB.out hb); clear BK174; clear BK175; clear HB; have BK174 := n0_; have BK175 := n1_; have HB := n2_; clear n0_ n1_ n2_; (try clear hb); (try clear hb2); (try clear hk); (try clear hi); have hcz38_0 : w37.cell? ⟨gb174, 0, none⟩ = some (.string a0_0) := (blk_cell BK174.out 0).trans rfl; have hcz38_1 : w37.cell? ⟨gb174, 1, none⟩ = some (.int .i64 a0_1) := (blk_cell BK174.out 1).trans rfl; have hcz38_2 : w37.cell? ⟨gb174, 2, none⟩ = some (.int .i64 a0_2) := (blk_cell BK174.out 2).trans rfl; have hcz38_3 : w37.cell? ⟨gb174, 3, none⟩ = some (.bool a0_3) := (blk_cell BK174.out 3).trans rfl; have hfz38_0 := blk_frozen BK174.out 0; have hfz38_1 := blk_frozen BK174.out 1; have hfz38_2 := blk_frozen BK174.out 2; have hfz38_3 := blk_frozen BK174.out 3; have hcz39_0 : w37.cell? ⟨gb175, 0, none⟩ = some (.int .i64 a2_0) := (blk_cell BK175.out 0).trans rfl; have hcz39_1 : w37.cell? ⟨gb175, 1, none⟩ = some (.int .i64 a2_1) := (blk_cell BK175.out 1).trans rfl; have hcz39_2 : w37.cell? ⟨gb175, 2, none⟩ = some (.string a2_2) := (blk_cell BK175.out 2).trans rfl; have hfz39_0 := blk_frozen BK175.out 0; have hfz39_1 := blk_frozen BK175.out 1; have hfz39_2 := blk_frozen BK175.out 2) | ((with_reducible refine gate_callee (f := 13) rfl ?_); refine goesL_ (some 26) rfl rfl Tryz.func13 (by kernel_rfl) rfl #[.agg #[.string a0_0, .int .i64 a0_1, .int .i64 a0_2, .bool a0_3], .int .i64 a1, .agg #[.int .i64 a2_0, .int .i64 a2_1, .string a2_2]] rfl (by (try simp only [List.map_toArray, List.map_cons, List.map_nil]); first | done | rfl) ?_; (with_reducible refine (table_Fit.calls a0_0 a0_1 a0_2 a0_3 a1 a2_0 a2_1 a2_2 t177 t178 t179 t180 _ A18.out).mono ?_); rintro e w40 ⟨rfl, hb⟩; refine ⟨_, rfl, ?_⟩; have n0_ := Aside0.mk (blk_below (g := gb174) (o := .cells #[.string a0_0, .int .i64 a0_1, .int .i64 a0_2, .bool a0_3] 23 (0, 0)) BK174.out hb); have n1_ := Aside0.mk (blk_below (g := gb175) (o := .cells #[.int .i64 a2_0, .int .i64 a2_1, .string a2_2] 25 (0, 0)) BK175.out hb); have n2_ := Aside0.mk (below_step HB.out hb); clear BK174; clear BK175; clear HB; have BK174 := n0_; have BK175 := n1_; have HB := n2_; clear n0_ n1_ n2_; (try clear hb); (try clear hb2); (try clear hk); (try clear hi)) | ((with_reducible refine gate_dst (N := 7) rfl ?_); refine box_event ?hg (N := 7) ?hd (cs := #[.int .i64 0, .int .i64 0, .string (⟨#[]⟩ : ByteArray)]) (t := 25) ?hr ?_; (case hd => rfl); (case hg => rfl); (case hr => go_simp; try rfl); intro gb181 hg w41 hbox hb; have n0_ := Aside0.mk (blk_below (g := gb174) (o := .cells #[.string a0_0, .int .i64 a0_1, .int .i64 a0_2, .bool a0_3] 23 (0, 0)) BK174.out hb); have n1_ := Aside0.mk (blk_below (g := gb175) (o := .cells #[.int .i64 a2_0, .int .i64 a2_1, .string a2_2] 25 (0, 0)) BK175.out hb); have n2_ := Aside0.mk (below_step HB.out hb); have n3_ := Aside0.mk (hbox); have n5_ := Aside0.mk ((by rw [hg]; exact (below_size HB.out) : w.heap.size ≤ gb181)); have n6_ := Aside0.mk ((by rw [hg]; exact Nat.ne_of_lt (blk_lt (g := gb174) (o := .cells #[.string a0_0, .int .i64 a0_1, .int .i64 a0_2, .bool a0_3] 23 (0, 0)) BK174.out) : gb174 ≠ gb181)); have n7_ := Aside0.mk ((by rw [hg]; exact Nat.ne_of_gt (blk_lt (g := gb174) (o := .cells #[.string a0_0, .int .i64 a0_1, .int .i64 a0_2, .bool a0_3] 23 (0, 0)) BK174.out) : gb181 ≠ gb174)); have n8_ := Aside0.mk ((by rw [hg]; exact Nat.ne_of_lt (blk_lt (g := gb175) (o := .cells #[.int .i64 a2_0, .int .i64 a2_1, .string a2_2] 25 (0, 0)) BK175.out) : gb175 ≠ gb181)); have n9_ := Aside0.mk ((by rw [hg]; exact Nat.ne_of_gt (blk_lt (g := gb175) (o := .cells #[.int .i64 a2_0, .int .i64 a2_1, .string a2_2] 25 (0, 0)) BK175.out) : gb181 ≠ gb175)); clear BK174; clear BK175; clear HB; have BK174 := n0_; have BK175 := n1_; have HB := n2_; have BK181 := n3_; have GE181 := n5_; have NB174_181 := n6_; have NB181_174 := n7_; have NB175_181 := n8_; have NB181_175 := n9_; clear n0_ n1_ n2_ n3_ n5_ n6_ n7_ n8_ n9_; clear hb hbox hg; have hnb42 := NB181_174.out; have hnc42 := NB174_181.out; have hnb43 := NB181_175.out; have hnc43 := NB175_181.out; have hcz44_0 : w41.cell? ⟨gb181, 0, none⟩ = some (.int .i64 0) := (blk_cell BK181.out 0).trans rfl; have hcz44_1 : w41.cell? ⟨gb181, 1, none⟩ = some (.int .i64 0) := (blk_cell BK181.out 1).trans rfl; have hcz44_2 : w41.cell? ⟨gb181, 2, none⟩ = some (.string (⟨#[]⟩ : ByteArray)) := (blk_cell BK181.out 2).trans rfl; have hfz44_0 := blk_frozen BK181.out 0; have hfz44_1 := blk_frozen BK181.out 1; have hfz44_2 := blk_frozen BK181.out 2))
        go_ret
        exact ⟨rfl, by repeat (first | (with_reducible first | exact HB.out | apply below_alloc | apply pw_below_drewN | apply below_drew1 | refine below_set ?_ GE174.out | refine below_set ?_ GE175.out | refine below_set ?_ GE181.out) | exact HB.out)⟩
    · rw [if_neg c17] at H
      have c17b0 : (t176 == 0) = false := beq_eq_false_iff_ne.mpr c17
      have c17b1 : (t176 != 0) = true := bne_iff_ne.mpr c17
      obtain rfl := Option.some.inj H
      go_enter Tryz.func73, Tryz.ntmps73
      go_wp2_with (first | ((with_reducible refine gate_dst (N := 3) rfl ?_); refine box_event ?hg (N := 3) ?hd (cs := #[.string a0_0, .int .i64 a0_1, .int .i64 a0_2, .bool a0_3]) (t := 23) ?hr ?_; (case hd => rfl); (case hg => rfl); (case hr => go_simp; try rfl); intro gb174 hg w45 hbox hb; have n0_ := Aside0.mk (below_step HB.out hb); have n1_ := Aside0.mk (hbox); have n3_ := Aside0.mk ((by rw [hg]; exact (below_size HB.out) : w.heap.size ≤ gb174)); clear HB; have HB := n0_; have BK174 := n1_; have GE174 := n3_; clear n0_ n1_ n3_; clear hb hbox hg) | ((with_reducible refine gate_dst (N := 5) rfl ?_); refine box_event ?hg (N := 5) ?hd (cs := #[.int .i64 a2_0, .int .i64 a2_1, .string a2_2]) (t := 25) ?hr ?_; (case hd => rfl); (case hg => rfl); (case hr => go_simp; try rfl); intro gb175 hg w46 hbox hb; have n0_ := Aside0.mk (blk_below (g := gb174) (o := .cells #[.string a0_0, .int .i64 a0_1, .int .i64 a0_2, .bool a0_3] 23 (0, 0)) BK174.out hb); have n1_ := Aside0.mk (below_step HB.out hb); have n2_ := Aside0.mk (hbox); have n4_ := Aside0.mk ((by rw [hg]; exact (below_size HB.out) : w.heap.size ≤ gb175)); have n5_ := Aside0.mk ((by rw [hg]; exact Nat.ne_of_lt (blk_lt (g := gb174) (o := .cells #[.string a0_0, .int .i64 a0_1, .int .i64 a0_2, .bool a0_3] 23 (0, 0)) BK174.out) : gb174 ≠ gb175)); have n6_ := Aside0.mk ((by rw [hg]; exact Nat.ne_of_gt (blk_lt (g := gb174) (o := .cells #[.string a0_0, .int .i64 a0_1, .int .i64 a0_2, .bool a0_3] 23 (0, 0)) BK174.out) : gb175 ≠ gb174)); clear BK174; clear HB; have BK174 := n0_; have HB := n1_; have BK175 := n2_; have GE175 := n4_; have NB174_175 := n5_; have NB175_174 := n6_; clear n0_ n1_ n2_ n4_ n5_ n6_; clear hb hbox hg; have hnb47 := NB175_174.out; have hnc47 := NB174_175.out; have hcz48_0 : w46.cell? ⟨gb175, 0, none⟩ = some (.int .i64 a2_0) := (blk_cell BK175.out 0).trans rfl; have hcz48_1 : w46.cell? ⟨gb175, 1, none⟩ = some (.int .i64 a2_1) := (blk_cell BK175.out 1).trans rfl; have hcz48_2 : w46.cell? ⟨gb175, 2, none⟩ = some (.string a2_2) := (blk_cell BK175.out 2).trans rfl; have hfz48_0 := blk_frozen BK175.out 0; have hfz48_1 := blk_frozen BK175.out 1; have hfz48_2 := blk_frozen BK175.out 2) | ((with_reducible refine gate_callee (f := 49) rfl ?_); refine goesL_ (some 20) rfl rfl Tryz.func49 (by kernel_rfl) rfl #[.agg #[.int .i64 a2_0, .int .i64 a2_1, .string a2_2]] rfl (by (try simp only [List.map_toArray, List.map_cons, List.map_nil]); first | done | rfl) ?_; (with_reducible refine (val_Validate.calls k a2_0 a2_1 a2_2 t176 _ A16.out).mono ?_); rintro e w49 ⟨rfl, hb⟩; refine ⟨_, rfl, ?_⟩; have n0_ := Aside0.mk (blk_below (g := gb174) (o := .cells #[.string a0_0, .int .i64 a0_1, .int .i64 a0_2, .bool a0_3] 23 (0, 0)) BK174.out hb); have n1_ := Aside0.mk (blk_below (g := gb175) (o := .cells #[.int .i64 a2_0, .int .i64 a2_1, .string a2_2] 25 (0, 0)) BK175.out hb); have n2_ := Aside0.mk (below_step HB.out hb); clear BK174; clear BK175; clear HB; have BK174 := n0_; have BK175 := n1_; have HB := n2_; clear n0_ n1_ n2_; (try clear hb); (try clear hb2); (try clear hk); (try clear hi)))
      go_ret
      exact ⟨rfl, by repeat (first | (with_reducible first | exact HB.out | apply below_alloc | apply pw_below_drewN | apply below_drew1 | refine below_set ?_ GE174.out | refine below_set ?_ GE175.out) | exact HB.out)⟩
end Go.Proofs.YtldpdidlfbphcaaGreatDoor.P
end
