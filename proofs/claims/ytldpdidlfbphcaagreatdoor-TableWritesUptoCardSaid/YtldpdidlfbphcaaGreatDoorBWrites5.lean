/- Part 5 of this proof: what the last part leans on. -/
import Derived.Test.YtldpdidlfbphcaaGreatDoorBWrites4
set_option linter.unusedVariables false
set_option linter.unusedSimpArgs false
set_option maxHeartbeats 8000000
set_option maxRecDepth 100000
section
namespace Go.Proofs.YtldpdidlfbphcaaGreatDoor.P
open Go.RowKit Go.Proofs.YtldpdidlfbphcaaGreatDoorW.PrintWords Go.Proofs.YtldpdidlfbphcaaGreatDoorW.PrintLast Go.Proofs.YtldpdidlfbphcaaGreatDoorW.PrintMore
theorem or_all : (List.range 8).all (fun j => (List.range (2 ^ j)).all fun x => decide (Go.bits .or .u8 (x : Int) (shl .u8 1 (j : Int)) = ((x : Int) + shl .u8 1 (j : Int)) % 256 ∧ 0 ≤ ((x : Int) + shl .u8 1 (j : Int)) % 256 ∧ ((x : Int) + shl .u8 1 (j : Int)) % 256 < 2 ^ (j + 1))) = true := by kernel_rfl
theorem or_is (x : Int) (j : Nat) (hj : j < 8) (h0 : 0 ≤ x) (hx : x < 2 ^ j) : Go.bits .or .u8 x (shl .u8 1 (j : Int)) = (x + shl .u8 1 (j : Int)) % 256 ∧ 0 ≤ (x + shl .u8 1 (j : Int)) % 256 ∧ (x + shl .u8 1 (j : Int)) % 256 < 2 ^ (j + 1) := by
 have h := List.all_eq_true.1 or_all j (List.mem_range.2 hj)
 have h2 := List.all_eq_true.1 h x.toNat (List.mem_range.2 (by
  have : ((2 ^ j : Nat) : Int) = (2 : Int) ^ j := by push_cast; rfl
  omega))
 have e : ((x.toNat : Nat) : Int) = x := by omega
 have h3 := of_decide_eq_true h2
 rw [e] at h3
 exact h3
def Unset (x6 : List Int) (b : Nat) : Prop := ∀ i : Nat, i < x6.length → (b / 8 < i → x6.getD i 0 = 0) ∧ (i = b / 8 → 0 ≤ x6.getD i 0 ∧ x6.getD i 0 < 2 ^ (b % 8))
theorem unset_next {x6 : List Int} {b : Nat} (h : Unset x6 b) : Unset x6 (b + 1) := by
 intro i hi
 obtain ⟨h1, h2⟩ := h i hi
 refine ⟨fun hlt => h1 (by omega), fun he => ?_⟩
 by_cases e : i = b / 8
 rotate_left
 ·rw [h1 (by omega)]
  exact ⟨by decide, Int.pow_pos (by decide)⟩
 obtain ⟨a, c⟩ := h2 e
 refine ⟨a, Int.lt_of_lt_of_le c ?_⟩
 have e1 : (b + 1) % 8 = b % 8 + 1 := by omega
 rw [e1, Int.pow_succ]
 have : (0 : Int) < 2 ^ (b % 8) := Int.pow_pos (by decide)
 omega
theorem unset_set {x6 : List Int} {b : Nat} (h : Unset x6 b) (y : Int) (hy0 : 0 ≤ y) (hy : y < 2 ^ (b % 8 + 1)) : Unset (x6.set (b / 8) y) (b + 1) := by
 intro i hi
 rw [List.length_set] at hi
 obtain ⟨h1, h2⟩ := h i hi
 by_cases e : i = b / 8
 ·subst e
  have g : (x6.set (b / 8) y).getD (b / 8) 0 = y := by simp [List.getD, hi]
  rw [g]
  refine ⟨fun hlt => by omega, fun he => ⟨hy0, ?_⟩⟩
  have e1 : (b + 1) % 8 = b % 8 + 1 := by omega
  rw [e1]
  exact hy
 have g : (x6.set (b / 8) y).getD i 0 = x6.getD i 0 := by
  simp [List.getD, List.getElem?_set, Ne.symm e]
 rw [g]
 refine ⟨fun hlt => h1 (by omega), fun he => ?_⟩
 rw [h1 (by omega)]
 exact ⟨by decide, Int.pow_pos (by decide)⟩
theorem unset_zero (n : Nat) : Unset (List.replicate n 0) 0 := by
 intro i hi
 have g : (List.replicate n (0 : Int)).getD i 0 = 0 := by
  simp only [List.getD, List.getElem?_replicate]
  split <;> rfl
 rw [g]
 exact ⟨fun _ => rfl, fun _ => ⟨by decide, by decide⟩⟩
theorem flag_is (f : S23) (v : S25) (x6 : List Int) (b : Nat) (hb : b ≤ 100) (h : Unset x6 b) (hl : f.f3 = true → b / 8 < x6.length) :
  ∃ y6, rowFlag f v x6 (b : Int) = some y6 ∧ y6.length = x6.length ∧ Unset y6 (if f.f3 = true then b + 1 else b) ∧ rowBit f (b : Int) = (((if f.f3 = true then b + 1 else b : Nat) : Nat) : Int) ∧
   (f.f3 = true → v.f0 = 0 → 0 ≤ wrap64 (Int.tdiv (b : Int) 8) ∧ wrap64 (Int.tdiv (b : Int) 8) < (x6.length : Int) ∧ 0 ≤ Int.tmod (b : Int) 8 ∧ y6 = x6.set (wrap64 (Int.tdiv (b : Int) 8)).toNat (((rd x6 (wrap64 (Int.tdiv (b : Int) 8))) + (shl .u8 1 (Int.tmod (b : Int) 8))) % 256)) ∧ (¬ (f.f3 = true ∧ v.f0 = 0) → y6 = x6) := by
 unfold rowFlag rowBit
 by_cases h3 : f.f3 = true
 rotate_left
 ·rw [if_neg h3, if_neg h3, if_neg h3]
  exact ⟨_, rfl, rfl, h, rfl, fun hz => absurd hz h3, fun _ => rfl⟩
 have hlen := hl h3
 have e1 : Int.tdiv (b : Int) 8 = ((b / 8 : Nat) : Int) := by rw [Int.tdiv_eq_ediv_of_nonneg (by omega)]; omega
 have e2 : Int.tmod (b : Int) 8 = ((b % 8 : Nat) : Int) := by rw [Int.tmod_eq_emod_of_nonneg (by omega)]; omega
 rw [if_pos h3, if_pos h3, if_pos h3, e1, e2, wr64 ((b / 8 : Nat) : Int) (by omega), wr64 _ (by omega)]
 by_cases h0 : v.f0 = 0
 rotate_left
 ·rw [if_neg h0]
  exact ⟨_, rfl, rfl, unset_next h, by omega, fun _ hz => absurd hz h0, fun _ => rfl⟩
 obtain ⟨u1, u2⟩ := h (b / 8) hlen
 obtain ⟨u3, u4⟩ := u2 rfl
 have er : rd x6 ((b / 8 : Nat) : Int) = x6.getD (b / 8) 0 := by unfold rd; rw [Int.toNat_natCast]
 obtain ⟨o1, o2, o3⟩ := or_is (x6.getD (b / 8) 0) (b % 8) (by omega) u3 u4
 rw [if_pos h0, if_pos (by omega), if_pos (by omega), if_pos (by omega), er, Int.toNat_natCast, o1]
 exact ⟨_, rfl, by simp, unset_set h _ o2 o3, by omega, fun _ _ => ⟨by omega, by omega, by omega, rfl⟩, fun hn => absurd ⟨h3, h0⟩ hn⟩
def flagsL : List S23 → List S25 → List Int → Int → Option (List Int)
 | [], _, x6, _ => some x6
 | _ :: _, [], _, _ => none
 | f :: fs, v :: vs, x6, b => (rowFlag f v x6 b).bind fun y6 => flagsL fs vs y6 (rowBit f b)
theorem ref_l0 (l : List S23) (vs : List S25) (hL : l.length ≤ 16) (he : l.length = vs.length) (x5 : List Int) (g : Bool) : ∀ (r : List S23) (u : List S25) (i k b : Nat) (x6 : List Int), l.drop i = r → vs.drop i = u → Unset x6 b → b + (r.filter (·.f3)).length = (l.filter (·.f3)).length → x6.length = ((l.filter (·.f3)).length + 7) / 8 → b ≤ 16 → 3 * r.length < k →
  ∃ F, flagsL r u x6 (b : Int) = some F ∧ F.length = x6.length ∧ ∃ k', k ≤ k' + 3 * r.length + 1 ∧ cabinetryref03_row.l0 k l x5 x6 (b : Int) (i : Int) g vs = (if x5.length + F.length < 140737488355328 then cabinetryref03_row.l1 k' l (x5 ++ F) 0 g vs else none)
 | [], u, i, k, b, x6, h0, h1, hu, hn, hx, hb, hk => by
  obtain ⟨m, rfl⟩ : ∃ m, k = m + 1 := ⟨k - 1, by omega⟩
  refine ⟨x6, rfl, rfl, m, by omega, ?_⟩
  simp only [cabinetryref03_row.l0]
  rw [if_neg (rd_end h0)]
 | f :: r, [], i, k, b, x6, h0, h1, hu, hn, hx, hb, hk => by
  have a := (rd_drop h0).1
  have c := List.drop_eq_nil_iff.1 h1
  omega
 | f :: r, v :: u, i, k, b, x6, h0, h1, hu, hn, hx, hb, hk => by
  obtain ⟨m, rfl⟩ : ∃ m, k = m + 3 := ⟨k - 3, by simp at hk; omega⟩
  obtain ⟨a1, a2, a3, _⟩ := rd_drop h0
  obtain ⟨c1, c2, c3⟩ := rd25_drop h1
  have hfl : (l.filter (·.f3)).length ≤ 16 := Nat.le_trans (List.length_filter_le _ _) hL
  have hl : f.f3 = true → b / 8 < x6.length := by
   intro h3
   rw [List.filter_cons_of_pos (by simpa using h3), List.length_cons] at hn
   rw [hx]
   omega
  obtain ⟨y6, y1, y2, y3, y4, y5, y7⟩ := flag_is f v x6 b (by omega) hu hl
  have hn' : (if f.f3 = true then b + 1 else b) + (r.filter (·.f3)).length = (l.filter (·.f3)).length := by
   by_cases h3 : f.f3 = true
   ·rw [List.filter_cons_of_pos (by simpa using h3), List.length_cons] at hn
    rw [if_pos h3]
    omega
   ·rw [List.filter_cons_of_neg (by simpa using h3)] at hn
    rw [if_neg h3]
    exact hn
  have hk' : 3 * r.length < m := by simp at hk; omega
  have step : ∀ k0, m ≤ k0 → k0 ≤ m + 1 → ∃ F, flagsL (f :: r) (v :: u) x6 (b : Int) = some F ∧ F.length = x6.length ∧ ∃ k', m + 3 ≤ k' + 3 * (f :: r).length + 1 ∧ cabinetryref03_row.l0 k0 l x5 y6 (((if f.f3 = true then b + 1 else b : Nat) : Nat) : Int) ((i + 1 : Nat) : Int) g vs = (if x5.length + F.length < 140737488355328 then cabinetryref03_row.l1 k' l (x5 ++ F) 0 g vs else none) := by
   intro k0 hk0 hk1
   obtain ⟨F, F1, F2, k', F3, F4⟩ := ref_l0 l vs hL he x5 g r u (i + 1) k0 _ y6 a3 c3 y3 hn' (by rw [y2, hx]) (by omega) (by omega)
   refine ⟨F, ?_, by rw [F2, y2], k', by simp; omega, F4⟩
   simp only [flagsL]
   rw [y1]
   simp only [Option.bind_some]
   rw [y4]
   exact F1
  simp only [cabinetryref03_row.l0]
  rw [if_pos (by omega), if_pos (by omega), a2, c2]
  by_cases h3 : f.f3 = true
  ·obtain ⟨F, F1, F2, k', F3, F4⟩ := step m (Nat.le_refl _) (by omega)
   refine ⟨F, F1, F2, k', F3, ?_⟩
   rw [if_pos h3] at F4
   rw [if_pos h3, if_pos (by omega)]
   by_cases hv : v.f0 = 0
   ·obtain ⟨z1, z2, z3, z4⟩ := y5 h3 hv
    rw [if_pos hv, if_pos z1, if_pos z2, if_pos z3, ← z4]
    simp only [cabinetryref03_row.j2, cabinetryref03_row.j3]
    rw [wr64 _ (by omega), wr64 _ (by omega)]
    exact F4
   ·rw [if_neg hv]
    rw [y7 (fun hh => hv hh.2)] at F4
    simp only [cabinetryref03_row.j2, cabinetryref03_row.j3]
    rw [wr64 _ (by omega), wr64 _ (by omega)]
    exact F4
  ·obtain ⟨F, F1, F2, k', F3, F4⟩ := step (m + 1) (by omega) (Nat.le_refl _)
   refine ⟨F, F1, F2, k', F3, ?_⟩
   rw [if_neg h3] at F4
   rw [y7 (fun hh => h3 hh.1)] at F4
   rw [if_neg h3]
   simp only [cabinetryref03_row.j3]
   rw [wr64 _ (by omega)]
   exact F4
theorem bytesI_append (a b : ByteArray) : bytesI (a ++ b) = bytesI a ++ bytesI b := by
 unfold bytesI
 rw [ByteArray.data_append, Array.toList_append, List.map_append]
theorem ba_assoc (a b c : ByteArray) : a ++ b ++ c = a ++ (b ++ c) := by
 apply ByteArray.ext
 simp only [ByteArray.data_append, Array.append_assoc]
theorem parts_is (pg : Int) (l : List S23) (vs : List S25) (g : Bool) (hL : l.length ≤ 16) : ∀ (r : List S23) (u : List S25) (i : Nat), l.drop i = r → vs.drop i = u → r.length = u.length → r.all fS = true → recHolds pg r u = true →
  ∃ Y : ByteArray, Y.size ≤ 254 * r.length ∧ (r ≠ [] → Y.size ≠ 0) ∧ (∀ x6 b (X : ByteArray), X.size + 254 * r.length ≤ 1000000 → rowL r u x6 b X = (flagsL r u x6 b).bind fun F => some (F, X ++ Y)) ∧
   ∃ K, ∀ k, K ≤ k → ∀ x5 : List Int, x5.length + 254 * r.length ≤ 1000000 → cabinetryref03_row.l1 k l x5 (i : Int) g vs = some (x5 ++ bytesI Y)
 | [], u, i, h0, h1, hlen, hf, hr => by
  refine ⟨⟨#[]⟩, Nat.zero_le _, fun h => absurd rfl h, fun x6 b X hX => ?_, 1, fun k hk x5 hx => ?_⟩
  ·simp only [rowL, flagsL, Option.bind_some]
   congr 2
   apply ByteArray.ext
   rw [ByteArray.data_append]
   simp
  ·obtain ⟨m, rfl⟩ : ∃ m, k = m + 1 := ⟨k - 1, by omega⟩
   simp only [cabinetryref03_row.l1]
   rw [if_neg (rd_end h0)]
   simp [bytesI]
 | f :: r, [], i, h0, h1, hlen, hf, hr => by simp at hlen
 | f :: r, v :: u, i, h0, h1, hlen, hf, hr => by
  obtain ⟨a1, a2, a3, _⟩ := rd_drop h0
  obtain ⟨c1, c2, c3⟩ := rd25_drop h1
  simp only [List.all_cons, Bool.and_eq_true] at hf
  simp only [recHolds, Bool.and_eq_true] at hr
  obtain ⟨p, p1, p2, K1, p3⟩ := part_is f pg v hf.1 hr.1
  have hk := field_kinds hf.1
  obtain ⟨Y, Y1, _, Y2, K2, Y3⟩ := parts_is pg l vs g hL r u (i + 1) a3 c3 (by simpa using hlen) hf.2 hr.2
  refine ⟨p ++ Y, by rw [ByteArray.size_append, List.length_cons]; omega, fun _ => by rw [ByteArray.size_append]; omega, fun x6 b X hX => ?_, K1 + K2 + 1, fun k hk x5 hx => ?_⟩
  ·rw [List.length_cons] at hX
   simp only [rowL, flagsL]
   cases hq : rowFlag f v x6 b with
   | none => rfl
   | some y6 =>
    simp only [Option.bind_some]
    rw [p1]
    simp only [Option.bind_some]
    rw [if_pos (by omega), Y2 _ _ _ (by rw [ByteArray.size_append]; omega), ba_assoc]
  ·obtain ⟨m, rfl⟩ : ∃ m, k = m + 1 := ⟨k - 1, by omega⟩
   have q : cabinetryref03_shown.f m f.f0 f.f1 f.f2 f.f3 v.f0 v.f1 v.f2 = some p := p3 m (by omega)
   rw [List.length_cons] at hx
   have hi : i < 16 := by omega
   simp only [cabinetryref03_row.l1]
   rw [if_pos (by omega), if_pos (by omega), if_pos (by omega), a2, c2, q]
   simp only [Option.bind_some]
   rw [bytesI_len, if_pos (by omega), wr64 _ (by omega)]
   have := Y3 m (by omega) (x5 ++ bytesI p) (by rw [List.length_append, bytesI_len]; omega)
   rw [show ((i + 1 : Nat) : Int) = (i : Int) + 1 from by omega] at this
   rw [this, bytesI_append, List.append_assoc]
theorem nullsN_filter : ∀ l : List S23, nullsN l = (l.filter (·.f3)).length
 | [] => rfl
 | x :: r => by
  simp only [nullsN]
  rw [nullsN_filter r]
  by_cases h : x.f3 = true
  ·rw [if_pos h, List.filter_cons_of_pos (by simpa using h), List.length_cons]
   omega
  ·rw [if_neg h, List.filter_cons_of_neg (by simpa using h)]
   omega
theorem row_is (pg : Int) (l : List S23) (vs : List S25) (g : Bool) (hL : l.length ≤ 16) (hne : l ≠ []) (he : l.length = vs.length) (hf : l.all fS = true) (hr : recHolds pg l vs = true) :
  ∃ R : List Int, table_row.f l g vs = some R ∧ R.length ≤ 5000 ∧ Ev (fun k => cabinetryref03_row.f k l g vs) R := by
 obtain ⟨Y, Y1, Yne, Y2, K, Y3⟩ := parts_is pg l vs g hL l vs 0 List.drop_zero List.drop_zero he hf hr
 have hfl : (l.filter (·.f3)).length ≤ 16 := Nat.le_trans (List.length_filter_le _ _) hL
 have hlen0 : (List.replicate (((nullsN l + 7) / 8 : Nat) : Int).toNat (0 : Int)).length = ((l.filter (·.f3)).length + 7) / 8 := by rw [List.length_replicate, nullsN_filter]; omega
 obtain ⟨F, F1, F2, k', F3, F4⟩ := ref_l0 l vs hL he [rowHead g] g l vs 0 1000 0 _ List.drop_zero List.drop_zero (unset_zero _) (by omega) hlen0 (by omega) (by omega)
 have hFl : F.length ≤ 3 := by rw [F2, hlen0]; omega
 have hnb : table_nullBytes.f (l.length + 2) l = some (((nullsN l + 7) / 8 : Nat) : Int) := nulls_is l (by omega) _ (by omega)
 refine ⟨([rowHead g] : List Int) ++ F ++ bytesI Y, ?_, ?_, K + 2000, fun k hk => ?_⟩
 ·unfold table_row.f
  rw [hnb]
  simp only [Option.bind_some]
  rw [if_pos (by omega), if_pos (by rw [nullsN_filter]; omega), Y2 _ _ _ (by show 0 + 254 * l.length ≤ 1000000; omega)]
  rw [show ((0 : Nat) : Int) = 0 from rfl] at F1
  rw [F1]
  simp only [Option.bind_some]
  have e0 : (⟨#[]⟩ : ByteArray) ++ Y = Y := by
   apply ByteArray.ext
   rw [ByteArray.data_append]
   simp
  rw [e0, if_pos ⟨by omega, Yne hne, by omega⟩]
 ·simp only [List.length_append, bytesI_len, List.length_singleton]
  omega
 show cabinetryref03_row.f k l g vs = _
 obtain ⟨q, rfl⟩ : ∃ q, k = q + 1 := ⟨k - 1, by omega⟩
 have hj : cabinetryref03_row.j0 (q + 1) l [rowHead g] g vs = some (([rowHead g] : List Int) ++ F ++ bytesI Y) := by
  simp only [cabinetryref03_row.j0]
  rw [ref_nulls_is l (by omega) q (by omega)]
  simp only [Option.bind_some]
  rw [if_pos (by omega), if_pos (by rw [nullsN_filter]; omega)]
  obtain ⟨F', f1, f2, k2, f3, f4⟩ := ref_l0 l vs hL he [rowHead g] g l vs 0 q 0 _ List.drop_zero List.drop_zero (unset_zero _) (by omega) hlen0 (by omega) (by omega)
  rw [F1] at f1
  obtain rfl := Option.some.inj f1
  rw [show ((0 : Nat) : Int) = 0 from rfl] at f4
  rw [f4, if_pos (by simp; omega)]
  have := Y3 k2 (by omega) ([rowHead g] ++ F) (by simp; omega)
  exact this
 unfold cabinetryref03_row.f
 simp only [Option.bind_some]
 cases g
 ·rw [if_neg (by simp)]
  exact hj
 rw [if_pos rfl, if_pos (by simp)]
 exact hj
section
attribute [local go_sem] max2_int min2_int max_two min_two max_three min_three max_four min_four
def cabinetryref03_low.l0 : Nat → Int → Int → List Int → Int → Option (List Int)
 | 0, _, _, _, _ => none
 | k + 1, x0, x1, x5, x6 => if x6 < x1 then (if x5.length < 140737488355328 then (cabinetryref03_low.l0 k (wrap64 (Int.tdiv x0 256)) x1 (x5 ++ [(Int.tmod x0 256) % 256]) (wrap64 (x6 + 1))) else (none)) else (some x5)
def cabinetryref03_low.f (k : Nat) (a0 : Int) (a1 : Int) : Option (List Int) := cabinetryref03_low.l0 k a0 a1 ([] : List Int) 0
theorem cabinetryref03_low.mono_l : ∀ k, (∀ y0 y1 y2 y3, LeO (cabinetryref03_low.l0 k y0 y1 y2 y3) (cabinetryref03_low.l0 (k + 1) y0 y1 y2 y3))
 | 0 => fun _ _ _ _ r h => by simp [cabinetryref03_low.l0] at h
 | k + 1 => by
  have ih0 := cabinetryref03_low.mono_l k
  ·intro y0 y1 y2 y3
   unfold cabinetryref03_low.l0
   repeat' first
   | (with_reducible exact ih0 _ _ _ _)
   | (with_reducible exact LeO.refl _)
   | (with_reducible exact LeO.none _)
   | (with_reducible refine LeO.ite ?_ ?_)
   | (with_reducible refine LeO.bind ?_ (fun _ => ?_))
theorem cabinetryref03_low.mono : ∀ a0 a1 k, LeO (cabinetryref03_low.f k a0 a1) (cabinetryref03_low.f (k + 1) a0 a1) := by
 intro a0 a1 k
 have ih0 := cabinetryref03_low.mono_l k
 unfold cabinetryref03_low.f
 repeat' first
   | (with_reducible exact ih0 _ _ _ _)
   | (with_reducible exact LeO.refl _)
   | (with_reducible exact LeO.none _)
   | (with_reducible refine LeO.ite ?_ ?_)
   | (with_reducible refine LeO.bind ?_ (fun _ => ?_))
theorem cabinetryref03_low.calls (k : Nat) (a0 : Int) (a1 : Int) (r : List Int) (w : World) (h : cabinetryref03_low.f k a0 a1 = some r) :
  Calls Tryz.prog 106 #[.int .i64 a0, .int .i64 a1] w fun e w' => ∃ v0_ : Value, e = .returned (v0_) ∧ Kd.R (Kd.int .u8) 5 w' w.heap.size (fun _ => True) v0_ r ∧ Below w.heap.size w w' := by
 have HB := Z0 (Below.refl w.heap.size w)
 unfold cabinetryref03_low.f at h
 have H := h
 clear h
 have H' := Z0 H
 clear H
 go_enter Tryz.func106, Tryz.ntmps106
 go_wp2
 go_loopg [0, 5, 6] k (fun kq v0 v5 v6 w' => ∃ (x0_1 : Int) (x5_1 : List Int) (x6_1 : Int), v0 = .int .i64 x0_1 ∧ v6 = .int .i64 x6_1 ∧ Aside0 (cabinetryref03_low.l0 kq x0_1 a1 x5_1 x6_1 = some r) ∧ Aside0 (kq ≤ k) ∧ Aside0 (Kd.R (Kd.int .u8) 5 w' w.heap.size (fun _ => True) v5 x5_1) ∧ Aside0 (Below w.heap.size w w'))
 case atStart => exact ⟨(a0), (([] : List Int)), (0), V2, V2, H', ⟨Nat.le_refl _⟩, ⟨by first | exact Kd.R_nil _ _ _ _ _ | exact Kd.N_nil _ _ _ _ _ | exact Kd.V_nil _ _ _ _ _ | exact Kd.Q_nil _ _ _ _ _ | exact Kd.S_nil _ _ _ _ _⟩, ⟨V0⟩⟩
 case round =>
  clear H'
  obtain ⟨x0_1, x5_1, x6_1, rfl, rfl, HA, HK1, HO_5, HB⟩ := hrel
  cases gk with
  | zero => exact absurd HA.out (by simp [cabinetryref03_low.l0])
  | succ k1 =>
   have H := HA.out
   clear HA
   simp only [cabinetryref03_low.l0] at H
   by_cases c3 : x6_1 < a1
   rotate_left
   ·rw [if_neg c3] at H
    have c3b0 : decide (x6_1 < a1) = false := decide_eq_false c3
    clear c3
    obtain rfl := Option.some.inj H
    go_wp2
    go_ret
    exact ⟨_, rfl, by (with_reducible repeat (first | apply Kd.R_alloc | apply Kd.R_drewN | apply Kd.R_drew)); exact HO_5.out, V0⟩
   rw [if_pos c3] at H
   have c3b0 : decide (x6_1 < a1) = true := decide_eq_true c3
   clear c3
   by_cases c4 : x5_1.length < 140737488355328
   rotate_left
   ·rw [if_neg c4] at H
    exact absurd H (by simp)
   rw [if_pos c4] at H
   have LMc4 := Z0 c4
   clear c4
   obtain ⟨y579, hy579⟩ : ∃ y_ : List Int, y_ = (x5_1 ++ [(Int.tmod x0_1 256) % 256]) := ⟨_, rfl⟩
   replace H : (cabinetryref03_low.l0 k1 (wrap64 (Int.tdiv x0_1 256)) a1 y579 (wrap64 (x6_1 + 1))) = some r := by rw [hy579]; exact H
   have Ny579 := Z0 hy579
   clear hy579
   have H' := Z0 H
   clear H
   go_wp2_with (first | ((with_reducible refine gate_builtin (b := .append) (xs := #[.tmp 12, .tmp 16]) rfl ?_); at_builtin; refine Kd.R_append (Kd.int .u8) (w0 := w) w.heap.size rfl (.tmp 12) (.tmp 16) 37 5 (.int .u8 0) 1 rfl Tryz.underlying37 info5 rfl (by decide) (by omega) u5 x5_1 ((Int.tmod x0_1 256) % 256) [.int .u8 ((Int.tmod x0_1 256) % 256)] (fun _ => True) (fun _ => False) rfl rfl ?aP (fun _ hk => hk.elim) ?aF ?aO ?aB ?aS ?aL ?_; (case aP => exact rfl); (case aB => exact HB.out); (case aF => exact (fun _ _ => trivial)); (case aO => exact HO_5.out); (case aS => exact (below_size HB.out)); (case aL => have := LMc4.out; omega); intro v580 w5 ho hb hg hat; rw [← Ny579.out] at ho; replace HB := Z0 hb; have HO581 := Z0 (ho); clear HO_5; clear ho hb hg hat))
   go_roundg k1
   case measure => have := HK1.out; omega
   case rel => exact ⟨(wrap64 (Int.tdiv x0_1 256)), (y579), (wrap64 (x6_1 + 1)), V2, V2, H', ⟨by have := HK1.out; omega⟩, ⟨kr HO581.out⟩, ⟨V0⟩⟩
end
end Go.Proofs.YtldpdidlfbphcaaGreatDoor.P
end
section
namespace Go.Proofs.YtldpdidlfbphcaaGreatDoor.P
open Go.RowKit Go.Proofs.YtldpdidlfbphcaaGreatDoorW.PrintWords Go.Proofs.YtldpdidlfbphcaaGreatDoorW.PrintLast Go.Proofs.YtldpdidlfbphcaaGreatDoorW.PrintMore
def nmV (x : Int) : Value := .int .u8 x
def Nm (w : World) (base : Nat) (ok : Nat → Prop) (v : Value) (xs : List Int) : Prop :=
 ∃ (g cap : Nat) (cur : Array Value) (fr : Nat × Nat), v = .slice (some ⟨g, 0, none⟩) xs.length cap ∧ base ≤ g ∧ ok g ∧ w.heap[g]? = some (.cells cur 5 fr) ∧ (fr = (0, 0) ∨ cur.size ≤ fr.1) ∧ xs.length ≤ cap ∧ cap ≤ maxLen ∧ cur.size = cap ∧ cur.toList.take xs.length = xs.map nmV
theorem fr_free {w : World} {g j : Nat} {cur : Array Value} {t : TypeId} {fr : Nat × Nat} (hg : w.heap[g]? = some (.cells cur t fr)) (hf : fr = (0, 0) ∨ cur.size ≤ fr.1) (hj : j < cur.size) : w.frozen? ⟨g, j, none⟩ = false := by
 rcases hf with rfl | hf
 ·simp [World.frozen?, hg]
 simp [World.frozen?, hg]
 omega
theorem store_one {P : Program} (g o : Nat) (t : TypeId) (v : Value) (cur : Array Value) (fr : Nat × Nat) (w : World) (hg : w.heap[g]? = some (.cells cur t fr)) (hf : fr = (0, 0) ∨ cur.size ≤ fr.1) (ho : o < cur.size) (h1 : v.oneCell' = true) :
  (storeCells ⟨g, o, none⟩ [v] 0).run P w = .ok () (w.setRow g (cur.setIfInBounds o v)) := by
 have hadd : (⟨g, o, none⟩ : Addr).add 0 = ⟨g, o, none⟩ := by unfold Addr.add; simp
 have hcell : w.cell? ⟨g, o, none⟩ = some cur[o] := by simp [World.cell?, hg, ho]
 have hfro := fr_free hg hf ho
 have hst : (store ((⟨g, o, none⟩ : Addr).add 0) v).run P w = .ok () (w.setRow g (cur.setIfInBounds o v)) := by
  rw [hadd, run_store P w _ v _ h1, hcell]
  simp [hfro, setCell_eq_setRow w g o cur t fr v hg]
 simp [storeCells, Sem.run_bind, hst, Result.andThen_ok]
theorem Nm_cells {w : World} {base : Nat} {ok : Nat → Prop} {xs : List Int} {g cap : Nat} {cur : Array Value} {fr : Nat × Nat} (hg : w.heap[g]? = some (.cells cur 5 fr)) (ht : cur.toList.take xs.length = xs.map nmV) :
  ∀ j u, (xs.map nmV)[j]? = some u → w.cell? ((⟨g, 0, none⟩ : Addr).add j) = some u := by
 intro j u hu
 have hadd : (⟨g, 0, none⟩ : Addr).add j = ⟨g, j, none⟩ := by unfold Addr.add; split <;> simp_all
 rw [hadd, cell_of_row w g j cur 5 fr hg]
 rw [← ht, List.getElem?_take] at hu
 split at hu
 ·simpa using hu
 cases hu
theorem Nm_C {w : World} {base : Nat} {ok : Nat → Prop} {v : Value} {xs : List Int} (h : Nm w base ok v xs) : ∃ A c, v = .slice A xs.length c ∧ xs.length ≤ c ∧ (Kd.int .u8).C w A xs.length xs := by
 obtain ⟨g, cap, cur, fr, rfl, hb, hok, hg, hf, hn, hm, hs, ht⟩ := h
 refine ⟨_, _, rfl, hn, rfl, by unfold maxLen at hm; omega, fun _ => ⟨_, rfl, fun j p hp => ⟨[.int .u8 p], rfl, rfl, fun i u hu => ?_⟩⟩⟩
 have hi : i = 0 := by
  have := (List.getElem?_eq_some_iff.1 hu).1
  simp at this
  exact this
 subst hi
 simp at hu
 subst hu
 refine Nm_cells (base := base) (ok := ok) (cap := cap) hg ht _ _ ?_
 show (xs.map nmV)[j * 1 + 0]? = _
 rw [Nat.mul_one, Nat.add_zero, List.getElem?_map, hp]
 rfl
theorem Nm_block {w w1 : World} {base base' : Nat} {ok ok' : Nat → Prop} {v : Value} {xs : List Int} (h : Nm w base ok v xs) (hb : ∀ k, v.ownBlock = some k → base ≤ k → ok k → k < w.heap.size → w1.heap[k]? = w.heap[k]? ∧ base' ≤ k ∧ ok' k) : Nm w1 base' ok' v xs := by
 obtain ⟨g, cap, cur, fr, rfl, hbg, hok, hg, rest⟩ := h
 obtain ⟨e, b1, o1⟩ := hb g rfl hbg hok (Array.getElem?_eq_some_iff.1 hg).1
 exact ⟨g, cap, cur, fr, rfl, b1, o1, e.trans hg, rest⟩
theorem Nm_lt {w : World} {base : Nat} {ok : Nat → Prop} {v : Value} {xs : List Int} (h : Nm w base ok v xs) : ∀ k, v.ownBlock = some k → base ≤ k ∧ ok k ∧ k < w.heap.size := by
 obtain ⟨g, cap, cur, fr, rfl, hbg, hok, hg, rest⟩ := h
 intro k hk
 simp [Value.ownBlock] at hk
 subst hk
 exact ⟨hbg, hok, (Array.getElem?_eq_some_iff.1 hg).1⟩
theorem Nm_ne {w : World} {base : Nat} {ok : Nat → Prop} {v : Value} {xs : List Int} {gb : Nat} {cs : Array Value} {t : TypeId} {fr : Nat × Nat} (h : Nm w base ok v xs) (hb : w.heap[gb]? = some (.cells cs t fr)) (ht : t ≠ 5) : some gb ≠ v.ownBlock := by
 obtain ⟨g, cap, cur, fr', rfl, hbg, hok, hg, rest⟩ := h
 intro e
 simp [Value.ownBlock] at e
 subst e
 rw [hb] at hg
 simp at hg
 exact ht hg.2.1
section
variable {w w1 W : World} {base : Nat} {ok ok' : Nat → Prop} {u v v1 : Value} {xs : List Int}
theorem Nm_slice (h : Nm w base ok v xs) : ∃ A c, v = .slice A xs.length c := by
 obtain ⟨A, c, e, _⟩ := Nm_C h
 exact ⟨A, c, e⟩
theorem Nm_reads {A : Option Addr} {n c : Nat} (h : Nm w base ok (.slice A n c) xs) : (Kd.int .u8).C w A xs.length xs := by
 obtain ⟨A', c', e, _, hC⟩ := Nm_C h
 injection e with e1 e2 e3
 subst e1
 exact hC
theorem Nm_ltB (h : Nm w base ok v xs) : ∀ k, v.ownBlock = some k → k < w.heap.size := fun k hk => (Nm_lt h k hk).2.2
theorem Nm_base (h : Nm w base ok v xs) : ∀ k, v.ownBlock = some k → base ≤ k := fun k hk => (Nm_lt h k hk).1
theorem Nm_mono (h : Nm w base ok v xs) (hok : ∀ k, ok k → ok' k) : Nm w base ok' v xs := Nm_block h (fun k _ hb ho _ => ⟨rfl, hb, hok k ho⟩)
theorem Nm_drew (h : Nm w base ok v xs) : Nm w.drew base ok v xs := Nm_block h (fun k _ hb ho _ => ⟨rfl, hb, ho⟩)
theorem Nm_drewN (h : Nm w base ok v xs) (n : Nat) : Nm (w.drewN n) base ok v xs := Nm_block h (fun k _ hb ho _ => ⟨rfl, hb, ho⟩)
theorem Nm_alloc (h : Nm w base ok v xs) (o : Obj) : Nm (w.alloc o) base ok v xs := Nm_block h (fun k _ hb ho hlt => ⟨heap_alloc_old w _ hlt, hb, ho⟩)
theorem Nm_elder' (hu : Nm W base ok u xs) (hbase : ∀ k, v.ownBlock = some k → W.heap.size ≤ k) (hb : Below W.heap.size W w1) : Nm w1 base (fun k => ok k ∧ some k ≠ v.ownBlock) u xs :=
 Nm_block hu (fun k _ hk ho hlt => ⟨hb.block k hlt, hk, ho, fun he => by have := hbase k he.symm; omega⟩)
theorem Nm_new' (h : Nm w1 W.heap.size ok v xs) (hlt : ∀ k, u.ownBlock = some k → k < W.heap.size) : Nm w1 W.heap.size (fun k => ok k ∧ some k ≠ u.ownBlock) v xs :=
 Nm_block h (fun k _ hk ho _ => ⟨rfl, hk, ho, fun he => by have := hlt k he.symm; omega⟩)
theorem Nm_lower {base' : Nat} (h : Nm w base ok v xs) (hb : base' ≤ base) : Nm w base' ok v xs := Nm_block h (fun k _ hk ho _ => ⟨rfl, Nat.le_trans hb hk, ho⟩)
theorem Nm_after (h : Nm W base (fun k => ok k ∧ some k ≠ v.ownBlock) u xs) (hg : W.grownBy w1 v.ownBlock) (hat : v1.ownBlock = v.ownBlock ∨ ∃ b, v1.ownBlock = some b ∧ W.heap.size ≤ b) : Nm w1 base (fun k => ok k ∧ some k ≠ v1.ownBlock) u xs := by
 refine Nm_block h (fun k _ hk ho hlt => ⟨hg.block k hlt ho.2, hk, ho.1, ?_⟩)
 rcases hat with hat | ⟨b, hb, hle⟩
 ·rw [hat]
  exact ho.2
 rw [hb]
 intro e
 have : k = b := Option.some.inj e
 omega
end
theorem Nm_conv (W : World) (s : ByteArray) (hm : s.size ≤ 140737488355328) : Nm (Lib.bytesWorld W 5 s) W.heap.size (fun _ => True) (.slice (some ⟨W.heap.size, 0, none⟩) (bytesI s).length (grownCap W s.size 0 5)) (bytesI s) := by
 have hge := grownCap_ge W s.size 0 5
 have hle := grownCap_le_maxLen W s.size 0 5 (by unfold maxLen; omega)
 refine ⟨_, _, _, _, rfl, Nat.le_refl _, trivial, Lib.bytesWorld_at_new W 5 s, .inr (Nat.le_refl _), by rw [bytesI_len]; exact hge, hle, ?_, ?_⟩
 ·simp only [Lib.bytesCells, Array.size_append, Array.size_map, Array.size_replicate]
  have : s.data.size = s.size := rfl
  omega
 have e : (s.data.map fun b => Value.int .u8 b.toNat).toList = (bytesI s).map nmV := by
  unfold bytesI nmV
  rw [Array.toList_map, List.map_map]
  rfl
 unfold Lib.bytesCells
 rw [Array.toList_append, e]
 have hl : (bytesI s).length = ((bytesI s).map nmV).length := by simp
 rw [hl]
 exact List.take_left
theorem Nm_append {P : Program} {w : World} {base : Nat} {ok ok' : Nat → Prop} {v : Value} {xs : List Int} {t ty : TypeId} {i : TypeInfo} {z : Value} (h : Nm w base ok v xs) (ht : P.underlying t = some (.slice 5)) (hi : P.info? 5 = some i) (hz : i.zero = some z) (hsz : i.size = 1) (hby : i.bytes = 1) (hzs : z.cells.size = 1)
  (a : Addr) (c : Nat) (b : Int) (hnew : w.cell? (a.add 0) = some (nmV b)) (hl : xs.length + 1 ≤ 140737488355328) (hbase : base ≤ w.heap.size) (hok : ∀ k, ok k → ok' k) (hfresh : ∀ k, w.heap.size ≤ k → ok' k) :
  ∃ v' w', (Builtin.append_ #[t, t] ty #[v, .slice (some a) 1 c]).run P w = .ok v' w' ∧ Nm w' base ok' v' (xs ++ [b]) ∧ w.grownBy w' v.ownBlock ∧ (v'.ownBlock = v.ownBlock ∨ ∃ k, v'.ownBlock = some k ∧ w.heap.size ≤ k) := by
 obtain ⟨g, cap, cur, fr, rfl, hb, hok0, hg, hf, hn, hm, hs, hk⟩ := h
 have hnews : ∀ j u, ([nmV b] : List Value)[j]? = some u → w.cell? (a.add j) = some u := by
  intro j u hu
  cases j with
  | zero => simp at hu; rw [← hu]; exact hnew
  | succ j => simp at hu
 by_cases hroom : xs.length + 1 ≤ cap
 ·have hfc := run_firstCells_some (P := P) w i.size 1 a 1 c [nmV b] (by simp [hsz]) hnews
  rw [hsz] at hfc
  have hst := store_one (P := P) g xs.length 5 (nmV b) cur fr w hg hf (by omega) rfl
  refine ⟨.slice (some ⟨g, 0, none⟩) (xs.length + 1) cap, w.setRow g (cur.setIfInBounds xs.length (nmV b)), ?_, ⟨g, cap, _, fr, by simp, hb, hok _ hok0, setRow_heap w g cur _ 5 fr hg, ?_, ?_, hm, ?_, ?_⟩, ⟨rfl, rfl, rfl, by simp, fun k _ hk => setRow_other w g k _ (fun e => hk (by simp [Value.ownBlock, e]))⟩, .inl rfl⟩
  ·simp [Builtin.append_, run_underlying ht, sizeOf, typeInfo, hi, Builtin.lenOf, hroom, hfc, Addr.add_lit, hst, hsz]
  ·simpa using hf
  ·simpa using hroom
  ·simpa using hs
  rw [Array.toList_setIfInBounds, List.length_append, List.length_singleton, List.map_append, List.take_add_one, List.take_set, List.set_eq_of_length_le (by simp; omega), hk, List.getElem?_set_self (by simp; omega)]
  rfl
 have holds : ∀ j u, (xs.map nmV)[j]? = some u → w.cell? ((⟨g, 0, none⟩ : Addr).add j) = some u := Nm_cells (base := base) (ok := ok) (cap := cap) hg hk
 have hr := run_append_grow (P := P) w t ty 5 i z ht hi hz ⟨g, 0, none⟩ xs.length cap (xs.map nmV) (by simp [hsz]) holds a 1 c [nmV b] (by simp [hsz]) hnews (by omega) (by omega) (growslice_fits (by omega) (by rw [hby]; omega))
 have hge := grownCap_ge w (xs.length + 1) cap 5
 have hcm : grownCap w (xs.length + 1) cap 5 ≤ maxLen := grownCap_le_maxLen w (xs.length + 1) cap 5 (by unfold maxLen; omega)
 refine ⟨_, _, hr, ⟨w.heap.size, _, _, _, by simp, hbase, hfresh _ (Nat.le_refl _), heap_alloc_new w.drew _, .inl rfl, by simpa using hge, hcm, ?_, ?_⟩, ⟨rfl, rfl, rfl, by simp, fun k hk _ => heap_alloc_old w.drew _ hk⟩, .inr ⟨_, rfl, Nat.le_refl _⟩⟩
 ·simp only [Array.size_append, List.size_toArray, size_zeroCells, hzs, List.length_map, List.length_singleton]
  omega
 simp only [Array.toList_append, List.append_assoc]
 rw [← List.append_assoc, List.map_append]
 have e : (xs ++ [b]).length = (xs.map nmV ++ [nmV b]).length := by simp
 rw [e]
 exact List.take_left
theorem Nm_append_ev {P : Program} {ops : Array Oper} {rest : List Oper} {o : Oper} {a : Act} {Q : Exit → Act → World → Prop} {w0 W : World} (base : Nat) (hgd : o.guard = none) (s x : Operand)
  (ho : o.op = .call { callee := .builtin .append, args := #[s, x], argTypes := #[37, 37] })
  (ht : P.underlying 37 = some (.slice 5)) (hinfo : (P.info? 5).map (fun i => (i.zero, i.size, i.bytes)) = some (some (.int .u8 0), 1, 1))
  (v : Value) (xs : List Int) (p : Int) (ok : Nat → Prop) (hs : a.eval s = v) (hx : a.eval x = .slice (some ⟨W.heap.size, 0, none⟩) 1 1) (hfresh : ∀ k, W.heap.size ≤ k → ok k)
  (HO : Nm W base ok v xs) (HB : Below base w0 W) (hbase : base ≤ W.heap.size) (hl : xs.length + 1 ≤ 140737488355328)
  (h : ∀ v1 w1, Nm w1 base ok v1 (xs ++ [p]) → Below base w0 w1 → W.grownBy w1 v.ownBlock → (v1.ownBlock = v.ownBlock ∨ ∃ b, v1.ownBlock = some b ∧ W.heap.size ≤ b) → wpList P ops Q rest (a.put o.dst v1) w1) :
  wpList P ops Q (o :: rest) a (W.alloc (.cells #[.int .u8 p] 5)) := by
 obtain ⟨i0, hi, hzz⟩ := Option.map_eq_some_iff.1 hinfo
 simp only [Prod.mk.injEq] at hzz
 obtain ⟨hz0, hz1, hz2⟩ := hzz
 have HO1 : Nm (W.alloc (.cells #[.int .u8 p] 5)) base ok v xs := Nm_block HO (fun k hk hb ho hlt => ⟨heap_alloc_old W _ hlt, hb, ho⟩)
 have hcell : (W.alloc (.cells #[.int .u8 p] 5)).cell? ((⟨W.heap.size, 0, none⟩ : Addr).add 0) = some (nmV p) := by
  have e1 : (⟨W.heap.size, 0, none⟩ : Addr).add 0 = ⟨W.heap.size, 0, none⟩ := by simp [Addr.add]
  rw [e1, cell_of_row _ W.heap.size 0 #[.int .u8 p] 5 (0, 0) (heap_alloc_new W (.cells #[.int .u8 p] 5))]
  rfl
 obtain ⟨v1, w1, hr, hN, hg, hat⟩ := Nm_append (P := P) (ty := o.type) (ok' := ok) HO1 ht hi hz0 hz1 hz2 rfl ⟨W.heap.size, 0, none⟩ 1 p hcell hl (by simp; omega) (fun _ h => h) (fun k hk => hfresh k (by simp at hk; omega))
 refine wpList_plain hgd fun K hK => ?_
 unfold Oper.wp execOp
 simp only [ho, resolve, invoke, builtin, Sem.run_bind, Sem.run_pure, Result.andThen_ok, List.map_toArray, List.map_cons, List.map_nil, hs, hx, hr]
 refine hK _ _ (h v1 w1 hN ((HB.alloc hbase _).grown hg (by simp; omega) (fun k hk => (Nm_lt HO k hk).1)) (World.grownBy.trans (World.grownBy_alloc W _ _) hg) ?_)
 rcases hat with hat | ⟨k, hk, hle⟩
 ·exact .inl hat
 exact .inr ⟨k, hk, by simp at hle; omega⟩
theorem conv_some {s : ByteArray} {t : List Int} {n : Nat} (h : (if s.size ≤ n then some (bytesI s) else none) = some t) : s.size ≤ n ∧ bytesI s = t := by
 by_cases h1 : s.size ≤ n
 rotate_left
 ·rw [if_neg h1] at h
  cases h
 rw [if_pos h1] at h
 exact ⟨h1, Option.some.inj h⟩
theorem conv_ev {P : Program} {ops : Array Oper} {rest : List Oper} {o : Oper} {a : Act} {Q : Exit → Act → World → Prop} {W : World} (hgd : o.guard = none) {src : TypeId} {u : TypeDesc} {x : Operand}
  (hop : o.op = .convert src 37 x) (s : ByteArray) (hx : a.eval x = .string s) (hs : P.underlying src = some u) (hd : P.underlying 37 = some (.slice 5)) (he : P.underlying 5 = some (.int .u8)) (hm : s.size ≤ 140737488355328)
  (h : ∀ v1 w1, Nm w1 W.heap.size (fun _ => True) v1 (bytesI s) → Below W.heap.size W w1 → wpList P ops Q rest (a.put o.dst v1) w1) : wpList P ops Q (o :: rest) a W := by
 have hrun : (execOp a.eval o).run P W = .ok (.value (.slice (some ⟨W.heap.size, 0, none⟩) s.size (grownCap W s.size 0 5))) (Lib.bytesWorld W 5 s) := by
  unfold execOp
  simp [hop, hx, Lib.run_convert_string_bytes W src 37 5 s hs hd he]
 refine Kd.event_run hgd hrun ?_
 have := h _ _ (Nm_conv W s hm) (bytesWorld_below W 5 s)
 rw [bytesI_len] at this
 exact this
end Go.Proofs.YtldpdidlfbphcaaGreatDoor.P
end
section
namespace Go.Proofs.YtldpdidlfbphcaaGreatDoor.P
open Go.RowKit Go.Proofs.YtldpdidlfbphcaaGreatDoorW.PrintWords Go.Proofs.YtldpdidlfbphcaaGreatDoorW.PrintLast Go.Proofs.YtldpdidlfbphcaaGreatDoorW.PrintMore
section
attribute [local go_sem] max2_int min2_int max_two min_two max_three min_three max_four min_four
def cabinetryref03_letter.f (a0 : Int) : Option (Int) := if a0 = 1 then (some 76) else (if a0 = 2 then (some 78) else (if a0 = 3 then (some 68) else (if a0 = 4 then (some 67) else (some 77))))
theorem cabinetryref03_letter.calls (a0 : Int) (r : Int) (w : World) (h : cabinetryref03_letter.f a0 = some r) :
  Calls Tryz.prog 107 #[.int .i64 a0] w fun e w' => e = .returned (.int .u8 r) ∧ Drawn0 w w' := by
 unfold cabinetryref03_letter.f at h
 have H := h
 clear h
 by_cases c2 : a0 = 1
 ·rw [if_pos c2] at H
  have c2b0 : (a0 == 1) = true := beq_iff_eq.mpr c2
  have c2b1 : (a0 != 1) = false := bne_eq_false_iff_eq.mpr c2
  clear c2
  obtain rfl := Option.some.inj H
  go_enter Tryz.func107, Tryz.ntmps107
  go_wp2
  go_ret
  exact ⟨V2, by repeat (first | exact Y4 _ | apply Y0)⟩
 rw [if_neg c2] at H
 have c2b0 : (a0 == 1) = false := beq_eq_false_iff_ne.mpr c2
 have c2b1 : (a0 != 1) = true := bne_iff_ne.mpr c2
 by_cases c3 : a0 = 2
 ·rw [if_pos c3] at H
  have c3b0 : (a0 == 2) = true := beq_iff_eq.mpr c3
  have c3b1 : (a0 != 2) = false := bne_eq_false_iff_eq.mpr c3
  clear c3
  obtain rfl := Option.some.inj H
  go_enter Tryz.func107, Tryz.ntmps107
  go_wp2
  go_ret
  exact ⟨V2, by repeat (first | exact Y4 _ | apply Y0)⟩
 rw [if_neg c3] at H
 have c3b0 : (a0 == 2) = false := beq_eq_false_iff_ne.mpr c3
 have c3b1 : (a0 != 2) = true := bne_iff_ne.mpr c3
 by_cases c4 : a0 = 3
 ·rw [if_pos c4] at H
  have c4b0 : (a0 == 3) = true := beq_iff_eq.mpr c4
  have c4b1 : (a0 != 3) = false := bne_eq_false_iff_eq.mpr c4
  clear c4
  obtain rfl := Option.some.inj H
  go_enter Tryz.func107, Tryz.ntmps107
  go_wp2
  go_ret
  exact ⟨V2, by repeat (first | exact Y4 _ | apply Y0)⟩
 rw [if_neg c4] at H
 have c4b0 : (a0 == 3) = false := beq_eq_false_iff_ne.mpr c4
 have c4b1 : (a0 != 3) = true := bne_iff_ne.mpr c4
 by_cases c5 : a0 = 4
 ·rw [if_pos c5] at H
  have c5b0 : (a0 == 4) = true := beq_iff_eq.mpr c5
  have c5b1 : (a0 != 4) = false := bne_eq_false_iff_eq.mpr c5
  clear c5
  obtain rfl := Option.some.inj H
  go_enter Tryz.func107, Tryz.ntmps107
  go_wp2
  go_ret
  exact ⟨V2, by repeat (first | exact Y4 _ | apply Y0)⟩
 rw [if_neg c5] at H
 have c5b0 : (a0 == 4) = false := beq_eq_false_iff_ne.mpr c5
 have c5b1 : (a0 != 4) = true := bne_iff_ne.mpr c5
 obtain rfl := Option.some.inj H
 go_enter Tryz.func107, Tryz.ntmps107
 go_wp2
 go_ret
 exact ⟨V2, by repeat (first | exact Y4 _ | apply Y0)⟩
mutual
def cabinetryref03_header.l0 : Nat → List Int → Int → Int → List (S23) → List (S46) → Option (List Int)
 | 0, _, _, _, _, _ => none
 | k + 1, x3, x4, x137000, x137001, x137002 => if x4 < (x137001.length : Int) then (if 0 ≤ x4 then ((if ((rd_T23 x137001 x4).f0).size ≤ 140737488355328 then some (bytesI ((rd_T23 x137001 x4).f0)) else none).bind fun t170 => (cabinetryref03_header.l1 k x3 x4 t170 x137000 x137001 x137002 ((rd_T23 x137001 x4).f0) ((rd_T23 x137001 x4).f1) ((rd_T23 x137001 x4).f2) ((rd_T23 x137001 x4).f3))) else (none)) else (if x3.length < 140737488355328 then (some (x3 ++ [13])) else (none))
def cabinetryref03_header.l1 : Nat → List Int → Int → List Int → Int → List (S23) → List (S46) → ByteArray → Int → Int → Bool → Option (List Int)
 | 0, _, _, _, _, _, _, _, _, _, _ => none
 | k + 1, x3, x4, x6, x137000, x137001, x137002, x170000, x170001, x170002, x170003 => if (x6.length : Int) < 10 then (if x6.length < 140737488355328 then (cabinetryref03_header.l1 k x3 x4 (x6 ++ [0]) x137000 x137001 x137002 x170000 x170001 x170002 x170003) else (none)) else (if x170003 = true then (cabinetryref03_header.j2 k x3 x4 x6 1 x137000 x137001 x137002 x170000 x170001 x170002 x170003) else (cabinetryref03_header.j2 k x3 x4 x6 0 x137000 x137001 x137002 x170000 x170001 x170002 x170003))
def cabinetryref03_header.j2 : Nat → List Int → Int → List Int → Int → Int → List (S23) → List (S46) → ByteArray → Int → Int → Bool → Option (List Int)
 | 0, _, _, _, _, _, _, _, _, _, _, _ => none
 | k + 1, x3, x4, x6, x7, x137000, x137001, x137002, x170000, x170001, x170002, x170003 => if x3.length + x6.length < 140737488355328 then ((some (x3 ++ x6 : List Int)).bind fun y176 => ((cabinetryref03_letter.f x170001).bind fun t179 => ((some (([t179, (x170002) % 256, x7, 0, 0, 0] : List Int) : List Int)).bind fun y180 => (if y176.length + y180.length < 140737488355328 then (cabinetryref03_header.l0 k (y176 ++ y180) (wrap64 (x4 + 1)) x137000 x137001 x137002) else (none))))) else (none)
end
def cabinetryref03_header.f (k : Nat) (a0_0 : Int) (l0_1 : List (S23)) (l0_2 : List (S46)) : Option (List Int) := (some (([67, (a0_0) % 256] : List Int) : List Int)).bind fun y137 => ((cabinetryref03_low.f k (l0_2.length : Int) 4).bind fun t140 => (if y137.length + t140.length < 140737488355328 then ((some (y137 ++ t140 : List Int)).bind fun y143 => ((cabinetryref03_low.f k (wrap64 (13 + (wrap64 (16 * (l0_1.length : Int))))) 2).bind fun t146 => (if y143.length + t146.length < 140737488355328 then ((some (y143 ++ t146 : List Int)).bind fun y149 => ((cabinetryref03_Wide.f k l0_1).bind fun t152 => ((cabinetryref03_low.f k t152 2).bind fun t153 => (if y149.length + t153.length < 140737488355328 then ((some (y149 ++ t153 : List Int)).bind fun y156 => ((some (([((l0_1.length : Int)) % 256, 0] : List Int) : List Int)).bind fun y159 => (if y156.length + y159.length < 140737488355328 then (cabinetryref03_header.l0 k (y156 ++ y159) 0 a0_0 l0_1 l0_2) else (none)))) else (none))))) else (none)))) else (none)))
theorem cabinetryref03_header.mono_l : ∀ k, (∀ y0 y1 y2 y3 y4, LeO (cabinetryref03_header.l0 k y0 y1 y2 y3 y4) (cabinetryref03_header.l0 (k + 1) y0 y1 y2 y3 y4)) ∧ (∀ y0 y1 y2 y3 y4 y5 y6 y7 y8 y9, LeO (cabinetryref03_header.l1 k y0 y1 y2 y3 y4 y5 y6 y7 y8 y9) (cabinetryref03_header.l1 (k + 1) y0 y1 y2 y3 y4 y5 y6 y7 y8 y9)) ∧ (∀ y0 y1 y2 y3 y4 y5 y6 y7 y8 y9 y10, LeO (cabinetryref03_header.j2 k y0 y1 y2 y3 y4 y5 y6 y7 y8 y9 y10) (cabinetryref03_header.j2 (k + 1) y0 y1 y2 y3 y4 y5 y6 y7 y8 y9 y10))
 | 0 => ⟨fun _ _ _ _ _ r h => by simp [cabinetryref03_header.l0] at h, fun _ _ _ _ _ _ _ _ _ _ r h => by simp [cabinetryref03_header.l1] at h, fun _ _ _ _ _ _ _ _ _ _ _ r h => by simp [cabinetryref03_header.j2] at h⟩
 | k + 1 => by
  obtain ⟨ih0, ih1, ih2⟩ := cabinetryref03_header.mono_l k
  refine ⟨?_, ?_, ?_⟩
  ·intro y0 y1 y2 y3 y4
   unfold cabinetryref03_header.l0
   repeat' first
   | (with_reducible exact ih0 _ _ _ _ _)
   | (with_reducible exact ih1 _ _ _ _ _ _ _ _ _ _)
   | (with_reducible exact ih2 _ _ _ _ _ _ _ _ _ _ _)
   | (with_reducible exact cabinetryref03_Wide.mono _ _)
   | (with_reducible exact cabinetryref03_low.mono _ _ _)
   | (with_reducible exact LeO.refl _)
   | (with_reducible exact LeO.none _)
   | (with_reducible refine LeO.ite ?_ ?_)
   | (with_reducible refine LeO.bind ?_ (fun _ => ?_))
  ·intro y0 y1 y2 y3 y4 y5 y6 y7 y8 y9
   unfold cabinetryref03_header.l1
   repeat' first
   | (with_reducible exact ih0 _ _ _ _ _)
   | (with_reducible exact ih1 _ _ _ _ _ _ _ _ _ _)
   | (with_reducible exact ih2 _ _ _ _ _ _ _ _ _ _ _)
   | (with_reducible exact cabinetryref03_Wide.mono _ _)
   | (with_reducible exact cabinetryref03_low.mono _ _ _)
   | (with_reducible exact LeO.refl _)
   | (with_reducible exact LeO.none _)
   | (with_reducible refine LeO.ite ?_ ?_)
   | (with_reducible refine LeO.bind ?_ (fun _ => ?_))
  ·intro y0 y1 y2 y3 y4 y5 y6 y7 y8 y9 y10
   unfold cabinetryref03_header.j2
   repeat' first
   | (with_reducible exact ih0 _ _ _ _ _)
   | (with_reducible exact ih1 _ _ _ _ _ _ _ _ _ _)
   | (with_reducible exact ih2 _ _ _ _ _ _ _ _ _ _ _)
   | (with_reducible exact cabinetryref03_Wide.mono _ _)
   | (with_reducible exact cabinetryref03_low.mono _ _ _)
   | (with_reducible exact LeO.refl _)
   | (with_reducible exact LeO.none _)
   | (with_reducible refine LeO.ite ?_ ?_)
   | (with_reducible refine LeO.bind ?_ (fun _ => ?_))
theorem cabinetryref03_header.mono : ∀ a0 a1 a2 k, LeO (cabinetryref03_header.f k a0 a1 a2) (cabinetryref03_header.f (k + 1) a0 a1 a2) := by
 intro a0 a1 a2 k
 obtain ⟨ih0, ih1, ih2⟩ := cabinetryref03_header.mono_l k
 unfold cabinetryref03_header.f
 repeat' first
   | (with_reducible exact ih0 _ _ _ _ _)
   | (with_reducible exact ih1 _ _ _ _ _ _ _ _ _ _)
   | (with_reducible exact ih2 _ _ _ _ _ _ _ _ _ _ _)
   | (with_reducible exact cabinetryref03_Wide.mono _ _)
   | (with_reducible exact cabinetryref03_low.mono _ _ _)
   | (with_reducible exact LeO.refl _)
   | (with_reducible exact LeO.none _)
   | (with_reducible refine LeO.ite ?_ ?_)
   | (with_reducible refine LeO.bind ?_ (fun _ => ?_))
def cabinetryref03_header.T17 : Bool × List (List Nat × List Nat) := (true, [([], []), ([], []), ([1], [1]), ([2], [2]), ([], []), ([4], [4]), ([5], [5]), ([], []), ([3, 6, 7], [3, 6, 7]), ([0, 8, 3], [0, 8]), ([9, 9, 0, 1, 2, 3, 4, 5, 6, 7, 8, 9], [0, 9])])
def cabinetryref03_header.B17 : List Nat := [0, 0, 2, 6, 0, 16, 48, 0, 254, 511, 1023]
theorem cabinetryref03_header.tab17 : rtab .any (opsOf Tryz.f60 17) = cabinetryref03_header.T17 := by kernel_rfl
theorem cabinetryref03_header.bits17 : waitsOk cabinetryref03_header.T17.2 cabinetryref03_header.B17 = true := by kernel_rfl
theorem cabinetryref03_header.calls (k : Nat) (a0_0 : Int) (A0_1 : Option Addr) (c0_1 : Nat) (l0_1 : List (S23)) (A0_2 : Option Addr) (c0_2 : Nat) (l0_2 : List (S46)) (r : List Int) (w : World) (hr0_1 : Kd.C k23 w A0_1 l0_1.length l0_1) (hc0_1 : l0_1.length ≤ c0_1) (hr0_2 : Kd.C k46 w A0_2 l0_2.length l0_2) (hc0_2 : l0_2.length ≤ c0_2) (h : cabinetryref03_header.f k a0_0 l0_1 l0_2 = some r) :
  Calls Tryz.prog 60 #[.agg #[.int .i64 a0_0, .slice A0_1 l0_1.length c0_1, .slice A0_2 l0_2.length c0_2]] w fun e w' => ∃ v0_ : Value, e = .returned (v0_) ∧ Kd.R (Kd.int .u8) 5 w' w.heap.size (fun _ => True) v0_ r ∧ Below w.heap.size w w' := by
 have hu35 := Tryz.underlying35
 have hu23 := Tryz.underlying23
 have HR0_1 := Z0 hr0_1
 have HC0_1 := Z0 hc0_1
 clear hr0_1 hc0_1
 have HR0_2 := Z0 hr0_2
 have HC0_2 := Z0 hc0_2
 clear hr0_2 hc0_2
 have HB := Z0 (Below.refl w.heap.size w)
 unfold cabinetryref03_header.f at h
 have H := h
 clear h
 obtain ⟨y137, hy137⟩ : ∃ y_ : List Int, y_ = (([67, (a0_0) % 256] : List Int)) := ⟨_, rfl⟩
 replace H : ((cabinetryref03_low.f k (l0_2.length : Int) 4).bind fun t140 => (if y137.length + t140.length < 140737488355328 then ((some (y137 ++ t140 : List Int)).bind fun y143 => ((cabinetryref03_low.f k (wrap64 (13 + (wrap64 (16 * (l0_1.length : Int))))) 2).bind fun t146 => (if y143.length + t146.length < 140737488355328 then ((some (y143 ++ t146 : List Int)).bind fun y149 => ((cabinetryref03_Wide.f k l0_1).bind fun t152 => ((cabinetryref03_low.f k t152 2).bind fun t153 => (if y149.length + t153.length < 140737488355328 then ((some (y149 ++ t153 : List Int)).bind fun y156 => ((some (([((l0_1.length : Int)) % 256, 0] : List Int) : List Int)).bind fun y159 => (if y156.length + y159.length < 140737488355328 then (cabinetryref03_header.l0 k (y156 ++ y159) 0 a0_0 l0_1 l0_2) else (none)))) else (none))))) else (none)))) else (none))) = some r := by rw [hy137]; exact H
 have Ny137 := Z0 hy137
 clear hy137
 replace H := Option.bind_eq_some_iff.mp H
 obtain ⟨t140, A20, H⟩ := H
 replace H : (if y137.length + t140.length < 140737488355328 then ((some (y137 ++ t140 : List Int)).bind fun y143 => ((cabinetryref03_low.f k (wrap64 (13 + (wrap64 (16 * (l0_1.length : Int))))) 2).bind fun t146 => (if y143.length + t146.length < 140737488355328 then ((some (y143 ++ t146 : List Int)).bind fun y149 => ((cabinetryref03_Wide.f k l0_1).bind fun t152 => ((cabinetryref03_low.f k t152 2).bind fun t153 => (if y149.length + t153.length < 140737488355328 then ((some (y149 ++ t153 : List Int)).bind fun y156 => ((some (([((l0_1.length : Int)) % 256, 0] : List Int) : List Int)).bind fun y159 => (if y156.length + y159.length < 140737488355328 then (cabinetryref03_header.l0 k (y156 ++ y159) 0 a0_0 l0_1 l0_2) else (none)))) else (none))))) else (none)))) else (none)) = some r := H
 have A2 := Z0 A20
 clear A20
 by_cases c3 : y137.length + t140.length < 140737488355328
 rotate_left
 ·rw [if_neg c3] at H
  exact absurd H (by simp)
 rw [if_pos c3] at H
 have LMc3 := Z0 c3
 clear c3
 obtain ⟨y143, hy143⟩ : ∃ y_ : List Int, y_ = (y137 ++ t140) := ⟨_, rfl⟩
 replace H : ((cabinetryref03_low.f k (wrap64 (13 + (wrap64 (16 * (l0_1.length : Int))))) 2).bind fun t146 => (if y143.length + t146.length < 140737488355328 then ((some (y143 ++ t146 : List Int)).bind fun y149 => ((cabinetryref03_Wide.f k l0_1).bind fun t152 => ((cabinetryref03_low.f k t152 2).bind fun t153 => (if y149.length + t153.length < 140737488355328 then ((some (y149 ++ t153 : List Int)).bind fun y156 => ((some (([((l0_1.length : Int)) % 256, 0] : List Int) : List Int)).bind fun y159 => (if y156.length + y159.length < 140737488355328 then (cabinetryref03_header.l0 k (y156 ++ y159) 0 a0_0 l0_1 l0_2) else (none)))) else (none))))) else (none))) = some r := by rw [hy143]; exact H
 have Ny143 := Z0 hy143
 clear hy143
 replace H := Option.bind_eq_some_iff.mp H
 obtain ⟨t146, A40, H⟩ := H
 replace H : (if y143.length + t146.length < 140737488355328 then ((some (y143 ++ t146 : List Int)).bind fun y149 => ((cabinetryref03_Wide.f k l0_1).bind fun t152 => ((cabinetryref03_low.f k t152 2).bind fun t153 => (if y149.length + t153.length < 140737488355328 then ((some (y149 ++ t153 : List Int)).bind fun y156 => ((some (([((l0_1.length : Int)) % 256, 0] : List Int) : List Int)).bind fun y159 => (if y156.length + y159.length < 140737488355328 then (cabinetryref03_header.l0 k (y156 ++ y159) 0 a0_0 l0_1 l0_2) else (none)))) else (none))))) else (none)) = some r := H
 have A4 := Z0 A40
 clear A40
 by_cases c5 : y143.length + t146.length < 140737488355328
 rotate_left
 ·rw [if_neg c5] at H
  exact absurd H (by simp)
 rw [if_pos c5] at H
 have LMc5 := Z0 c5
 clear c5
 obtain ⟨y149, hy149⟩ : ∃ y_ : List Int, y_ = (y143 ++ t146) := ⟨_, rfl⟩
 replace H : ((cabinetryref03_Wide.f k l0_1).bind fun t152 => ((cabinetryref03_low.f k t152 2).bind fun t153 => (if y149.length + t153.length < 140737488355328 then ((some (y149 ++ t153 : List Int)).bind fun y156 => ((some (([((l0_1.length : Int)) % 256, 0] : List Int) : List Int)).bind fun y159 => (if y156.length + y159.length < 140737488355328 then (cabinetryref03_header.l0 k (y156 ++ y159) 0 a0_0 l0_1 l0_2) else (none)))) else (none)))) = some r := by rw [hy149]; exact H
 have Ny149 := Z0 hy149
 clear hy149
 replace H := Option.bind_eq_some_iff.mp H
 obtain ⟨t152, A60, H⟩ := H
 replace H : ((cabinetryref03_low.f k t152 2).bind fun t153 => (if y149.length + t153.length < 140737488355328 then ((some (y149 ++ t153 : List Int)).bind fun y156 => ((some (([((l0_1.length : Int)) % 256, 0] : List Int) : List Int)).bind fun y159 => (if y156.length + y159.length < 140737488355328 then (cabinetryref03_header.l0 k (y156 ++ y159) 0 a0_0 l0_1 l0_2) else (none)))) else (none))) = some r := H
 have A6 := Z0 A60
 clear A60
 replace H := Option.bind_eq_some_iff.mp H
 obtain ⟨t153, A70, H⟩ := H
 replace H : (if y149.length + t153.length < 140737488355328 then ((some (y149 ++ t153 : List Int)).bind fun y156 => ((some (([((l0_1.length : Int)) % 256, 0] : List Int) : List Int)).bind fun y159 => (if y156.length + y159.length < 140737488355328 then (cabinetryref03_header.l0 k (y156 ++ y159) 0 a0_0 l0_1 l0_2) else (none)))) else (none)) = some r := H
 have A7 := Z0 A70
 clear A70
 by_cases c8 : y149.length + t153.length < 140737488355328
 rotate_left
 ·rw [if_neg c8] at H
  exact absurd H (by simp)
 rw [if_pos c8] at H
 have LMc8 := Z0 c8
 clear c8
 obtain ⟨y156, hy156⟩ : ∃ y_ : List Int, y_ = (y149 ++ t153) := ⟨_, rfl⟩
 replace H : ((some (([((l0_1.length : Int)) % 256, 0] : List Int) : List Int)).bind fun y159 => (if y156.length + y159.length < 140737488355328 then (cabinetryref03_header.l0 k (y156 ++ y159) 0 a0_0 l0_1 l0_2) else (none))) = some r := by rw [hy156]; exact H
 have Ny156 := Z0 hy156
 clear hy156
 obtain ⟨y159, hy159⟩ : ∃ y_ : List Int, y_ = (([((l0_1.length : Int)) % 256, 0] : List Int)) := ⟨_, rfl⟩
 replace H : (if y156.length + y159.length < 140737488355328 then (cabinetryref03_header.l0 k (y156 ++ y159) 0 a0_0 l0_1 l0_2) else (none)) = some r := by rw [hy159]; exact H
 have Ny159 := Z0 hy159
 clear hy159
 by_cases c9 : y156.length + y159.length < 140737488355328
 rotate_left
 ·rw [if_neg c9] at H
  exact absurd H (by simp)
 rw [if_pos c9] at H
 have LMc9 := Z0 c9
 clear c9
 obtain ⟨y162, hy162⟩ : ∃ y_ : List Int, y_ = (y156 ++ y159) := ⟨_, rfl⟩
 replace H : (cabinetryref03_header.l0 k y162 0 a0_0 l0_1 l0_2) = some r := by rw [hy162]; exact H
 have Ny162 := Z0 hy162
 clear hy162
 have H' := Z0 H
 clear H
 go_enter Tryz.func60, Tryz.ntmps60
 go_wp2_with (first | ((with_reducible refine Z9 (N := 1) rfl ?_); refine bx (N := 1) (cs := #[.int .i64 a0_0, .slice A0_1 l0_1.length c0_1, .slice A0_2 l0_2.length c0_2]) (t := 35) ?_; intro gb136 hg w10 hbox hb; have BK136 := Z0 hbox; have GE136 := ge hg V0; replace HB := Z0 (Z1 V0 hb); clear hb hbox hg; obtain ⟨hcz11_0, hcz11_1, hcz11_2⟩ := bc3 BK136.out; obtain ⟨hfz11_0, hfz11_1, hfz11_2⟩ := bf3 BK136.out) | ((with_reducible refine Z9 (N := 11) rfl ?_); refine Kd.R_lit (Kd.int .u8) _ 5 ?hg (N := 11) ?hd (xs := ([67, (a0_0) % 256] : List Int)) (inner := [.int .u8 67, .int .u8 ((a0_0) % 256)]) (ok := fun _ => True) (okp := fun _ => True) ?hr ?hp (fun _ hk => hk) trivial (Below.refl _ _) (Nat.le_refl _) (by simp) ?_; (case hd => rfl); (case hg => rfl); (case hr => go_simp; try rfl); (case hp => exact (Reps.one (show Kd.M (Kd.int .u8) _ _ _ 67 [.int .u8 67] from rfl) (Reps.one (show Kd.M (Kd.int .u8) _ _ _ ((a0_0) % 256) [.int .u8 ((a0_0) % 256)] from rfl) (Reps.none _ _)))); intro v138 w12 ho13 hb hg_ hnew_; clear hg_ hnew_; (first | rw [← Ny137.out] at ho13 | (simp only [Int.reduceToNat] at ho13; rw [← Ny137.out] at ho13)); have HO139 := Z0 (Kd.R_lower ho13 (below_size V0)); replace BK136 := Z0 (Z2 (g := gb136) (o := .cells #[.int .i64 a0_0, .slice A0_1 l0_1.length c0_1, .slice A0_2 l0_2.length c0_2] 35 (0, 0)) (kb BK136.out) hb); replace HB := Z0 (Z1 V0 hb); clear hb ho13; obtain ⟨hcz14_0, hcz14_1, hcz14_2⟩ := bc3 BK136.out; obtain ⟨hfz14_0, hfz14_1, hfz14_2⟩ := bf3 BK136.out) | ((with_reducible refine Z5 (f := 106) rfl ?_); refine gl Tryz.func106 (cabinetryref03_low.calls k (l0_2.length : Int) 4 t140 _ A2.out) ?_; rintro e w15 ⟨v141, rfl, ho0, hb⟩; refine ⟨_, rfl, ?_⟩; have HO142 := Z0 (Kd.R_lower (Kd.R_new' ho0 (Kd.R_lt (by (with_reducible repeat (first | apply Kd.R_alloc | apply Kd.R_drewN | apply Kd.R_drew)); exact HO139.out))) (below_size V0)); replace HO139 := Z0 (Kd.R_elder' (by (with_reducible repeat (first | apply Kd.R_alloc | apply Kd.R_drewN | apply Kd.R_drew)); exact HO139.out) (Kd.R_base ho0) hb); replace BK136 := Z0 (Z2 (g := gb136) (o := .cells #[.int .i64 a0_0, .slice A0_1 l0_1.length c0_1, .slice A0_2 l0_2.length c0_2] 35 (0, 0)) (kb BK136.out) hb); replace HB := Z0 (Z1 V0 hb); obtain ⟨Ao17, co17, eo17⟩ := Kd.R_slice HO142.out; subst eo17) | ((with_reducible refine gate_builtin (b := .append) (xs := #[.tmp 12, .tmp 16]) rfl ?_); at_builtin; refine Kd.R_append_rows (Kd.int .u8) (w0 := w) w.heap.size rfl (.tmp 12) (.tmp 16) 37 5 (.int .u8 0) 1 rfl Tryz.underlying37 info5 rfl (by decide) (by omega) v138 y137 t140 _ _ _ (fun k_ => some k_ ≠ (.slice Ao17 t140.length co17 : Value).ownBlock) (fun _ => False) rfl rfl ?aO ?aR (fun _ _ h => h) (fun _ h => h.elim) ?aF ?aB ?aS ?aL ?_; (case aR => repeat (first | exact (Kd.R_reads' HO142.out).2.2 | (with_reducible refine Kd.C_alloc ?_ _) | (with_reducible refine Kd.C_drewN ?_ _) | (with_reducible refine Kd.C_drew ?_))); (case aB => exact V0); (case aF => exact (fun k_ hk => Kd.fresh' (Kd.R_lt (by (with_reducible repeat (first | apply Kd.R_alloc | apply Kd.R_drewN | apply Kd.R_drew)); exact HO142.out)) k_ hk)); (case aO => exact (by (with_reducible repeat (first | apply Kd.R_alloc | apply Kd.R_drewN | apply Kd.R_drew)); exact Kd.R_mono HO139.out (fun _ hk => hk.2))); (case aS => exact (below_size V0)); (case aL => have := LMc3.out; omega); intro v144 w16 ho hb hg hat; rw [← Ny143.out] at ho; replace BK136 := Z0 (blk_grown (g := gb136) (o := .cells #[.int .i64 a0_0, .slice A0_1 l0_1.length c0_1, .slice A0_2 l0_2.length c0_2] 35 (0, 0)) (kb BK136.out) hg (Kd.R_ne HO139.out BK136.out (by decide))); replace HO142 := Z0 (Kd.R_after (ok := (fun _ => True)) (by (with_reducible repeat (first | apply Kd.R_alloc | apply Kd.R_drewN | apply Kd.R_drew)); exact HO142.out) hg hat); replace HB := Z0 hb; have HO145 := Z0 (ho); clear HO139; clear ho hb hg hat; obtain ⟨hcz18_0, hcz18_1, hcz18_2⟩ := bc3 BK136.out; obtain ⟨hfz18_0, hfz18_1, hfz18_2⟩ := bf3 BK136.out) | ((with_reducible refine Z5 (f := 106) rfl ?_); refine gl Tryz.func106 (cabinetryref03_low.calls k (wrap64 (13 + (wrap64 (16 * (l0_1.length : Int))))) 2 t146 _ A4.out) ?_; rintro e w19 ⟨v147, rfl, ho0, hb⟩; refine ⟨_, rfl, ?_⟩; have HO148 := Z0 (Kd.R_lower (Kd.R_new' (Kd.R_new' ho0 (Kd.R_lt (by (with_reducible repeat (first | apply Kd.R_alloc | apply Kd.R_drewN | apply Kd.R_drew)); exact HO142.out))) (Kd.R_lt (by (with_reducible repeat (first | apply Kd.R_alloc | apply Kd.R_drewN | apply Kd.R_drew)); exact HO145.out))) (below_size V0)); replace HO142 := Z0 (Kd.R_elder' (by (with_reducible repeat (first | apply Kd.R_alloc | apply Kd.R_drewN | apply Kd.R_drew)); exact HO142.out) (Kd.R_base ho0) hb); replace HO145 := Z0 (Kd.R_elder' (by (with_reducible repeat (first | apply Kd.R_alloc | apply Kd.R_drewN | apply Kd.R_drew)); exact HO145.out) (Kd.R_base ho0) hb); replace BK136 := Z0 (Z2 (g := gb136) (o := .cells #[.int .i64 a0_0, .slice A0_1 l0_1.length c0_1, .slice A0_2 l0_2.length c0_2] 35 (0, 0)) (kb BK136.out) hb); replace HB := Z0 (Z1 V0 hb); obtain ⟨Ao21, co21, eo21⟩ := Kd.R_slice HO148.out; subst eo21) | ((with_reducible refine gate_builtin (b := .append) (xs := #[.tmp 18, .tmp 24]) rfl ?_); at_builtin; refine Kd.R_append_rows (Kd.int .u8) (w0 := w) w.heap.size rfl (.tmp 18) (.tmp 24) 37 5 (.int .u8 0) 1 rfl Tryz.underlying37 info5 rfl (by decide) (by omega) v144 y143 t146 _ _ _ (fun k_ => some k_ ≠ (.slice Ao17 t140.length co17 : Value).ownBlock ∧ some k_ ≠ (.slice Ao21 t146.length co21 : Value).ownBlock) (fun _ => False) rfl rfl ?aO ?aR (fun _ _ h => h) (fun _ h => h.elim) ?aF ?aB ?aS ?aL ?_; (case aR => repeat (first | exact (Kd.R_reads' HO148.out).2.2 | (with_reducible refine Kd.C_alloc ?_ _) | (with_reducible refine Kd.C_drewN ?_ _) | (with_reducible refine Kd.C_drew ?_))); (case aB => exact V0); (case aF => exact (fun k_ hk => ⟨Kd.fresh' (Kd.R_lt (by (with_reducible repeat (first | apply Kd.R_alloc | apply Kd.R_drewN | apply Kd.R_drew)); exact HO142.out)) k_ hk, Kd.fresh' (Kd.R_lt (by (with_reducible repeat (first | apply Kd.R_alloc | apply Kd.R_drewN | apply Kd.R_drew)); exact HO148.out)) k_ hk⟩)); (case aO => exact (by (with_reducible repeat (first | apply Kd.R_alloc | apply Kd.R_drewN | apply Kd.R_drew)); exact HO145.out)); (case aS => exact (below_size V0)); (case aL => have := LMc5.out; omega); intro v150 w20 ho hb hg hat; rw [← Ny149.out] at ho; replace BK136 := Z0 (blk_grown (g := gb136) (o := .cells #[.int .i64 a0_0, .slice A0_1 l0_1.length c0_1, .slice A0_2 l0_2.length c0_2] 35 (0, 0)) (kb BK136.out) hg (Kd.R_ne HO145.out BK136.out (by decide))); replace HO142 := Z0 (Kd.R_after (ok := (fun k_ => some k_ ≠ (.slice Ao21 t146.length co21 : Value).ownBlock)) (by (with_reducible repeat (first | apply Kd.R_alloc | apply Kd.R_drewN | apply Kd.R_drew)); exact Kd.R_mono HO142.out (fun _ hk => ⟨hk.2, hk.1.2⟩)) hg hat); replace HO148 := Z0 (Kd.R_after (ok := (fun k_ => some k_ ≠ (.slice Ao17 t140.length co17 : Value).ownBlock)) (by (with_reducible repeat (first | apply Kd.R_alloc | apply Kd.R_drewN | apply Kd.R_drew)); exact Kd.R_mono HO148.out (fun _ hk => ⟨hk.1.2, hk.2⟩)) hg hat); replace HB := Z0 hb; have HO151 := Z0 (ho); clear HO145; clear ho hb hg hat; obtain ⟨hcz22_0, hcz22_1, hcz22_2⟩ := bc3 BK136.out; obtain ⟨hfz22_0, hfz22_1, hfz22_2⟩ := bf3 BK136.out) | ((with_reducible refine Z5 (f := 70) rfl ?_); refine gl Tryz.func70 (cabinetryref03_Wide.calls k _ _ l0_1 t152 _ (kc (Kd.C_below HR0_1.out HB.out)) HC0_1.out A6.out) ?_; rintro e w' ⟨rfl, ⟨nd, rfl⟩⟩; refine ⟨_, rfl, ?_⟩) | ((with_reducible refine Z5 (f := 106) rfl ?_); refine gl Tryz.func106 (cabinetryref03_low.calls k t152 2 t153 _ A7.out) ?_; rintro e w23 ⟨v154, rfl, ho0, hb⟩; refine ⟨_, rfl, ?_⟩; have HO155 := Z0 (Kd.R_lower (Kd.R_new' (Kd.R_new' (Kd.R_new' ho0 (Kd.R_lt (by (with_reducible repeat (first | apply Kd.R_alloc | apply Kd.R_drewN | apply Kd.R_drew)); exact HO142.out))) (Kd.R_lt (by (with_reducible repeat (first | apply Kd.R_alloc | apply Kd.R_drewN | apply Kd.R_drew)); exact HO148.out))) (Kd.R_lt (by (with_reducible repeat (first | apply Kd.R_alloc | apply Kd.R_drewN | apply Kd.R_drew)); exact HO151.out))) (below_size V0)); replace HO142 := Z0 (Kd.R_elder' (by (with_reducible repeat (first | apply Kd.R_alloc | apply Kd.R_drewN | apply Kd.R_drew)); exact HO142.out) (Kd.R_base ho0) hb); replace HO148 := Z0 (Kd.R_elder' (by (with_reducible repeat (first | apply Kd.R_alloc | apply Kd.R_drewN | apply Kd.R_drew)); exact HO148.out) (Kd.R_base ho0) hb); replace HO151 := Z0 (Kd.R_elder' (by (with_reducible repeat (first | apply Kd.R_alloc | apply Kd.R_drewN | apply Kd.R_drew)); exact HO151.out) (Kd.R_base ho0) hb); replace BK136 := Z0 (Z2 (g := gb136) (o := .cells #[.int .i64 a0_0, .slice A0_1 l0_1.length c0_1, .slice A0_2 l0_2.length c0_2] 35 (0, 0)) (kb BK136.out) hb); replace HB := Z0 (Z1 V0 hb); obtain ⟨Ao25, co25, eo25⟩ := Kd.R_slice HO155.out; subst eo25) | ((with_reducible refine gate_builtin (b := .append) (xs := #[.tmp 26, .tmp 30]) rfl ?_); at_builtin; refine Kd.R_append_rows (Kd.int .u8) (w0 := w) w.heap.size rfl (.tmp 26) (.tmp 30) 37 5 (.int .u8 0) 1 rfl Tryz.underlying37 info5 rfl (by decide) (by omega) v150 y149 t153 _ _ _ (fun k_ => some k_ ≠ (.slice Ao17 t140.length co17 : Value).ownBlock ∧ some k_ ≠ (.slice Ao21 t146.length co21 : Value).ownBlock ∧ some k_ ≠ (.slice Ao25 t153.length co25 : Value).ownBlock) (fun _ => False) rfl rfl ?aO ?aR (fun _ _ h => h) (fun _ h => h.elim) ?aF ?aB ?aS ?aL ?_; (case aR => repeat (first | exact (Kd.R_reads' HO155.out).2.2 | (with_reducible refine Kd.C_alloc ?_ _) | (with_reducible refine Kd.C_drewN ?_ _) | (with_reducible refine Kd.C_drew ?_))); (case aB => exact V0); (case aF => exact (fun k_ hk => ⟨Kd.fresh' (Kd.R_lt (by (with_reducible repeat (first | apply Kd.R_alloc | apply Kd.R_drewN | apply Kd.R_drew)); exact HO142.out)) k_ hk, Kd.fresh' (Kd.R_lt (by (with_reducible repeat (first | apply Kd.R_alloc | apply Kd.R_drewN | apply Kd.R_drew)); exact HO148.out)) k_ hk, Kd.fresh' (Kd.R_lt (by (with_reducible repeat (first | apply Kd.R_alloc | apply Kd.R_drewN | apply Kd.R_drew)); exact HO155.out)) k_ hk⟩)); (case aO => exact (by (with_reducible repeat (first | apply Kd.R_alloc | apply Kd.R_drewN | apply Kd.R_drew)); exact Kd.R_mono HO151.out (fun _ hk => ⟨hk.1.1, ⟨hk.1.2, hk.2⟩⟩))); (case aS => exact (below_size V0)); (case aL => have := LMc8.out; omega); intro v157 w24 ho hb hg hat; rw [← Ny156.out] at ho; replace BK136 := Z0 (blk_grown (g := gb136) (o := .cells #[.int .i64 a0_0, .slice A0_1 l0_1.length c0_1, .slice A0_2 l0_2.length c0_2] 35 (0, 0)) (kb BK136.out) hg (Kd.R_ne HO151.out BK136.out (by decide))); replace HO142 := Z0 (Kd.R_after (ok := (fun k_ => some k_ ≠ (.slice Ao21 t146.length co21 : Value).ownBlock ∧ some k_ ≠ (.slice Ao25 t153.length co25 : Value).ownBlock)) (by (with_reducible repeat (first | apply Kd.R_alloc | apply Kd.R_drewN | apply Kd.R_drew)); exact Kd.R_mono HO142.out (fun _ hk => ⟨⟨hk.1.1, hk.2⟩, hk.1.2⟩)) hg hat); replace HO148 := Z0 (Kd.R_after (ok := (fun k_ => some k_ ≠ (.slice Ao17 t140.length co17 : Value).ownBlock ∧ some k_ ≠ (.slice Ao25 t153.length co25 : Value).ownBlock)) (by (with_reducible repeat (first | apply Kd.R_alloc | apply Kd.R_drewN | apply Kd.R_drew)); exact Kd.R_mono HO148.out (fun _ hk => ⟨⟨hk.1.1, hk.2⟩, hk.1.2⟩)) hg hat); replace HO155 := Z0 (Kd.R_after (ok := (fun k_ => some k_ ≠ (.slice Ao17 t140.length co17 : Value).ownBlock ∧ some k_ ≠ (.slice Ao21 t146.length co21 : Value).ownBlock)) (by (with_reducible repeat (first | apply Kd.R_alloc | apply Kd.R_drewN | apply Kd.R_drew)); exact Kd.R_mono HO155.out (fun _ hk => ⟨⟨hk.1.1.2, hk.1.2⟩, hk.2⟩)) hg hat); replace HB := Z0 hb; have HO158 := Z0 (ho); clear HO151; clear ho hb hg hat; obtain ⟨hcz26_0, hcz26_1, hcz26_2⟩ := bc3 BK136.out; obtain ⟨hfz26_0, hfz26_1, hfz26_2⟩ := bf3 BK136.out) | ((with_reducible refine Z9 (N := 37) rfl ?_); refine Kd.R_lit (Kd.int .u8) _ 5 ?hg (N := 37) ?hd (xs := ([((l0_1.length : Int)) % 256, 0] : List Int)) (inner := [.int .u8 (((l0_1.length : Int)) % 256), .int .u8 0]) (ok := fun _ => True) (okp := fun _ => True) ?hr ?hp (fun _ hk => hk) trivial (Below.refl _ _) (Nat.le_refl _) (by simp) ?_; (case hd => rfl); (case hg => rfl); (case hr => go_simp; try rfl); (case hp => exact (Reps.one (show Kd.M (Kd.int .u8) _ _ _ (((l0_1.length : Int)) % 256) [.int .u8 (((l0_1.length : Int)) % 256)] from rfl) (Reps.one (show Kd.M (Kd.int .u8) _ _ _ 0 [.int .u8 0] from rfl) (Reps.none _ _)))); intro v160 w27 ho28 hb hg_ hnew_; clear hg_ hnew_; (first | rw [← Ny159.out] at ho28 | (simp only [Int.reduceToNat] at ho28; rw [← Ny159.out] at ho28)); have HO161 := Z0 (Kd.R_lower (Kd.R_new' (Kd.R_new' (Kd.R_new' (Kd.R_new' ho28 (Kd.R_lt (by (with_reducible repeat (first | apply Kd.R_alloc | apply Kd.R_drewN | apply Kd.R_drew)); exact HO142.out))) (Kd.R_lt (by (with_reducible repeat (first | apply Kd.R_alloc | apply Kd.R_drewN | apply Kd.R_drew)); exact HO148.out))) (Kd.R_lt (by (with_reducible repeat (first | apply Kd.R_alloc | apply Kd.R_drewN | apply Kd.R_drew)); exact HO155.out))) (Kd.R_lt (by (with_reducible repeat (first | apply Kd.R_alloc | apply Kd.R_drewN | apply Kd.R_drew)); exact HO158.out))) (below_size V0)); replace HO142 := Z0 (Kd.R_elder' (by (with_reducible repeat (first | apply Kd.R_alloc | apply Kd.R_drewN | apply Kd.R_drew)); exact HO142.out) (Kd.R_base ho28) hb); replace HO148 := Z0 (Kd.R_elder' (by (with_reducible repeat (first | apply Kd.R_alloc | apply Kd.R_drewN | apply Kd.R_drew)); exact HO148.out) (Kd.R_base ho28) hb); replace HO155 := Z0 (Kd.R_elder' (by (with_reducible repeat (first | apply Kd.R_alloc | apply Kd.R_drewN | apply Kd.R_drew)); exact HO155.out) (Kd.R_base ho28) hb); replace HO158 := Z0 (Kd.R_elder' (by (with_reducible repeat (first | apply Kd.R_alloc | apply Kd.R_drewN | apply Kd.R_drew)); exact HO158.out) (Kd.R_base ho28) hb); replace BK136 := Z0 (Z2 (g := gb136) (o := .cells #[.int .i64 a0_0, .slice A0_1 l0_1.length c0_1, .slice A0_2 l0_2.length c0_2] 35 (0, 0)) (kb BK136.out) hb); replace HB := Z0 (Z1 V0 hb); clear hb ho28; obtain ⟨Ao30, co30, eo30⟩ := Kd.R_slice HO161.out; subst eo30) | ((with_reducible refine gate_builtin (b := .append) (xs := #[.tmp 32, .tmp 37]) rfl ?_); at_builtin; refine Kd.R_append_rows (Kd.int .u8) (w0 := w) w.heap.size rfl (.tmp 32) (.tmp 37) 37 5 (.int .u8 0) 1 rfl Tryz.underlying37 info5 rfl (by decide) (by omega) v157 y156 y159 _ _ _ (fun k_ => some k_ ≠ (.slice Ao17 t140.length co17 : Value).ownBlock ∧ some k_ ≠ (.slice Ao21 t146.length co21 : Value).ownBlock ∧ some k_ ≠ (.slice Ao25 t153.length co25 : Value).ownBlock ∧ some k_ ≠ (.slice Ao30 y159.length co30 : Value).ownBlock) (fun _ => False) rfl rfl ?aO ?aR (fun _ _ h => h) (fun _ h => h.elim) ?aF ?aB ?aS ?aL ?_; (case aR => repeat (first | exact (Kd.R_reads' HO161.out).2.2 | (with_reducible refine Kd.C_alloc ?_ _) | (with_reducible refine Kd.C_drewN ?_ _) | (with_reducible refine Kd.C_drew ?_))); (case aB => exact V0); (case aF => exact (fun k_ hk => ⟨Kd.fresh' (Kd.R_lt (by (with_reducible repeat (first | apply Kd.R_alloc | apply Kd.R_drewN | apply Kd.R_drew)); exact HO142.out)) k_ hk, Kd.fresh' (Kd.R_lt (by (with_reducible repeat (first | apply Kd.R_alloc | apply Kd.R_drewN | apply Kd.R_drew)); exact HO148.out)) k_ hk, Kd.fresh' (Kd.R_lt (by (with_reducible repeat (first | apply Kd.R_alloc | apply Kd.R_drewN | apply Kd.R_drew)); exact HO155.out)) k_ hk, Kd.fresh' (Kd.R_lt (by (with_reducible repeat (first | apply Kd.R_alloc | apply Kd.R_drewN | apply Kd.R_drew)); exact HO161.out)) k_ hk⟩)); (case aO => exact (by (with_reducible repeat (first | apply Kd.R_alloc | apply Kd.R_drewN | apply Kd.R_drew)); exact Kd.R_mono HO158.out (fun _ hk => ⟨hk.1.1, ⟨hk.1.2.1, ⟨hk.1.2.2, hk.2⟩⟩⟩))); (case aS => exact (below_size V0)); (case aL => have := LMc9.out; omega); intro v163 w29 ho hb hg hat; rw [← Ny162.out] at ho; replace BK136 := Z0 (blk_grown (g := gb136) (o := .cells #[.int .i64 a0_0, .slice A0_1 l0_1.length c0_1, .slice A0_2 l0_2.length c0_2] 35 (0, 0)) (kb BK136.out) hg (Kd.R_ne HO158.out BK136.out (by decide))); replace HO142 := Z0 (Kd.R_after (ok := (fun k_ => some k_ ≠ (.slice Ao21 t146.length co21 : Value).ownBlock ∧ some k_ ≠ (.slice Ao25 t153.length co25 : Value).ownBlock ∧ some k_ ≠ (.slice Ao30 y159.length co30 : Value).ownBlock)) (by (with_reducible repeat (first | apply Kd.R_alloc | apply Kd.R_drewN | apply Kd.R_drew)); exact Kd.R_mono HO142.out (fun _ hk => ⟨⟨hk.1.1.1, ⟨hk.1.1.2, hk.2⟩⟩, hk.1.2⟩)) hg hat); replace HO148 := Z0 (Kd.R_after (ok := (fun k_ => some k_ ≠ (.slice Ao17 t140.length co17 : Value).ownBlock ∧ some k_ ≠ (.slice Ao25 t153.length co25 : Value).ownBlock ∧ some k_ ≠ (.slice Ao30 y159.length co30 : Value).ownBlock)) (by (with_reducible repeat (first | apply Kd.R_alloc | apply Kd.R_drewN | apply Kd.R_drew)); exact Kd.R_mono HO148.out (fun _ hk => ⟨⟨hk.1.1.1, ⟨hk.1.1.2, hk.2⟩⟩, hk.1.2⟩)) hg hat); replace HO155 := Z0 (Kd.R_after (ok := (fun k_ => some k_ ≠ (.slice Ao17 t140.length co17 : Value).ownBlock ∧ some k_ ≠ (.slice Ao21 t146.length co21 : Value).ownBlock ∧ some k_ ≠ (.slice Ao30 y159.length co30 : Value).ownBlock)) (by (with_reducible repeat (first | apply Kd.R_alloc | apply Kd.R_drewN | apply Kd.R_drew)); exact Kd.R_mono HO155.out (fun _ hk => ⟨⟨hk.1.1.1, ⟨hk.1.1.2, hk.2⟩⟩, hk.1.2⟩)) hg hat); replace HO161 := Z0 (Kd.R_after (ok := (fun k_ => some k_ ≠ (.slice Ao17 t140.length co17 : Value).ownBlock ∧ some k_ ≠ (.slice Ao21 t146.length co21 : Value).ownBlock ∧ some k_ ≠ (.slice Ao25 t153.length co25 : Value).ownBlock)) (by (with_reducible repeat (first | apply Kd.R_alloc | apply Kd.R_drewN | apply Kd.R_drew)); exact Kd.R_mono HO161.out (fun _ hk => ⟨⟨hk.1.1.1.2, ⟨hk.1.1.2, hk.1.2⟩⟩, hk.2⟩)) hg hat); replace HB := Z0 hb; have HO164 := Z0 (ho); clear HO158; clear ho hb hg hat))
 go_loopg [3, 4] k (fun kq v3 v4 w' => ∃ (x3_1 : List Int) (x4_1 : Int), v4 = .int .i64 x4_1 ∧ Aside0 (cabinetryref03_header.l0 kq x3_1 x4_1 a0_0 l0_1 l0_2 = some r) ∧ Aside0 (kq ≤ k) ∧ Aside0 (Kd.R (Kd.int .u8) 5 w' w.heap.size (fun _ => True) v3 x3_1) ∧ Aside0 (w'.heap[gb136]? = some (.cells #[.int .i64 a0_0, (.slice A0_1 l0_1.length c0_1), (.slice A0_2 l0_2.length c0_2)] 35 (0, 0))) ∧ Aside0 (Below w.heap.size w w'))
 case atStart => exact ⟨(y162), (0), V2, H', ⟨Nat.le_refl _⟩, ⟨by (with_reducible repeat (first | apply Kd.R_alloc | apply Kd.R_drewN | apply Kd.R_drew)); exact Kd.R_mono HO164.out (fun _ hk => trivial)⟩, ⟨kb BK136.out⟩, ⟨V0⟩⟩
 case round =>
  clear H'
  obtain ⟨x3_1, x4_1, rfl, HA, HK1, HO_3, BK136, HB⟩ := hrel
  cases gk with
  | zero => exact absurd HA.out (by simp [cabinetryref03_header.l0])
  | succ k1 =>
   have H := HA.out
   clear HA
   simp only [cabinetryref03_header.l0] at H
   by_cases c31 : x4_1 < (l0_1.length : Int)
   rotate_left
   ·rw [if_neg c31] at H
    have c31b0 : decide (x4_1 < (l0_1.length : Int)) = false := decide_eq_false c31
    clear c31
    by_cases c57 : x3_1.length < 140737488355328
    rotate_left
    ·rw [if_neg c57] at H
     exact absurd H (by simp)
    rw [if_pos c57] at H
    have LMc57 := Z0 c57
    clear c57
    obtain ⟨y165, hy165⟩ : ∃ y_ : List Int, y_ = (x3_1 ++ [13]) := ⟨_, rfl⟩
    replace H : (some y165) = some r := by rw [hy165]; exact H
    have Ny165 := Z0 hy165
    clear hy165
    obtain rfl := Option.some.inj H
    obtain ⟨hcz58_0, hcz58_1, hcz58_2⟩ := bc3 BK136.out
    obtain ⟨hfz58_0, hfz58_1, hfz58_2⟩ := bf3 BK136.out
    go_wp2_with (first | ((with_reducible refine gate_builtin (b := .append) (xs := #[.tmp 75, .tmp 76]) rfl ?_); at_builtin; refine Kd.R_append (Kd.int .u8) (w0 := w) w.heap.size rfl (.tmp 75) (.tmp 76) 37 5 (.int .u8 0) 1 rfl Tryz.underlying37 info5 rfl (by decide) (by omega) u3 x3_1 13 [.int .u8 13] (fun _ => True) (fun _ => False) rfl rfl ?aP (fun _ hk => hk.elim) ?aF ?aO ?aB ?aS ?aL ?_; (case aP => exact rfl); (case aB => exact V0); (case aF => exact (fun _ _ => trivial)); (case aO => exact (by (with_reducible repeat (first | apply Kd.R_alloc | apply Kd.R_drewN | apply Kd.R_drew)); exact HO_3.out)); (case aS => exact (below_size V0)); (case aL => have := LMc57.out; omega); intro v166 w59 ho hb hg hat; rw [← Ny165.out] at ho; replace BK136 := Z0 (blk_grown (g := gb136) (o := .cells #[.int .i64 a0_0, .slice A0_1 l0_1.length c0_1, .slice A0_2 l0_2.length c0_2] 35 (0, 0)) (kb BK136.out) hg (Kd.R_ne HO_3.out BK136.out (by decide))); replace HB := Z0 hb; have HO167 := Z0 (ho); clear HO_3; clear ho hb hg hat))
    go_ret
    exact ⟨_, rfl, by (with_reducible repeat (first | apply Kd.R_alloc | apply Kd.R_drewN | apply Kd.R_drew)); exact HO167.out, V0⟩
   rw [if_pos c31] at H
   have c31b0 : decide (x4_1 < (l0_1.length : Int)) = true := decide_eq_true c31
   clear c31
   by_cases c32 : 0 ≤ x4_1
   rotate_left
   ·rw [if_neg c32] at H
    exact absurd H (by simp)
   rw [if_pos c32] at H
   have c32b0 : decide (0 ≤ x4_1) = true := decide_eq_true c32
   clear c32
   replace H := Option.bind_eq_some_iff.mp H
   obtain ⟨t170, A330, H⟩ := H
   replace H : (cabinetryref03_header.l1 k1 x3_1 x4_1 t170 a0_0 l0_1 l0_2 ((rd_T23 l0_1 x4_1).f0) ((rd_T23 l0_1 x4_1).f1) ((rd_T23 l0_1 x4_1).f2) ((rd_T23 l0_1 x4_1).f3)) = some r := H
   have A33 := Z0 A330
   clear A330
   have H' := Z0 H
   clear H
   obtain ⟨hcz34_0, hcz34_1, hcz34_2⟩ := bc3 BK136.out
   obtain ⟨hfz34_0, hfz34_1, hfz34_2⟩ := bf3 BK136.out
   have p168 : 0 ≤ (x4_1 : Int) := of_decide_eq_true V3
   have q168 : x4_1 < (l0_1.length : Int) := of_decide_eq_true V3
   obtain ⟨ad168, e168, hx168_0, hx168_1, hx168_2, hx168_3⟩ := at_T23 HR0_1.out x4_1 p168 q168
   cases e168
   replace hx168_0 := hz HB.out hx168_0
   replace hx168_1 := hz HB.out hx168_1
   replace hx168_2 := hz HB.out hx168_2
   replace hx168_3 := hz HB.out hx168_3
   replace p168 := eq_true p168
   replace q168 := eq_true q168
   go_wp2_with (first | ((with_reducible refine Z9 (N := 5) rfl ?_); refine bx (N := 5) (cs := #[.string (⟨#[]⟩ : ByteArray), .int .i64 0, .int .i64 0, .bool false]) (t := 23) ?_; intro gb169 hg w35 hbox hb; replace HO_3 := Z0 (Kd.R_below (by (with_reducible repeat (first | apply Kd.R_alloc | apply Kd.R_drewN | apply Kd.R_drew)); exact HO_3.out) hb); have BK169 := Z0 hbox; have GE169 := ge hg V0; replace HB := Z0 (Z1 V0 hb); obtain ⟨NB136_169, NB169_136⟩ := nb (g := gb136) (o := .cells #[.int .i64 a0_0, .slice (some ad168) l0_1.length c0_1, .slice A0_2 l0_2.length c0_2] 35 (0, 0)) hg (kb BK136.out); replace BK136 := Z0 (Z2 (g := gb136) (o := .cells #[.int .i64 a0_0, .slice (some ad168) l0_1.length c0_1, .slice A0_2 l0_2.length c0_2] 35 (0, 0)) (kb BK136.out) hb); clear hb hbox hg; have hnb36 := NB169_136.out; have hnc36 := NB136_169.out; obtain ⟨hcz37_0, hcz37_1, hcz37_2, hcz37_3⟩ := bc4 BK169.out; obtain ⟨hfz37_0, hfz37_1, hfz37_2, hfz37_3⟩ := bf4 BK169.out) | ((with_reducible refine Z9 (N := 53) rfl ?_); refine conv_ev rfl rfl ((rd_T23 l0_1 x4_1).f0) rfl Tryz.underlying9 Tryz.underlying37 Tryz.underlying5 (conv_some A33.out).1 ?_; intro v171 w38 ho0 hb; rw [(conv_some A33.out).2] at ho0; have HO172 := Z0 (Nm_lower (Nm_new' ho0 (Kd.R_lt (by (with_reducible repeat (first | apply Kd.R_alloc | apply Kd.R_drewN | apply Kd.R_drew)); exact (Kd.R_mono (Kd.R_far (p := ⟨gb169, 3, none⟩) (Kd.R_far (p := ⟨gb169, 2, none⟩) (Kd.R_far (p := ⟨gb169, 1, none⟩) (Kd.R_far (p := ⟨gb169, 0, none⟩) (Kd.R_types HO_3.out BK169.out (by decide)) (fun _ hk => hk.2) (.string ((rd_T23 l0_1 x4_1).f0))) (fun _ hk => hk.2) (.int .i64 ((rd_T23 l0_1 x4_1).f1))) (fun _ hk => hk.2) (.int .i64 ((rd_T23 l0_1 x4_1).f2))) (fun _ hk => hk.2) (.bool ((rd_T23 l0_1 x4_1).f3))) (fun _ h_ => h_.1))))) (below_size V0)); replace HO_3 := Z0 (Kd.R_elder' (by (with_reducible repeat (first | apply Kd.R_alloc | apply Kd.R_drewN | apply Kd.R_drew)); exact (Kd.R_mono (Kd.R_far (p := ⟨gb169, 3, none⟩) (Kd.R_far (p := ⟨gb169, 2, none⟩) (Kd.R_far (p := ⟨gb169, 1, none⟩) (Kd.R_far (p := ⟨gb169, 0, none⟩) (Kd.R_types HO_3.out BK169.out (by decide)) (fun _ hk => hk.2) (.string ((rd_T23 l0_1 x4_1).f0))) (fun _ hk => hk.2) (.int .i64 ((rd_T23 l0_1 x4_1).f1))) (fun _ hk => hk.2) (.int .i64 ((rd_T23 l0_1 x4_1).f2))) (fun _ hk => hk.2) (.bool ((rd_T23 l0_1 x4_1).f3))) (fun _ h_ => h_.1))) (Nm_base ho0) hb); replace BK136 := Z0 (Z2 (g := gb136) (o := .cells #[.int .i64 a0_0, .slice (some ad168) l0_1.length c0_1, .slice A0_2 l0_2.length c0_2] 35 (0, 0)) (by (with_reducible repeat (first | refine Y6 ?_ _ | refine Y5 ?_ | refine Y7 ?_ _)); refine blk_far ?_ NB136_169.out _; (with_reducible repeat (first | refine Y6 ?_ _ | refine Y5 ?_ | refine Y7 ?_ _)); refine blk_far ?_ NB136_169.out _; (with_reducible repeat (first | refine Y6 ?_ _ | refine Y5 ?_ | refine Y7 ?_ _)); refine blk_far ?_ NB136_169.out _; (with_reducible repeat (first | refine Y6 ?_ _ | refine Y5 ?_ | refine Y7 ?_ _)); refine blk_far ?_ NB136_169.out _; (with_reducible repeat (first | refine Y6 ?_ _ | refine Y5 ?_ | refine Y7 ?_ _)); exact BK136.out) hb); replace BK169 := Z0 (Z2 (g := gb169) (o := .cells #[.string ((rd_T23 l0_1 x4_1).f0), .int .i64 ((rd_T23 l0_1 x4_1).f1), .int .i64 ((rd_T23 l0_1 x4_1).f2), .bool ((rd_T23 l0_1 x4_1).f3)] 23 (0, 0)) (by (with_reducible repeat (first | refine Y6 ?_ _ | refine Y5 ?_ | refine Y7 ?_ _)); refine blk_put (cs := #[.string ((rd_T23 l0_1 x4_1).f0), .int .i64 ((rd_T23 l0_1 x4_1).f1), .int .i64 ((rd_T23 l0_1 x4_1).f2), .bool false]) ?_ 3 _ rfl; (with_reducible repeat (first | refine Y6 ?_ _ | refine Y5 ?_ | refine Y7 ?_ _)); refine blk_put (cs := #[.string ((rd_T23 l0_1 x4_1).f0), .int .i64 ((rd_T23 l0_1 x4_1).f1), .int .i64 0, .bool false]) ?_ 2 _ rfl; (with_reducible repeat (first | refine Y6 ?_ _ | refine Y5 ?_ | refine Y7 ?_ _)); refine blk_put (cs := #[.string ((rd_T23 l0_1 x4_1).f0), .int .i64 0, .int .i64 0, .bool false]) ?_ 1 _ rfl; (with_reducible repeat (first | refine Y6 ?_ _ | refine Y5 ?_ | refine Y7 ?_ _)); refine blk_put (cs := #[.string (⟨#[]⟩ : ByteArray), .int .i64 0, .int .i64 0, .bool false]) ?_ 0 _ rfl; (with_reducible repeat (first | refine Y6 ?_ _ | refine Y5 ?_ | refine Y7 ?_ _)); exact BK169.out) hb); replace HB := Z0 (Z1 V0 hb)))
   go_loopg [6] k1 (fun kq v6 w' => ∃ (x6_2 : List Int), Aside0 (cabinetryref03_header.l1 kq x3_1 x4_1 x6_2 a0_0 l0_1 l0_2 ((rd_T23 l0_1 x4_1).f0) ((rd_T23 l0_1 x4_1).f1) ((rd_T23 l0_1 x4_1).f2) ((rd_T23 l0_1 x4_1).f3) = some r) ∧ Aside0 (kq ≤ k1) ∧ Aside0 (Kd.R (Kd.int .u8) 5 w' w.heap.size (fun k_ => some k_ ≠ (v6 : Value).ownBlock) u3 x3_1) ∧ Aside0 (Nm w' w.heap.size (fun k_ => some k_ ≠ (u3 : Value).ownBlock) v6 x6_2) ∧ Aside0 (w'.heap[gb136]? = some (.cells #[.int .i64 a0_0, (.slice (some ad168) l0_1.length c0_1), (.slice A0_2 l0_2.length c0_2)] 35 (0, 0))) ∧ Aside0 (w'.heap[gb169]? = some (.cells #[.string ((rd_T23 l0_1 x4_1).f0), .int .i64 ((rd_T23 l0_1 x4_1).f1), .int .i64 ((rd_T23 l0_1 x4_1).f2), .bool ((rd_T23 l0_1 x4_1).f3)] 23 (0, 0))) ∧ Aside0 (Below w.heap.size w w'))
   case atStart => exact ⟨(t170), H', ⟨Nat.le_refl _⟩, ⟨by (with_reducible repeat (first | apply Kd.R_alloc | apply Kd.R_drewN | apply Kd.R_drew)); exact Kd.R_mono HO_3.out (fun _ hk => hk.2)⟩, ⟨by (with_reducible repeat (first | apply Kd.R_alloc | apply Kd.R_drewN | apply Kd.R_drew)); exact Nm_mono HO172.out (fun _ hk => hk.2)⟩, ⟨kb BK136.out⟩, ⟨kb BK169.out⟩, ⟨V0⟩⟩
   case round =>
    clear H'
    obtain ⟨x6_2, HA, HK2, HO_3, HO_6, BK136, BK169, HB⟩ := hrel
    cases gk with
    | zero => exact absurd HA.out (by simp [cabinetryref03_header.l1])
    | succ k2 =>
     have H := HA.out
     clear HA
     simp only [cabinetryref03_header.l1] at H
     by_cases c39 : (x6_2.length : Int) < 10
     ·rw [if_pos c39] at H
      have c39b0 : decide ((x6_2.length : Int) < 10) = true := decide_eq_true c39
      have c39b1 : decide (x6_2.length < 10) = true := decide_eq_true (by omega)
      clear c39
      by_cases c40 : x6_2.length < 140737488355328
      rotate_left
      ·rw [if_neg c40] at H
       exact absurd H (by simp)
      rw [if_pos c40] at H
      have LMc40 := Z0 c40
      clear c40
      obtain ⟨y173, hy173⟩ : ∃ y_ : List Int, y_ = (x6_2 ++ [0]) := ⟨_, rfl⟩
      replace H : (cabinetryref03_header.l1 k2 x3_1 x4_1 y173 a0_0 l0_1 l0_2 ((rd_T23 l0_1 x4_1).f0) ((rd_T23 l0_1 x4_1).f1) ((rd_T23 l0_1 x4_1).f2) ((rd_T23 l0_1 x4_1).f3)) = some r := by rw [hy173]; exact H
      have Ny173 := Z0 hy173
      clear hy173
      have H' := Z0 H
      clear H
      obtain ⟨Ao41, co41, eo41⟩ := Nm_slice HO_6.out
      subst eo41
      go_wp2_with (first | ((with_reducible refine gate_builtin (b := .append) (xs := #[.tmp 57, .tmp 58]) rfl ?_); at_builtin; refine Nm_append_ev (w0 := w) w.heap.size rfl (.tmp 57) (.tmp 58) rfl Tryz.underlying37 info5 (.slice Ao41 x6_2.length co41) x6_2 0 (fun k_ => some k_ ≠ (u3 : Value).ownBlock) rfl rfl ?aF ?aO ?aB ?aS ?aL ?_; (case aB => exact V0); (case aF => exact (fun k_ hk => Kd.fresh' (Kd.R_lt (by (with_reducible repeat (first | apply Kd.R_alloc | apply Kd.R_drewN | apply Kd.R_drew)); exact HO_3.out)) k_ hk)); (case aO => exact (by (with_reducible repeat (first | apply Kd.R_alloc | apply Kd.R_drewN | apply Kd.R_drew)); exact HO_6.out)); (case aS => exact (below_size V0)); (case aL => have := LMc40.out; omega); intro v174 w42 ho hb hg hat; rw [← Ny173.out] at ho; replace HO_3 := Z0 (Kd.R_after (ok := (fun _ => True)) (by (with_reducible repeat (first | apply Kd.R_alloc | apply Kd.R_drewN | apply Kd.R_drew)); exact Kd.R_mono HO_3.out (fun _ hk => ⟨trivial, hk⟩)) hg hat); replace BK136 := Z0 (blk_grown (g := gb136) (o := .cells #[.int .i64 a0_0, .slice (some ad168) l0_1.length c0_1, .slice A0_2 l0_2.length c0_2] 35 (0, 0)) (kb BK136.out) hg (Nm_ne HO_6.out BK136.out (by decide))); replace BK169 := Z0 (blk_grown (g := gb169) (o := .cells #[.string ((rd_T23 l0_1 x4_1).f0), .int .i64 ((rd_T23 l0_1 x4_1).f1), .int .i64 ((rd_T23 l0_1 x4_1).f2), .bool ((rd_T23 l0_1 x4_1).f3)] 23 (0, 0)) (kb BK169.out) hg (Nm_ne HO_6.out BK169.out (by decide))); replace HB := Z0 hb; have HO175 := Z0 (ho); clear HO_6; clear ho hb hg hat))
      go_roundg k2
      case measure => have := HK1.out; have := HK2.out; omega
      case rel => exact ⟨(y173), H', ⟨by have := HK1.out; have := HK2.out; omega⟩, ⟨by (with_reducible repeat (first | apply Kd.R_alloc | apply Kd.R_drewN | apply Kd.R_drew)); exact Kd.R_mono HO_3.out (fun _ hk => hk.2)⟩, ⟨by (with_reducible repeat (first | apply Kd.R_alloc | apply Kd.R_drewN | apply Kd.R_drew)); exact HO175.out⟩, ⟨kb BK136.out⟩, ⟨kb BK169.out⟩, ⟨V0⟩⟩
     rw [if_neg c39] at H
     have c39b0 : decide ((x6_2.length : Int) < 10) = false := decide_eq_false c39
     have c39b1 : decide (x6_2.length < 10) = false := decide_eq_false (by omega)
     clear c39
     have HC43 := Z0 H
     clear H
     obtain ⟨Ao44, co44, eo44⟩ := Nm_slice HO_6.out
     subst eo44
     have hnb45 := NB169_136.out
     have hnc45 := NB136_169.out
     obtain ⟨hcz46_0, hcz46_1, hcz46_2, hcz46_3⟩ := bc4 BK169.out
     obtain ⟨hfz46_0, hfz46_1, hfz46_2, hfz46_3⟩ := bf4 BK169.out
     go_upto_if 61 with (fail)
     go_cut [7] (fun v7 wc => ∃ (kq : Nat) (x7_42 : Int), v7 = .int .u8 x7_42 ∧ Aside0 (cabinetryref03_header.j2 kq x3_1 x4_1 x6_2 x7_42 a0_0 l0_1 l0_2 ((rd_T23 l0_1 x4_1).f0) ((rd_T23 l0_1 x4_1).f1) ((rd_T23 l0_1 x4_1).f2) ((rd_T23 l0_1 x4_1).f3) = some r) ∧ Aside0 (kq ≤ k2) ∧ Aside0 (Kd.R (Kd.int .u8) 5 wc w.heap.size (fun k_ => some k_ ≠ ((.slice Ao44 x6_2.length co44) : Value).ownBlock) u3 x3_1) ∧ Aside0 (Nm wc w.heap.size (fun k_ => some k_ ≠ (u3 : Value).ownBlock) (.slice Ao44 x6_2.length co44) x6_2) ∧ Aside0 (wc.heap[gb136]? = some (.cells #[.int .i64 a0_0, (.slice (some ad168) l0_1.length c0_1), (.slice A0_2 l0_2.length c0_2)] 35 (0, 0))) ∧ Aside0 (wc.heap[gb169]? = some (.cells #[.string ((rd_T23 l0_1 x4_1).f0), .int .i64 ((rd_T23 l0_1 x4_1).f1), .int .i64 ((rd_T23 l0_1 x4_1).f2), .bool ((rd_T23 l0_1 x4_1).f3)] 23 (0, 0))) ∧ Aside0 (Below w.heap.size w wc))
     case first =>
      have H := HC43.out
      clear HC43
      by_cases c47 : ((rd_T23 l0_1 x4_1).f3) = true
      ·rw [if_pos c47] at H
       have c47b0 : ((rd_T23 l0_1 x4_1).f3) = true := c47
       clear c47
       (first | rw [c47b0] | (simp only [i64_w, i32_w]; rw [c47b0]) | skip)
       have H' := Z0 H
       clear H
       go_wp2
       go_meet
       case rel => exact ⟨_, (1), V2, H', ⟨by have := HK1.out; have := HK2.out; first | omega | exact Nat.le_refl _⟩, ⟨by (with_reducible repeat (first | apply Kd.R_alloc | apply Kd.R_drewN | apply Kd.R_drew)); exact HO_3.out⟩, ⟨by (with_reducible repeat (first | apply Kd.R_alloc | apply Kd.R_drewN | apply Kd.R_drew)); exact HO_6.out⟩, ⟨kb BK136.out⟩, ⟨kb BK169.out⟩, ⟨V0⟩⟩
      rw [if_neg c47] at H
      have c47b0 : ((rd_T23 l0_1 x4_1).f3) = false := by simpa using c47
      clear c47
      (first | rw [c47b0] | (simp only [i64_w, i32_w]; rw [c47b0]) | skip)
      have H' := Z0 H
      clear H
      go_wp2
      go_meet
      case rel => exact ⟨_, (0), V2, H', ⟨by have := HK1.out; have := HK2.out; first | omega | exact Nat.le_refl _⟩, ⟨by (with_reducible repeat (first | apply Kd.R_alloc | apply Kd.R_drewN | apply Kd.R_drew)); exact HO_3.out⟩, ⟨by (with_reducible repeat (first | apply Kd.R_alloc | apply Kd.R_drewN | apply Kd.R_drew)); exact HO_6.out⟩, ⟨kb BK136.out⟩, ⟨kb BK169.out⟩, ⟨V0⟩⟩
     case rest =>
      clear HC43
      obtain ⟨kq, x7_42, rfl, HA, HJ42, HO_3, HO_6, BK136, BK169, HB⟩ := hcut
      cases kq with
      | zero => exact absurd HA.out (by simp [cabinetryref03_header.j2])
      | succ kj42 =>
       have H := HA.out
       clear HA
       simp only [cabinetryref03_header.j2] at H
       by_cases c48 : x3_1.length + x6_2.length < 140737488355328
       rotate_left
       ·rw [if_neg c48] at H
        exact absurd H (by simp)
       rw [if_pos c48] at H
       have LMc48 := Z0 c48
       clear c48
       obtain ⟨y176, hy176⟩ : ∃ y_ : List Int, y_ = (x3_1 ++ x6_2) := ⟨_, rfl⟩
       replace H : ((cabinetryref03_letter.f ((rd_T23 l0_1 x4_1).f1)).bind fun t179 => ((some (([t179, (((rd_T23 l0_1 x4_1).f2)) % 256, x7_42, 0, 0, 0] : List Int) : List Int)).bind fun y180 => (if y176.length + y180.length < 140737488355328 then (cabinetryref03_header.l0 kj42 (y176 ++ y180) (wrap64 (x4_1 + 1)) a0_0 l0_1 l0_2) else (none)))) = some r := by rw [hy176]; exact H
       have Ny176 := Z0 hy176
       clear hy176
       replace H := Option.bind_eq_some_iff.mp H
       obtain ⟨t179, A490, H⟩ := H
       replace H : ((some (([t179, (((rd_T23 l0_1 x4_1).f2)) % 256, x7_42, 0, 0, 0] : List Int) : List Int)).bind fun y180 => (if y176.length + y180.length < 140737488355328 then (cabinetryref03_header.l0 kj42 (y176 ++ y180) (wrap64 (x4_1 + 1)) a0_0 l0_1 l0_2) else (none))) = some r := H
       have A49 := Z0 A490
       clear A490
       obtain ⟨y180, hy180⟩ : ∃ y_ : List Int, y_ = (([t179, (((rd_T23 l0_1 x4_1).f2)) % 256, x7_42, 0, 0, 0] : List Int)) := ⟨_, rfl⟩
       replace H : (if y176.length + y180.length < 140737488355328 then (cabinetryref03_header.l0 kj42 (y176 ++ y180) (wrap64 (x4_1 + 1)) a0_0 l0_1 l0_2) else (none)) = some r := by rw [hy180]; exact H
       have Ny180 := Z0 hy180
       clear hy180
       by_cases c50 : y176.length + y180.length < 140737488355328
       rotate_left
       ·rw [if_neg c50] at H
        exact absurd H (by simp)
       rw [if_pos c50] at H
       have LMc50 := Z0 c50
       clear c50
       obtain ⟨y183, hy183⟩ : ∃ y_ : List Int, y_ = (y176 ++ y180) := ⟨_, rfl⟩
       replace H : (cabinetryref03_header.l0 kj42 y183 (wrap64 (x4_1 + 1)) a0_0 l0_1 l0_2) = some r := by rw [hy183]; exact H
       have Ny183 := Z0 hy183
       clear hy183
       have H' := Z0 H
       clear H
       try go_wp2_with (first | ((with_reducible refine gate_builtin (b := .append) (xs := #[.tmp 62, .tmp 63]) rfl ?_); at_builtin; refine Kd.R_append_rows (Kd.int .u8) (w0 := w) w.heap.size rfl (.tmp 62) (.tmp 63) 37 5 (.int .u8 0) 1 rfl Tryz.underlying37 info5 rfl (by decide) (by omega) u3 x3_1 x6_2 _ _ _ (fun k_ => some k_ ≠ (.slice Ao44 x6_2.length co44 : Value).ownBlock) (fun _ => False) rfl rfl ?aO ?aR (fun _ _ h => h) (fun _ h => h.elim) ?aF ?aB ?aS ?aL ?_; (case aR => repeat (first | exact (Nm_reads HO_6.out) | (with_reducible refine Kd.C_alloc ?_ _) | (with_reducible refine Kd.C_drewN ?_ _) | (with_reducible refine Kd.C_drew ?_))); (case aB => exact V0); (case aF => exact (fun k_ hk => Kd.fresh' (Nm_ltB (by (with_reducible repeat (first | apply Nm_alloc | apply Nm_drewN | apply Nm_drew)); exact HO_6.out)) k_ hk)); (case aO => exact (by (with_reducible repeat (first | apply Kd.R_alloc | apply Kd.R_drewN | apply Kd.R_drew)); exact HO_3.out)); (case aS => exact (below_size V0)); (case aL => have := LMc48.out; omega); intro v177 w51 ho hb hg hat; rw [← Ny176.out] at ho; replace HO_6 := Z0 (Nm_after (ok := (fun _ => True)) (by (with_reducible repeat (first | apply Nm_alloc | apply Nm_drewN | apply Nm_drew)); exact Nm_mono HO_6.out (fun _ hk => ⟨trivial, hk⟩)) hg hat); replace BK136 := Z0 (blk_grown (g := gb136) (o := .cells #[.int .i64 a0_0, .slice (some ad168) l0_1.length c0_1, .slice A0_2 l0_2.length c0_2] 35 (0, 0)) (kb BK136.out) hg (Kd.R_ne HO_3.out BK136.out (by decide))); replace BK169 := Z0 (blk_grown (g := gb169) (o := .cells #[.string ((rd_T23 l0_1 x4_1).f0), .int .i64 ((rd_T23 l0_1 x4_1).f1), .int .i64 ((rd_T23 l0_1 x4_1).f2), .bool ((rd_T23 l0_1 x4_1).f3)] 23 (0, 0)) (kb BK169.out) hg (Kd.R_ne HO_3.out BK169.out (by decide))); replace HB := Z0 hb; have HO178 := Z0 (ho); clear HO_3; clear ho hb hg hat))
       have n0_ := Z0 (Nm_drew HO_6.out)
       have n1_ := Z0 (Kd.R_drew HO178.out)
       have n2_ := Z0 (Y5 BK136.out)
       have n3_ := Z0 (Y5 BK169.out)
       have n4_ := Z0 (below_drew1 HB.out)
       clear HO_6
       clear HO178
       clear BK136
       clear BK169
       clear HB
       have HO_6 := n0_
       have HO178 := n1_
       have BK136 := n2_
       have BK169 := n3_
       have HB := n4_
       clear n0_ n1_ n2_ n3_ n4_
       refine start_ (n := 11) (S := fun w' => w'.cell? ⟨gb169, 0, none⟩ = some (.string ((rd_T23 l0_1 x4_1).f0)) ∧ w'.cell? ⟨gb169, 1, none⟩ = some (.int .i64 ((rd_T23 l0_1 x4_1).f1)) ∧ w'.cell? ⟨gb169, 2, none⟩ = some (.int .i64 ((rd_T23 l0_1 x4_1).f2)) ∧ w'.cell? ⟨gb169, 3, none⟩ = some (.bool ((rd_T23 l0_1 x4_1).f3))) (ds := []) (bs 11 0) (by kernel_rfl) rfl rfl ⟨(Z4 BK169.out 0).trans rfl, (Z4 BK169.out 1).trans rfl, (Z4 BK169.out 2).trans rfl, (Z4 BK169.out 3).trans rfl⟩ (fun hHeld => ?_); refine with_tabW cabinetryref03_header.tab17 cabinetryref03_header.bits17 (fun HT_ HW_ => ?_)
       generalize w51.drew = w52 at HO_6 HO178 BK136 BK169 HB hHeld ⊢
       refine pz 0 65 (bs 11 1) HT_ ?_
       refine pz 1 66 (bs 11 3) HT_ ?_
       refine pz 4 69 (bs 11 19) HT_ ?_
       refine pz 7 72 (bs 11 147) HT_ ?_
       refine tz 2 67 (bs 11 151) HT_ HW_ hHeld ?_
       refine tz 5 70 (bs 11 183) HT_ HW_ hHeld ?_
       refine pz 6 71 (bs 11 247) HT_ ?_
       refine one_ (i := 3) (N := some 68) (bs 11 255) rfl rfl (one_of HT_.out (by kernel_rfl)) (by decide) (fun K hK => ?_)
       refine goes_ Tryz.func107 (by kernel_rfl) rfl #[.int .i64 ((rd_T23 l0_1 x4_1).f1)] (by rfl) rfl rfl V1 ?_
       with_reducible refine (cabinetryref03_letter.calls ((rd_T23 l0_1 x4_1).f1) t179 _ A49.out).mono ?_
       rintro e w' ⟨rfl, ⟨nd, rfl⟩⟩
       refine ⟨_, rfl, ?_⟩
       refine hK.out _ _ ⟨(Z4 BK169.out 0).trans rfl, (Z4 BK169.out 1).trans rfl, (Z4 BK169.out 2).trans rfl, (Z4 BK169.out 3).trans rfl⟩ (fun hHeld => ?_)
       clear hK K
       refine norm_ (a' := ?_) ?_ ?_
       rotate_left
       ·show Act.put _ (some 68) _ = _
        simp only [Act.put, Z3, Z6, Z7, i64_w, i32_w]
        rfl
       refine one_ (i := 8) (N := some 73) (bs 11 511) rfl rfl (one_of HT_.out (by kernel_rfl)) (by decide) (fun K hK => ?_)
       refine Kd.R_lit_step (Kd.int .u8) _ 5 ?hg (N := 73) ?hd (xs := ([t179, (((rd_T23 l0_1 x4_1).f2)) % 256, x7_42, 0, 0, 0] : List Int)) (inner := [.int .u8 t179, .int .u8 ((((rd_T23 l0_1 x4_1).f2)) % 256), .int .u8 x7_42, .int .u8 0, .int .u8 0, .int .u8 0]) (ok := fun _ => True) (okp := fun _ => True) ?hr ?hp (fun _ hk => hk) trivial (Below.refl _ _) (Nat.le_refl _) (by simp) ?_; (case hd => rfl); (case hg => rfl); (case hr => go_simp; try rfl); (case hp => exact (Reps.one (show Kd.M (Kd.int .u8) _ _ _ t179 [.int .u8 t179] from rfl) (Reps.one (show Kd.M (Kd.int .u8) _ _ _ ((((rd_T23 l0_1 x4_1).f2)) % 256) [.int .u8 ((((rd_T23 l0_1 x4_1).f2)) % 256)] from rfl) (Reps.one (show Kd.M (Kd.int .u8) _ _ _ x7_42 [.int .u8 x7_42] from rfl) (Reps.one (show Kd.M (Kd.int .u8) _ _ _ 0 [.int .u8 0] from rfl) (Reps.one (show Kd.M (Kd.int .u8) _ _ _ 0 [.int .u8 0] from rfl) (Reps.one (show Kd.M (Kd.int .u8) _ _ _ 0 [.int .u8 0] from rfl) (Reps.none _ _))))))))
       intro v181 w53 ho54 hb hg_ hnew_
       clear hg_ hnew_
       (first | rw [← Ny180.out] at ho54 | (simp only [Int.reduceToNat] at ho54; rw [← Ny180.out] at ho54))
       have n0_ := Z0 (Nm_elder' (by (with_reducible repeat (first | apply Nm_alloc | apply Nm_drewN | apply Nm_drew)); exact HO_6.out) (Kd.R_base ho54) hb)
       have n1_ := Z0 (Kd.R_elder' (by (with_reducible repeat (first | apply Kd.R_alloc | apply Kd.R_drewN | apply Kd.R_drew)); exact HO178.out) (Kd.R_base ho54) hb)
       have n2_ := Z0 (Kd.R_lower (Kd.R_new' (Kd.R_new' ho54 (Nm_ltB (by (with_reducible repeat (first | apply Nm_alloc | apply Nm_drewN | apply Nm_drew)); exact HO_6.out))) (Kd.R_lt (by (with_reducible repeat (first | apply Kd.R_alloc | apply Kd.R_drewN | apply Kd.R_drew)); exact HO178.out))) (below_size V0))
       have n3_ := Z0 (Z2 (g := gb136) (o := .cells #[.int .i64 a0_0, .slice (some ad168) l0_1.length c0_1, .slice A0_2 l0_2.length c0_2] 35 (0, 0)) (kb BK136.out) hb)
       have n4_ := Z0 (Z2 (g := gb169) (o := .cells #[.string ((rd_T23 l0_1 x4_1).f0), .int .i64 ((rd_T23 l0_1 x4_1).f1), .int .i64 ((rd_T23 l0_1 x4_1).f2), .bool ((rd_T23 l0_1 x4_1).f3)] 23 (0, 0)) (kb BK169.out) hb)
       have n5_ := Z0 (Z1 V0 hb)
       clear HO_6
       clear HO178
       clear BK136
       clear BK169
       clear HB
       have HO_6 := n0_
       have HO178 := n1_
       have HO182 := n2_
       have BK136 := n3_
       have BK169 := n4_
       have HB := n5_
       clear n0_ n1_ n2_ n3_ n4_ n5_
       clear hb ho54
       obtain ⟨Ao56, co56, eo56⟩ := Kd.R_slice HO182.out
       (first | subst eo56 | (injection eo56 with f1_ f2_ f3_; have f4_ := f1_.symm; have f5_ := f3_.symm; clear f1_ f2_ f3_; subst f4_; subst f5_))
       refine hK.out _ _ ⟨(Z4 BK169.out 0).trans rfl, (Z4 BK169.out 1).trans rfl, (Z4 BK169.out 2).trans rfl, (Z4 BK169.out 3).trans rfl⟩ (fun hHeld => ?_)
       clear hK K
       refine norm_ (a' := ?_) ?_ ?_
       rotate_left
       ·show Act.put _ (some 73) _ = _
        simp only [Act.put, Z3, Z6, Z7, i64_w, i32_w]
        rfl
       refine one_ (i := 9) (N := some 74) (bs 11 1023) rfl rfl (one_of HT_.out (by kernel_rfl)) (by decide) (fun K hK => ?_)
       refine Kd.R_append_rows_step (Kd.int .u8) (w0 := w) w.heap.size (by rfl) (.tmp 65) (.tmp 73) 37 5 (.int .u8 0) 1 rfl Tryz.underlying37 info5 rfl (by decide) (by omega) v177 y176 y180 _ _ _ (fun k_ => some k_ ≠ (.slice Ao44 x6_2.length co44 : Value).ownBlock ∧ some k_ ≠ (.slice Ao56 y180.length co56 : Value).ownBlock) (fun _ => False) rfl rfl ?aO ?aR (fun _ _ h => h) (fun _ h => h.elim) ?aF ?aB ?aS ?aL ?_
       (case aR => repeat (first | exact (Kd.R_reads' HO182.out).2.2 | (with_reducible refine Kd.C_alloc ?_ _) | (with_reducible refine Kd.C_drewN ?_ _) | (with_reducible refine Kd.C_drew ?_)))
       (case aB => exact V0)
       (case aF => exact (fun k_ hk => ⟨Kd.fresh' (Nm_ltB (by (with_reducible repeat (first | apply Nm_alloc | apply Nm_drewN | apply Nm_drew)); exact HO_6.out)) k_ hk, Kd.fresh' (Kd.R_lt (by (with_reducible repeat (first | apply Kd.R_alloc | apply Kd.R_drewN | apply Kd.R_drew)); exact HO182.out)) k_ hk⟩))
       (case aO => exact (by (with_reducible repeat (first | apply Kd.R_alloc | apply Kd.R_drewN | apply Kd.R_drew)); exact HO178.out))
       (case aS => exact (below_size V0))
       (case aL => have := LMc50.out; omega)
       intro v184 w55 ho hb hg hat
       rw [← Ny183.out] at ho
       have n0_ := Z0 (Nm_after (ok := (fun k_ => some k_ ≠ (.slice Ao56 y180.length co56 : Value).ownBlock)) (by (with_reducible repeat (first | apply Nm_alloc | apply Nm_drewN | apply Nm_drew)); exact Nm_mono HO_6.out (fun _ hk => ⟨hk.2, hk.1.2⟩)) hg hat)
       have n1_ := Z0 (blk_grown (g := gb136) (o := .cells #[.int .i64 a0_0, .slice (some ad168) l0_1.length c0_1, .slice A0_2 l0_2.length c0_2] 35 (0, 0)) (kb BK136.out) hg (Kd.R_ne HO178.out BK136.out (by decide)))
       have n2_ := Z0 (blk_grown (g := gb169) (o := .cells #[.string ((rd_T23 l0_1 x4_1).f0), .int .i64 ((rd_T23 l0_1 x4_1).f1), .int .i64 ((rd_T23 l0_1 x4_1).f2), .bool ((rd_T23 l0_1 x4_1).f3)] 23 (0, 0)) (kb BK169.out) hg (Kd.R_ne HO178.out BK169.out (by decide)))
       have n3_ := Z0 (Kd.R_after (ok := (fun k_ => some k_ ≠ (.slice Ao44 x6_2.length co44 : Value).ownBlock)) (by (with_reducible repeat (first | apply Kd.R_alloc | apply Kd.R_drewN | apply Kd.R_drew)); exact Kd.R_mono HO182.out (fun _ hk => ⟨hk.1.2, hk.2⟩)) hg hat)
       have n4_ := Z0 hb
       have n5_ := Z0 (ho)
       clear HO_6
       clear BK136
       clear BK169
       clear HO182
       clear HB
       clear HO178
       have HO_6 := n0_
       have BK136 := n1_
       have BK169 := n2_
       have HO182 := n3_
       have HB := n4_
       have HO185 := n5_
       clear n0_ n1_ n2_ n3_ n4_ n5_
       clear ho hb hg hat
       refine hK.out _ _ ⟨(Z4 BK169.out 0).trans rfl, (Z4 BK169.out 1).trans rfl, (Z4 BK169.out 2).trans rfl, (Z4 BK169.out 3).trans rfl⟩ (fun hHeld => ?_)
       clear hK K
       refine norm_ (a' := ?_) ?_ ?_
       rotate_left
       ·show Act.put _ (some 74) _ = _
        simp only [Act.put, Z3, Z6, Z7, i64_w, i32_w]
        rfl
       refine pz 10 3 (bs 11 2047) HT_ ?_
       refine done_ (done_of HT_.out (by kernel_rfl)) ?_
       try go_wp2
       go_roundg kj42
       case measure => have := HK1.out; have := HK2.out; have := HJ42.out; omega
       case rel => exact ⟨(y183), (wrap64 (x4_1 + 1)), V2, H', ⟨by have := HK1.out; have := HK2.out; have := HJ42.out; omega⟩, ⟨by (with_reducible repeat (first | apply Kd.R_alloc | apply Kd.R_drewN | apply Kd.R_drew)); exact Kd.R_mono HO185.out (fun _ hk => trivial)⟩, ⟨kb BK136.out⟩, ⟨V0⟩⟩
def table_low.l0 : Nat → Int → List Int → Int → Int → Option (List Int)
 | 0, _, _, _, _ => none
 | k + 1, x0, x5, x6, x7 => if x7 < x6 then (if x5.length < 140737488355328 then (table_low.l0 k (x0 / 256) (x5 ++ [(x0) % 256]) x6 (wrap64 (x7 + 1))) else (none)) else (some x5)
def table_low.f (k : Nat) (a0 : Int) (a1 : Int) : Option (List Int) := table_low.l0 k a0 ([] : List Int) a1 0
theorem table_low.mono_l : ∀ k, (∀ y0 y1 y2 y3, LeO (table_low.l0 k y0 y1 y2 y3) (table_low.l0 (k + 1) y0 y1 y2 y3))
 | 0 => fun _ _ _ _ r h => by simp [table_low.l0] at h
 | k + 1 => by
  have ih0 := table_low.mono_l k
  ·intro y0 y1 y2 y3
   unfold table_low.l0
   repeat' first
   | (with_reducible exact ih0 _ _ _ _)
   | (with_reducible exact LeO.refl _)
   | (with_reducible exact LeO.none _)
   | (with_reducible refine LeO.ite ?_ ?_)
   | (with_reducible refine LeO.bind ?_ (fun _ => ?_))
theorem table_low.mono : ∀ a0 a1 k, LeO (table_low.f k a0 a1) (table_low.f (k + 1) a0 a1) := by
 intro a0 a1 k
 have ih0 := table_low.mono_l k
 unfold table_low.f
 repeat' first
   | (with_reducible exact ih0 _ _ _ _)
   | (with_reducible exact LeO.refl _)
   | (with_reducible exact LeO.none _)
   | (with_reducible refine LeO.ite ?_ ?_)
   | (with_reducible refine LeO.bind ?_ (fun _ => ?_))
theorem table_low.calls (k : Nat) (a0 : Int) (a1 : Int) (r : List Int) (w : World) (h : table_low.f k a0 a1 = some r) :
  Calls Tryz.prog 109 #[.int .i64 a0, .int .i64 a1] w fun e w' => ∃ v0_ : Value, e = .returned (v0_) ∧ Kd.R (Kd.int .u8) 5 w' w.heap.size (fun _ => True) v0_ r ∧ Below w.heap.size w w' := by
 have HB := Z0 (Below.refl w.heap.size w)
 unfold table_low.f at h
 have H := h
 clear h
 have H' := Z0 H
 clear H
 go_enter Tryz.func109, Tryz.ntmps109
 go_wp2
 go_loopg [0, 5, 7] k (fun kq v0 v5 v7 w' => ∃ (x0_1 : Int) (x5_1 : List Int) (x7_1 : Int), v0 = .int .i64 x0_1 ∧ v7 = .int .i64 x7_1 ∧ Aside0 (table_low.l0 kq x0_1 x5_1 a1 x7_1 = some r) ∧ Aside0 (kq ≤ k) ∧ Aside0 (Kd.R (Kd.int .u8) 5 w' w.heap.size (fun _ => True) v5 x5_1) ∧ Aside0 (Below w.heap.size w w'))
 case atStart => exact ⟨(a0), (([] : List Int)), (0), V2, V2, H', ⟨Nat.le_refl _⟩, ⟨by first | exact Kd.R_nil _ _ _ _ _ | exact Kd.N_nil _ _ _ _ _ | exact Kd.V_nil _ _ _ _ _ | exact Kd.Q_nil _ _ _ _ _ | exact Kd.S_nil _ _ _ _ _⟩, ⟨V0⟩⟩
 case round =>
  clear H'
  obtain ⟨x0_1, x5_1, x7_1, rfl, rfl, HA, HK1, HO_5, HB⟩ := hrel
  cases gk with
  | zero => exact absurd HA.out (by simp [table_low.l0])
  | succ k1 =>
   have H := HA.out
   clear HA
   simp only [table_low.l0] at H
   by_cases c3 : x7_1 < a1
   rotate_left
   ·rw [if_neg c3] at H
    have c3b0 : decide (x7_1 < a1) = false := decide_eq_false c3
    clear c3
    obtain rfl := Option.some.inj H
    go_wp2
    go_ret
    exact ⟨_, rfl, by (with_reducible repeat (first | apply Kd.R_alloc | apply Kd.R_drewN | apply Kd.R_drew)); exact HO_5.out, V0⟩
   rw [if_pos c3] at H
   have c3b0 : decide (x7_1 < a1) = true := decide_eq_true c3
   clear c3
   by_cases c4 : x5_1.length < 140737488355328
   rotate_left
   ·rw [if_neg c4] at H
    exact absurd H (by simp)
   rw [if_pos c4] at H
   have LMc4 := Z0 c4
   clear c4
   obtain ⟨y549, hy549⟩ : ∃ y_ : List Int, y_ = (x5_1 ++ [(x0_1) % 256]) := ⟨_, rfl⟩
   replace H : (table_low.l0 k1 (x0_1 / 256) y549 a1 (wrap64 (x7_1 + 1))) = some r := by rw [hy549]; exact H
   have Ny549 := Z0 hy549
   clear hy549
   have H' := Z0 H
   clear H
   go_wp2_with (first | ((with_reducible refine gate_builtin (b := .append) (xs := #[.tmp 9, .tmp 12]) rfl ?_); at_builtin; refine Kd.R_append (Kd.int .u8) (w0 := w) w.heap.size rfl (.tmp 9) (.tmp 12) 37 5 (.int .u8 0) 1 rfl Tryz.underlying37 info5 rfl (by decide) (by omega) u5 x5_1 ((x0_1) % 256) [.int .u8 ((x0_1) % 256)] (fun _ => True) (fun _ => False) rfl rfl ?aP (fun _ hk => hk.elim) ?aF ?aO ?aB ?aS ?aL ?_; (case aP => exact rfl); (case aB => exact HB.out); (case aF => exact (fun _ _ => trivial)); (case aO => exact HO_5.out); (case aS => exact (below_size HB.out)); (case aL => have := LMc4.out; omega); intro v550 w5 ho hb hg hat; rw [← Ny549.out] at ho; replace HB := Z0 hb; have HO551 := Z0 (ho); clear HO_5; clear ho hb hg hat))
   go_roundg k1
   case measure => have := HK1.out; omega
   case rel => exact ⟨(x0_1 / 256), (y549), (wrap64 (x7_1 + 1)), V2, V2, H', ⟨by have := HK1.out; omega⟩, ⟨kr HO551.out⟩, ⟨V0⟩⟩
def table_headerLength.f (a0 : Int) : Option (Int) := some (wrap64 (13 + (wrap64 (16 * a0))))
theorem table_headerLength.calls (a0 : Int) (r : Int) (w : World) (h : table_headerLength.f a0 = some r) :
  Calls Tryz.prog 110 #[.int .i64 a0] w fun e w' => e = .returned (.int .i64 r) ∧ Drawn0 w w' := by
 have H : (some (wrap64 (13 + (wrap64 (16 * a0))))) = some r := h
 clear h
 obtain rfl := Option.some.inj H
 go_enter Tryz.func110, Tryz.ntmps110
 go_wp2
 go_ret
 exact ⟨V2, by repeat (first | exact Y4 _ | apply Y0)⟩
def table_header.l0 : Nat → List Int → List (S23) → Int → Int → Option (List Int)
 | 0, _, _, _, _ => none
 | k + 1, x3, x37, x38, x39 => if x39 < x38 then (if 0 ≤ x39 then (if x39 < (x37.length : Int) then ((descO (rd_T23 x37 x39)).bind fun t200 => (if x3.length + t200.length < 140737488355328 then (table_header.l0 k (x3 ++ t200) x37 x38 (wrap64 (x39 + 1))) else (none))) else (none)) else (none)) else (if x3.length < 140737488355328 then (some (x3 ++ [13])) else (none))
def table_header.f (k : Nat) (a0_0 : Int) (l0_1 : List (S23)) (l0_2 : List (S46)) : Option (List Int) := (some (([67, (a0_0) % 256] : List Int) : List Int)).bind fun y169 => ((table_low.f k (l0_2.length : Int) 4).bind fun t172 => (if y169.length + t172.length < 140737488355328 then ((some (y169 ++ t172 : List Int)).bind fun y175 => ((table_headerLength.f (l0_1.length : Int)).bind fun t178 => ((table_low.f k t178 2).bind fun t179 => (if y175.length + t179.length < 140737488355328 then ((some (y175 ++ t179 : List Int)).bind fun y182 => ((table_length.f k l0_1).bind fun t185 => ((table_low.f k t185 2).bind fun t186 => (if y182.length + t186.length < 140737488355328 then ((some (y182 ++ t186 : List Int)).bind fun y189 => ((some (([((l0_1.length : Int)) % 256, 0] : List Int) : List Int)).bind fun y192 => (if y189.length + y192.length < 140737488355328 then (table_header.l0 k (y189 ++ y192) l0_1 (l0_1.length : Int) 0) else (none)))) else (none))))) else (none))))) else (none)))
theorem table_header.mono_l : ∀ k, (∀ y0 y1 y2 y3, LeO (table_header.l0 k y0 y1 y2 y3) (table_header.l0 (k + 1) y0 y1 y2 y3))
 | 0 => fun _ _ _ _ r h => by simp [table_header.l0] at h
 | k + 1 => by
  have ih0 := table_header.mono_l k
  ·intro y0 y1 y2 y3
   unfold table_header.l0
   repeat' first
   | (with_reducible exact ih0 _ _ _ _)
   | (with_reducible exact table_length.mono _ _)
   | (with_reducible exact table_low.mono _ _ _)
   | (with_reducible exact LeO.refl _)
   | (with_reducible exact LeO.none _)
   | (with_reducible refine LeO.ite ?_ ?_)
   | (with_reducible refine LeO.bind ?_ (fun _ => ?_))
theorem table_header.mono : ∀ a0 a1 a2 k, LeO (table_header.f k a0 a1 a2) (table_header.f (k + 1) a0 a1 a2) := by
 intro a0 a1 a2 k
 have ih0 := table_header.mono_l k
 unfold table_header.f
 repeat' first
   | (with_reducible exact ih0 _ _ _ _)
   | (with_reducible exact table_length.mono _ _)
   | (with_reducible exact table_low.mono _ _ _)
   | (with_reducible exact LeO.refl _)
   | (with_reducible exact LeO.none _)
   | (with_reducible refine LeO.ite ?_ ?_)
   | (with_reducible refine LeO.bind ?_ (fun _ => ?_))
def table_header.T1 : Bool × List (List Nat × List Nat) := (true, [([], []), ([0], [0]), ([1], [1]), ([2], [2]), ([], []), ([4], [4]), ([5], [5]), ([6], [6]), ([3, 7, 7], [3, 7]), ([8, 8, 0, 1, 2, 3, 4, 5, 6, 7, 8], [8])])
def table_header.B1 : List Nat := [0, 1, 3, 7, 0, 16, 48, 112, 255, 511]
theorem table_header.tab1 : rtab .any (opsOf Tryz.f62 1) = table_header.T1 := by kernel_rfl
theorem table_header.bits1 : waitsOk table_header.T1.2 table_header.B1 = true := by kernel_rfl
theorem table_header.calls (k : Nat) (a0_0 : Int) (A0_1 : Option Addr) (c0_1 : Nat) (l0_1 : List (S23)) (A0_2 : Option Addr) (c0_2 : Nat) (l0_2 : List (S46)) (r : List Int) (w : World) (hr0_1 : Kd.C k23 w A0_1 l0_1.length l0_1) (hc0_1 : l0_1.length ≤ c0_1) (hr0_2 : Kd.C k46 w A0_2 l0_2.length l0_2) (hc0_2 : l0_2.length ≤ c0_2) (h : table_header.f k a0_0 l0_1 l0_2 = some r) :
  Calls Tryz.prog 62 #[.agg #[.int .i64 a0_0, .slice A0_1 l0_1.length c0_1, .slice A0_2 l0_2.length c0_2]] w fun e w' => ∃ v0_ : Value, e = .returned (v0_) ∧ Kd.R (Kd.int .u8) 5 w' w.heap.size (fun _ => True) v0_ r ∧ Below w.heap.size w w' := by
 have hu35 := Tryz.underlying35
 have hu23 := Tryz.underlying23
 have HR0_1 := Z0 hr0_1
 have HC0_1 := Z0 hc0_1
 clear hr0_1 hc0_1
 have HR0_2 := Z0 hr0_2
 have HC0_2 := Z0 hc0_2
 clear hr0_2 hc0_2
 have HB := Z0 (Below.refl w.heap.size w)
 unfold table_header.f at h
 have H := h
 clear h
 obtain ⟨y169, hy169⟩ : ∃ y_ : List Int, y_ = (([67, (a0_0) % 256] : List Int)) := ⟨_, rfl⟩
 replace H : ((table_low.f k (l0_2.length : Int) 4).bind fun t172 => (if y169.length + t172.length < 140737488355328 then ((some (y169 ++ t172 : List Int)).bind fun y175 => ((table_headerLength.f (l0_1.length : Int)).bind fun t178 => ((table_low.f k t178 2).bind fun t179 => (if y175.length + t179.length < 140737488355328 then ((some (y175 ++ t179 : List Int)).bind fun y182 => ((table_length.f k l0_1).bind fun t185 => ((table_low.f k t185 2).bind fun t186 => (if y182.length + t186.length < 140737488355328 then ((some (y182 ++ t186 : List Int)).bind fun y189 => ((some (([((l0_1.length : Int)) % 256, 0] : List Int) : List Int)).bind fun y192 => (if y189.length + y192.length < 140737488355328 then (table_header.l0 k (y189 ++ y192) l0_1 (l0_1.length : Int) 0) else (none)))) else (none))))) else (none))))) else (none))) = some r := by rw [hy169]; exact H
 have Ny169 := Z0 hy169
 clear hy169
 replace H := Option.bind_eq_some_iff.mp H
 obtain ⟨t172, A20, H⟩ := H
 replace H : (if y169.length + t172.length < 140737488355328 then ((some (y169 ++ t172 : List Int)).bind fun y175 => ((table_headerLength.f (l0_1.length : Int)).bind fun t178 => ((table_low.f k t178 2).bind fun t179 => (if y175.length + t179.length < 140737488355328 then ((some (y175 ++ t179 : List Int)).bind fun y182 => ((table_length.f k l0_1).bind fun t185 => ((table_low.f k t185 2).bind fun t186 => (if y182.length + t186.length < 140737488355328 then ((some (y182 ++ t186 : List Int)).bind fun y189 => ((some (([((l0_1.length : Int)) % 256, 0] : List Int) : List Int)).bind fun y192 => (if y189.length + y192.length < 140737488355328 then (table_header.l0 k (y189 ++ y192) l0_1 (l0_1.length : Int) 0) else (none)))) else (none))))) else (none))))) else (none)) = some r := H
 have A2 := Z0 A20
 clear A20
 by_cases c3 : y169.length + t172.length < 140737488355328
 rotate_left
 ·rw [if_neg c3] at H
  exact absurd H (by simp)
 rw [if_pos c3] at H
 have LMc3 := Z0 c3
 clear c3
 obtain ⟨y175, hy175⟩ : ∃ y_ : List Int, y_ = (y169 ++ t172) := ⟨_, rfl⟩
 replace H : ((table_headerLength.f (l0_1.length : Int)).bind fun t178 => ((table_low.f k t178 2).bind fun t179 => (if y175.length + t179.length < 140737488355328 then ((some (y175 ++ t179 : List Int)).bind fun y182 => ((table_length.f k l0_1).bind fun t185 => ((table_low.f k t185 2).bind fun t186 => (if y182.length + t186.length < 140737488355328 then ((some (y182 ++ t186 : List Int)).bind fun y189 => ((some (([((l0_1.length : Int)) % 256, 0] : List Int) : List Int)).bind fun y192 => (if y189.length + y192.length < 140737488355328 then (table_header.l0 k (y189 ++ y192) l0_1 (l0_1.length : Int) 0) else (none)))) else (none))))) else (none)))) = some r := by rw [hy175]; exact H
 have Ny175 := Z0 hy175
 clear hy175
 replace H := Option.bind_eq_some_iff.mp H
 obtain ⟨t178, A40, H⟩ := H
 replace H : ((table_low.f k t178 2).bind fun t179 => (if y175.length + t179.length < 140737488355328 then ((some (y175 ++ t179 : List Int)).bind fun y182 => ((table_length.f k l0_1).bind fun t185 => ((table_low.f k t185 2).bind fun t186 => (if y182.length + t186.length < 140737488355328 then ((some (y182 ++ t186 : List Int)).bind fun y189 => ((some (([((l0_1.length : Int)) % 256, 0] : List Int) : List Int)).bind fun y192 => (if y189.length + y192.length < 140737488355328 then (table_header.l0 k (y189 ++ y192) l0_1 (l0_1.length : Int) 0) else (none)))) else (none))))) else (none))) = some r := H
 have A4 := Z0 A40
 clear A40
 replace H := Option.bind_eq_some_iff.mp H
 obtain ⟨t179, A50, H⟩ := H
 replace H : (if y175.length + t179.length < 140737488355328 then ((some (y175 ++ t179 : List Int)).bind fun y182 => ((table_length.f k l0_1).bind fun t185 => ((table_low.f k t185 2).bind fun t186 => (if y182.length + t186.length < 140737488355328 then ((some (y182 ++ t186 : List Int)).bind fun y189 => ((some (([((l0_1.length : Int)) % 256, 0] : List Int) : List Int)).bind fun y192 => (if y189.length + y192.length < 140737488355328 then (table_header.l0 k (y189 ++ y192) l0_1 (l0_1.length : Int) 0) else (none)))) else (none))))) else (none)) = some r := H
 have A5 := Z0 A50
 clear A50
 by_cases c6 : y175.length + t179.length < 140737488355328
 rotate_left
 ·rw [if_neg c6] at H
  exact absurd H (by simp)
 rw [if_pos c6] at H
 have LMc6 := Z0 c6
 clear c6
 obtain ⟨y182, hy182⟩ : ∃ y_ : List Int, y_ = (y175 ++ t179) := ⟨_, rfl⟩
 replace H : ((table_length.f k l0_1).bind fun t185 => ((table_low.f k t185 2).bind fun t186 => (if y182.length + t186.length < 140737488355328 then ((some (y182 ++ t186 : List Int)).bind fun y189 => ((some (([((l0_1.length : Int)) % 256, 0] : List Int) : List Int)).bind fun y192 => (if y189.length + y192.length < 140737488355328 then (table_header.l0 k (y189 ++ y192) l0_1 (l0_1.length : Int) 0) else (none)))) else (none)))) = some r := by rw [hy182]; exact H
 have Ny182 := Z0 hy182
 clear hy182
 replace H := Option.bind_eq_some_iff.mp H
 obtain ⟨t185, A70, H⟩ := H
 replace H : ((table_low.f k t185 2).bind fun t186 => (if y182.length + t186.length < 140737488355328 then ((some (y182 ++ t186 : List Int)).bind fun y189 => ((some (([((l0_1.length : Int)) % 256, 0] : List Int) : List Int)).bind fun y192 => (if y189.length + y192.length < 140737488355328 then (table_header.l0 k (y189 ++ y192) l0_1 (l0_1.length : Int) 0) else (none)))) else (none))) = some r := H
 have A7 := Z0 A70
 clear A70
 replace H := Option.bind_eq_some_iff.mp H
 obtain ⟨t186, A80, H⟩ := H
 replace H : (if y182.length + t186.length < 140737488355328 then ((some (y182 ++ t186 : List Int)).bind fun y189 => ((some (([((l0_1.length : Int)) % 256, 0] : List Int) : List Int)).bind fun y192 => (if y189.length + y192.length < 140737488355328 then (table_header.l0 k (y189 ++ y192) l0_1 (l0_1.length : Int) 0) else (none)))) else (none)) = some r := H
 have A8 := Z0 A80
 clear A80
 by_cases c9 : y182.length + t186.length < 140737488355328
 rotate_left
 ·rw [if_neg c9] at H
  exact absurd H (by simp)
 rw [if_pos c9] at H
 have LMc9 := Z0 c9
 clear c9
 obtain ⟨y189, hy189⟩ : ∃ y_ : List Int, y_ = (y182 ++ t186) := ⟨_, rfl⟩
 replace H : ((some (([((l0_1.length : Int)) % 256, 0] : List Int) : List Int)).bind fun y192 => (if y189.length + y192.length < 140737488355328 then (table_header.l0 k (y189 ++ y192) l0_1 (l0_1.length : Int) 0) else (none))) = some r := by rw [hy189]; exact H
 have Ny189 := Z0 hy189
 clear hy189
 obtain ⟨y192, hy192⟩ : ∃ y_ : List Int, y_ = (([((l0_1.length : Int)) % 256, 0] : List Int)) := ⟨_, rfl⟩
 replace H : (if y189.length + y192.length < 140737488355328 then (table_header.l0 k (y189 ++ y192) l0_1 (l0_1.length : Int) 0) else (none)) = some r := by rw [hy192]; exact H
 have Ny192 := Z0 hy192
 clear hy192
 by_cases c10 : y189.length + y192.length < 140737488355328
 rotate_left
 ·rw [if_neg c10] at H
  exact absurd H (by simp)
 rw [if_pos c10] at H
 have LMc10 := Z0 c10
 clear c10
 obtain ⟨y195, hy195⟩ : ∃ y_ : List Int, y_ = (y189 ++ y192) := ⟨_, rfl⟩
 replace H : (table_header.l0 k y195 l0_1 (l0_1.length : Int) 0) = some r := by rw [hy195]; exact H
 have Ny195 := Z0 hy195
 clear hy195
 have H' := Z0 H
 clear H
 go_enter Tryz.func62, Tryz.ntmps62
 try go_wp2_with (first | ((with_reducible refine Z9 (N := 1) rfl ?_); refine bx (N := 1) (cs := #[.int .i64 a0_0, .slice A0_1 l0_1.length c0_1, .slice A0_2 l0_2.length c0_2]) (t := 35) ?_; intro gb168 hg w11 hbox hb; have BK168 := Z0 hbox; have GE168 := ge hg V0; replace HB := Z0 (Z1 V0 hb); clear hb hbox hg))
 have n0_ := Z0 (Y5 BK168.out)
 have n1_ := Z0 (below_drew1 HB.out)
 clear BK168
 clear HB
 have BK168 := n0_
 have HB := n1_
 clear n0_ n1_
 refine start_ (n := 10) (S := fun w' => w'.cell? ⟨gb168, 0, none⟩ = some (.int .i64 a0_0) ∧ w'.cell? ⟨gb168, 1, none⟩ = some (.slice A0_1 l0_1.length c0_1) ∧ w'.cell? ⟨gb168, 2, none⟩ = some (.slice A0_2 l0_2.length c0_2)) (ds := []) (bs 10 0) (by kernel_rfl) rfl rfl ⟨(Z4 BK168.out 0).trans rfl, (Z4 BK168.out 1).trans rfl, (Z4 BK168.out 2).trans rfl⟩ (fun hHeld => ?_); refine with_tabW table_header.tab1 table_header.bits1 (fun HT_ HW_ => ?_)
 generalize w11.drew = w12 at BK168 HB hHeld ⊢
 refine pz 0 7 (bs 10 1) HT_ ?_
 refine pz 4 11 (bs 10 17) HT_ ?_
 refine tz 1 8 (bs 10 19) HT_ HW_ hHeld ?_
 refine pz 2 9 (bs 10 23) HT_ ?_
 refine tz 5 12 (bs 10 55) HT_ HW_ hHeld ?_
 refine pz 6 13 (bs 10 119) HT_ ?_
 refine join_ (σ := Value × Value) 2 (bs 10 255) (fun s_ => [(10, s_.1), (14, s_.2)]) (fun s_ w' => (w'.cell? ⟨gb168, 0, none⟩ = some (.int .i64 a0_0) ∧ w'.cell? ⟨gb168, 1, none⟩ = some (.slice A0_1 l0_1.length c0_1) ∧ w'.cell? ⟨gb168, 2, none⟩ = some (.slice A0_2 l0_2.length c0_2)) ∧ (Kd.R (Kd.int .u8) 5 w' w.heap.size (fun k_ => some k_ ≠ (s_.2 : Value).ownBlock) s_.1 y169) ∧ (Kd.R (Kd.int .u8) 5 w' w.heap.size (fun k_ => some k_ ≠ (s_.1 : Value).ownBlock) s_.2 t172) ∧ (w'.heap[gb168]? = some (.cells #[.int .i64 a0_0, .slice A0_1 l0_1.length c0_1, .slice A0_2 l0_2.length c0_2] 35 (0, 0))) ∧ (Below w.heap.size w w')) ?_ ?_
 rotate_left
 ·intro hCont
  refine two_ (i := 3) (j := 7) (Ni := some 10) (Nj := some 14) (bs 10 127) (bs 10 247) rfl rfl rfl rfl (two_of HT_.out (by kernel_rfl)) (by decide) (by decide) (fun K hK => ?_) (fun K hK => ?_)
  ·skip
   refine Kd.R_lit_step (Kd.int .u8) _ 5 ?hg (N := 10) ?hd (xs := ([67, (a0_0) % 256] : List Int)) (inner := [.int .u8 67, .int .u8 ((a0_0) % 256)]) (ok := fun _ => True) (okp := fun _ => True) ?hr ?hp (fun _ hk => hk) trivial (Below.refl _ _) (Nat.le_refl _) (by simp) ?_; (case hd => rfl); (case hg => rfl); (case hr => go_simp; try rfl); (case hp => exact (Reps.one (show Kd.M (Kd.int .u8) _ _ _ 67 [.int .u8 67] from rfl) (Reps.one (show Kd.M (Kd.int .u8) _ _ _ ((a0_0) % 256) [.int .u8 ((a0_0) % 256)] from rfl) (Reps.none _ _))))
   intro v170 w13 ho14 hb hg_ hnew_
   clear hg_ hnew_
   (first | rw [← Ny169.out] at ho14 | (simp only [Int.reduceToNat] at ho14; rw [← Ny169.out] at ho14))
   have n0_ := Z0 (Kd.R_lower ho14 (below_size V0))
   have n1_ := Z0 (Z2 (g := gb168) (o := .cells #[.int .i64 a0_0, .slice A0_1 l0_1.length c0_1, .slice A0_2 l0_2.length c0_2] 35 (0, 0)) (kb BK168.out) hb)
   have n2_ := Z0 (Z1 V0 hb)
   clear BK168
   clear HB
   have HO171 := n0_
   have BK168 := n1_
   have HB := n2_
   clear n0_ n1_ n2_
   clear hb ho14
   refine hK.out _ _ ⟨(Z4 BK168.out 0).trans rfl, (Z4 BK168.out 1).trans rfl, (Z4 BK168.out 2).trans rfl⟩ (fun hHeld => ?_)
   clear hK K
   refine norm_ (a' := ?_) ?_ ?_
   rotate_left
   ·show Act.put _ (some 10) _ = _
    simp only [Act.put, Z3, Z6, Z7, i64_w, i32_w]
    rfl
   refine one_ (i := 7) (N := some 14) (bs 10 255) rfl rfl (one_of HT_.out (by kernel_rfl)) (by decide) (fun K hK => ?_)
   refine goes_ Tryz.func109 (by kernel_rfl) rfl #[.int .i64 (l0_2.length : Int), .int .i64 4] (by rfl) rfl rfl V1 ?_
   with_reducible refine (table_low.calls k (l0_2.length : Int) 4 t172 _ A2.out).mono ?_
   rintro e w15 ⟨v173, rfl, ho0, hb⟩
   refine ⟨_, rfl, ?_⟩
   have n0_ := Z0 (Kd.R_elder' (by (with_reducible repeat (first | apply Kd.R_alloc | apply Kd.R_drewN | apply Kd.R_drew)); exact HO171.out) (Kd.R_base ho0) hb)
   have n1_ := Z0 (Kd.R_lower (Kd.R_new' ho0 (Kd.R_lt (by (with_reducible repeat (first | apply Kd.R_alloc | apply Kd.R_drewN | apply Kd.R_drew)); exact HO171.out))) (below_size V0))
   have n2_ := Z0 (Z2 (g := gb168) (o := .cells #[.int .i64 a0_0, .slice A0_1 l0_1.length c0_1, .slice A0_2 l0_2.length c0_2] 35 (0, 0)) (kb BK168.out) hb)
   have n3_ := Z0 (Z1 V0 hb)
   clear HO171
   clear BK168
   clear HB
   have HO171 := n0_
   have HO174 := n1_
   have BK168 := n2_
   have HB := n3_
   clear n0_ n1_ n2_ n3_
   refine hK.out _ _ ⟨(Z4 BK168.out 0).trans rfl, (Z4 BK168.out 1).trans rfl, (Z4 BK168.out 2).trans rfl⟩ (fun hHeld => ?_)
   clear hK K
   refine norm_ (a' := ?_) ?_ ?_
   rotate_left
   ·show Act.put _ (some 14) _ = _
    simp only [Act.put, Z3, Z6, Z7, i64_w, i32_w]
    rfl
   exact norm_ (by simp only [putAll, Act.put, Z3, Z6, Z7]) (hCont (v170, v173) _ ⟨hHeld, (by (with_reducible repeat (first | apply Kd.R_alloc | apply Kd.R_drewN | apply Kd.R_drew)); exact Kd.R_mono HO171.out (fun _ hk => hk.2)), (by (with_reducible repeat (first | apply Kd.R_alloc | apply Kd.R_drewN | apply Kd.R_drew)); exact Kd.R_mono HO174.out (fun _ hk => hk.2)), (kb BK168.out), V0⟩)
  skip
  refine goes_ Tryz.func109 (by kernel_rfl) rfl #[.int .i64 (l0_2.length : Int), .int .i64 4] (by rfl) rfl rfl V1 ?_
  with_reducible refine (table_low.calls k (l0_2.length : Int) 4 t172 _ A2.out).mono ?_
  rintro e w13 ⟨v173, rfl, ho0, hb⟩
  refine ⟨_, rfl, ?_⟩
  have n0_ := Z0 (Kd.R_lower ho0 (below_size V0))
  have n1_ := Z0 (Z2 (g := gb168) (o := .cells #[.int .i64 a0_0, .slice A0_1 l0_1.length c0_1, .slice A0_2 l0_2.length c0_2] 35 (0, 0)) (kb BK168.out) hb)
  have n2_ := Z0 (Z1 V0 hb)
  clear BK168
  clear HB
  have HO174 := n0_
  have BK168 := n1_
  have HB := n2_
  clear n0_ n1_ n2_
  refine hK.out _ _ ⟨(Z4 BK168.out 0).trans rfl, (Z4 BK168.out 1).trans rfl, (Z4 BK168.out 2).trans rfl⟩ (fun hHeld => ?_)
  clear hK K
  refine norm_ (a' := ?_) ?_ ?_
  rotate_left
  ·show Act.put _ (some 14) _ = _
   simp only [Act.put, Z3, Z6, Z7, i64_w, i32_w]
   rfl
  refine one_ (i := 3) (N := some 10) (bs 10 255) rfl rfl (one_of HT_.out (by kernel_rfl)) (by decide) (fun K hK => ?_)
  refine Kd.R_lit_step (Kd.int .u8) _ 5 ?hg (N := 10) ?hd (xs := ([67, (a0_0) % 256] : List Int)) (inner := [.int .u8 67, .int .u8 ((a0_0) % 256)]) (ok := fun _ => True) (okp := fun _ => True) ?hr ?hp (fun _ hk => hk) trivial (Below.refl _ _) (Nat.le_refl _) (by simp) ?_; (case hd => rfl); (case hg => rfl); (case hr => go_simp; try rfl); (case hp => exact (Reps.one (show Kd.M (Kd.int .u8) _ _ _ 67 [.int .u8 67] from rfl) (Reps.one (show Kd.M (Kd.int .u8) _ _ _ ((a0_0) % 256) [.int .u8 ((a0_0) % 256)] from rfl) (Reps.none _ _))))
  intro v170 w14 ho15 hb hg_ hnew_
  clear hg_ hnew_
  (first | rw [← Ny169.out] at ho15 | (simp only [Int.reduceToNat] at ho15; rw [← Ny169.out] at ho15))
  have n0_ := Z0 (Kd.R_elder' (by (with_reducible repeat (first | apply Kd.R_alloc | apply Kd.R_drewN | apply Kd.R_drew)); exact HO174.out) (Kd.R_base ho15) hb)
  have n1_ := Z0 (Kd.R_lower (Kd.R_new' ho15 (Kd.R_lt (by (with_reducible repeat (first | apply Kd.R_alloc | apply Kd.R_drewN | apply Kd.R_drew)); exact HO174.out))) (below_size V0))
  have n2_ := Z0 (Z2 (g := gb168) (o := .cells #[.int .i64 a0_0, .slice A0_1 l0_1.length c0_1, .slice A0_2 l0_2.length c0_2] 35 (0, 0)) (kb BK168.out) hb)
  have n3_ := Z0 (Z1 V0 hb)
  clear HO174
  clear BK168
  clear HB
  have HO174 := n0_
  have HO171 := n1_
  have BK168 := n2_
  have HB := n3_
  clear n0_ n1_ n2_ n3_
  clear hb ho15
  refine hK.out _ _ ⟨(Z4 BK168.out 0).trans rfl, (Z4 BK168.out 1).trans rfl, (Z4 BK168.out 2).trans rfl⟩ (fun hHeld => ?_)
  clear hK K
  refine norm_ (a' := ?_) ?_ ?_
  rotate_left
  ·show Act.put _ (some 10) _ = _
   simp only [Act.put, Z3, Z6, Z7, i64_w, i32_w]
   rfl
  exact norm_ (by simp only [putAll, Act.put, Z3, Z6, Z7]) (hCont (v170, v173) _ ⟨hHeld, (by (with_reducible repeat (first | apply Kd.R_alloc | apply Kd.R_drewN | apply Kd.R_drew)); exact Kd.R_mono HO171.out (fun _ hk => hk.2)), (by (with_reducible repeat (first | apply Kd.R_alloc | apply Kd.R_drewN | apply Kd.R_drew)); exact Kd.R_mono HO174.out (fun _ hk => hk.2)), (kb BK168.out), V0⟩)
 rintro ⟨v170, v173⟩ w16 ⟨hS_, h0_, h1_, h2_, h3_⟩
 have n0_ : Aside0 (Kd.R (Kd.int .u8) 5 w16 w.heap.size (fun k_ => some k_ ≠ (v173 : Value).ownBlock) v170 y169) := ⟨h0_⟩
 have n1_ : Aside0 (Kd.R (Kd.int .u8) 5 w16 w.heap.size (fun k_ => some k_ ≠ (v170 : Value).ownBlock) v173 t172) := ⟨h1_⟩
 have n2_ : Aside0 (w16.heap[gb168]? = some (.cells #[.int .i64 a0_0, .slice A0_1 l0_1.length c0_1, .slice A0_2 l0_2.length c0_2] 35 (0, 0))) := ⟨h2_⟩
 have n3_ : Aside0 (Below w.heap.size w w16) := ⟨h3_⟩
 clear BK168
 clear HB
 clear h0_ h1_ h2_ h3_
 have HO171 := n0_
 have HO174 := n1_
 have BK168 := n2_
 have HB := n3_
 clear n0_ n1_ n2_ n3_
 have hHeld : w16.cell? ⟨gb168, 0, none⟩ = some (.int .i64 a0_0) ∧ w16.cell? ⟨gb168, 1, none⟩ = some (.slice A0_1 l0_1.length c0_1) ∧ w16.cell? ⟨gb168, 2, none⟩ = some (.slice A0_2 l0_2.length c0_2) := hS_
 obtain ⟨Ao18, co18, eo18⟩ := Kd.R_slice HO174.out
 (first | subst eo18 | (injection eo18 with f1_ f2_ f3_; have f4_ := f1_.symm; have f5_ := f3_.symm; clear f1_ f2_ f3_; subst f4_; subst f5_))
 refine norm_ (a' := ?_) ?_ ?_
 rotate_left
 ·simp only [putAll, Act.put, Z3, Z6, Z7]
  rfl
 refine one_ (i := 8) (N := some 15) (bs 10 511) rfl rfl (one_of HT_.out (by kernel_rfl)) (by decide) (fun K hK => ?_)
 refine Kd.R_append_rows_step (Kd.int .u8) (w0 := w) w.heap.size (by rfl) (.tmp 10) (.tmp 14) 37 5 (.int .u8 0) 1 rfl Tryz.underlying37 info5 rfl (by decide) (by omega) v170 y169 t172 _ _ _ (fun k_ => some k_ ≠ (.slice Ao18 t172.length co18 : Value).ownBlock) (fun _ => False) rfl rfl ?aO ?aR (fun _ _ h => h) (fun _ h => h.elim) ?aF ?aB ?aS ?aL ?_
 (case aR => repeat (first | exact (Kd.R_reads' HO174.out).2.2 | (with_reducible refine Kd.C_alloc ?_ _) | (with_reducible refine Kd.C_drewN ?_ _) | (with_reducible refine Kd.C_drew ?_)))
 (case aB => exact V0)
 (case aF => exact (fun k_ hk => Kd.fresh' (Kd.R_lt (by (with_reducible repeat (first | apply Kd.R_alloc | apply Kd.R_drewN | apply Kd.R_drew)); exact HO174.out)) k_ hk))
 (case aO => exact (by (with_reducible repeat (first | apply Kd.R_alloc | apply Kd.R_drewN | apply Kd.R_drew)); exact HO171.out))
 (case aS => exact (below_size V0))
 (case aL => have := LMc3.out; omega)
 intro v176 w17 ho hb hg hat
 rw [← Ny175.out] at ho
 have n0_ := Z0 (blk_grown (g := gb168) (o := .cells #[.int .i64 a0_0, .slice A0_1 l0_1.length c0_1, .slice A0_2 l0_2.length c0_2] 35 (0, 0)) (kb BK168.out) hg (Kd.R_ne HO171.out BK168.out (by decide)))
 have n1_ := Z0 (Kd.R_after (ok := (fun _ => True)) (by (with_reducible repeat (first | apply Kd.R_alloc | apply Kd.R_drewN | apply Kd.R_drew)); exact Kd.R_mono HO174.out (fun _ hk => ⟨trivial, hk⟩)) hg hat)
 have n2_ := Z0 hb
 have n3_ := Z0 (ho)
 clear BK168
 clear HO174
 clear HB
 clear HO171
 have BK168 := n0_
 have HO174 := n1_
 have HB := n2_
 have HO177 := n3_
 clear n0_ n1_ n2_ n3_
 clear ho hb hg hat
 refine hK.out _ _ ⟨(Z4 BK168.out 0).trans rfl, (Z4 BK168.out 1).trans rfl, (Z4 BK168.out 2).trans rfl⟩ (fun hHeld => ?_)
 clear hK K
 refine norm_ (a' := ?_) ?_ ?_
 rotate_left
 ·show Act.put _ (some 15) _ = _
  simp only [Act.put, Z3, Z6, Z7, i64_w, i32_w]
  rfl
 refine pz 9 3 (bs 10 1023) HT_ ?_
 refine done_ (done_of HT_.out (by kernel_rfl)) ?_
 obtain ⟨hcz19_0, hcz19_1, hcz19_2⟩ := bc3 BK168.out
 obtain ⟨hfz19_0, hfz19_1, hfz19_2⟩ := bf3 BK168.out
 try go_wp2_with (first | ((with_reducible refine Z5 (f := 110) rfl ?_); refine gl Tryz.func110 (table_headerLength.calls (l0_1.length : Int) t178 _ A4.out) ?_; rintro e w' ⟨rfl, ⟨nd, rfl⟩⟩; refine ⟨_, rfl, ?_⟩) | ((with_reducible refine Z5 (f := 109) rfl ?_); refine gl Tryz.func109 (table_low.calls k t178 2 t179 _ A5.out) ?_; rintro e w20 ⟨v180, rfl, ho0, hb⟩; refine ⟨_, rfl, ?_⟩; have HO181 := Z0 (Kd.R_lower (Kd.R_new' (Kd.R_new' ho0 (Kd.R_lt (by (with_reducible repeat (first | apply Kd.R_alloc | apply Kd.R_drewN | apply Kd.R_drew)); exact HO174.out))) (Kd.R_lt (by (with_reducible repeat (first | apply Kd.R_alloc | apply Kd.R_drewN | apply Kd.R_drew)); exact HO177.out))) (below_size V0)); replace HO174 := Z0 (Kd.R_elder' (by (with_reducible repeat (first | apply Kd.R_alloc | apply Kd.R_drewN | apply Kd.R_drew)); exact HO174.out) (Kd.R_base ho0) hb); replace HO177 := Z0 (Kd.R_elder' (by (with_reducible repeat (first | apply Kd.R_alloc | apply Kd.R_drewN | apply Kd.R_drew)); exact HO177.out) (Kd.R_base ho0) hb); replace BK168 := Z0 (Z2 (g := gb168) (o := .cells #[.int .i64 a0_0, .slice A0_1 l0_1.length c0_1, .slice A0_2 l0_2.length c0_2] 35 (0, 0)) (kb BK168.out) hb); replace HB := Z0 (Z1 V0 hb); obtain ⟨Ao22, co22, eo22⟩ := Kd.R_slice HO181.out; subst eo22) | ((with_reducible refine gate_builtin (b := .append) (xs := #[.tmp 16, .tmp 21]) rfl ?_); at_builtin; refine Kd.R_append_rows (Kd.int .u8) (w0 := w) w.heap.size rfl (.tmp 16) (.tmp 21) 37 5 (.int .u8 0) 1 rfl Tryz.underlying37 info5 rfl (by decide) (by omega) v176 y175 t179 _ _ _ (fun k_ => some k_ ≠ (.slice Ao18 t172.length co18 : Value).ownBlock ∧ some k_ ≠ (.slice Ao22 t179.length co22 : Value).ownBlock) (fun _ => False) rfl rfl ?aO ?aR (fun _ _ h => h) (fun _ h => h.elim) ?aF ?aB ?aS ?aL ?_; (case aR => repeat (first | exact (Kd.R_reads' HO181.out).2.2 | (with_reducible refine Kd.C_alloc ?_ _) | (with_reducible refine Kd.C_drewN ?_ _) | (with_reducible refine Kd.C_drew ?_))); (case aB => exact V0); (case aF => exact (fun k_ hk => ⟨Kd.fresh' (Kd.R_lt (by (with_reducible repeat (first | apply Kd.R_alloc | apply Kd.R_drewN | apply Kd.R_drew)); exact HO174.out)) k_ hk, Kd.fresh' (Kd.R_lt (by (with_reducible repeat (first | apply Kd.R_alloc | apply Kd.R_drewN | apply Kd.R_drew)); exact HO181.out)) k_ hk⟩)); (case aO => exact (by (with_reducible repeat (first | apply Kd.R_alloc | apply Kd.R_drewN | apply Kd.R_drew)); exact HO177.out)); (case aS => exact (below_size V0)); (case aL => have := LMc6.out; omega); intro v183 w21 ho hb hg hat; rw [← Ny182.out] at ho; replace BK168 := Z0 (blk_grown (g := gb168) (o := .cells #[.int .i64 a0_0, .slice A0_1 l0_1.length c0_1, .slice A0_2 l0_2.length c0_2] 35 (0, 0)) (kb BK168.out) hg (Kd.R_ne HO177.out BK168.out (by decide))); replace HO174 := Z0 (Kd.R_after (ok := (fun k_ => some k_ ≠ (.slice Ao22 t179.length co22 : Value).ownBlock)) (by (with_reducible repeat (first | apply Kd.R_alloc | apply Kd.R_drewN | apply Kd.R_drew)); exact Kd.R_mono HO174.out (fun _ hk => ⟨hk.2, hk.1.2⟩)) hg hat); replace HO181 := Z0 (Kd.R_after (ok := (fun k_ => some k_ ≠ (.slice Ao18 t172.length co18 : Value).ownBlock)) (by (with_reducible repeat (first | apply Kd.R_alloc | apply Kd.R_drewN | apply Kd.R_drew)); exact Kd.R_mono HO181.out (fun _ hk => ⟨hk.1.2, hk.2⟩)) hg hat); replace HB := Z0 hb; have HO184 := Z0 (ho); clear HO177; clear ho hb hg hat; obtain ⟨hcz23_0, hcz23_1, hcz23_2⟩ := bc3 BK168.out; obtain ⟨hfz23_0, hfz23_1, hfz23_2⟩ := bf3 BK168.out) | ((with_reducible refine Z5 (f := 69) rfl ?_); refine gl Tryz.func69 (table_length.calls k _ _ l0_1 t185 _ (kc (Kd.C_below HR0_1.out HB.out)) HC0_1.out A7.out) ?_; rintro e w24 ⟨rfl, hb⟩; refine ⟨_, rfl, ?_⟩; replace HO174 := Z0 (Kd.R_below (by (with_reducible repeat (first | apply Kd.R_alloc | apply Kd.R_drewN | apply Kd.R_drew)); exact HO174.out) hb); replace HO181 := Z0 (Kd.R_below (by (with_reducible repeat (first | apply Kd.R_alloc | apply Kd.R_drewN | apply Kd.R_drew)); exact HO181.out) hb); replace HO184 := Z0 (Kd.R_below (by (with_reducible repeat (first | apply Kd.R_alloc | apply Kd.R_drewN | apply Kd.R_drew)); exact HO184.out) hb); replace BK168 := Z0 (Z2 (g := gb168) (o := .cells #[.int .i64 a0_0, .slice A0_1 l0_1.length c0_1, .slice A0_2 l0_2.length c0_2] 35 (0, 0)) (kb BK168.out) hb); replace HB := Z0 (Z1 V0 hb)) | ((with_reducible refine Z5 (f := 109) rfl ?_); refine gl Tryz.func109 (table_low.calls k t185 2 t186 _ A8.out) ?_; rintro e w25 ⟨v187, rfl, ho0, hb⟩; refine ⟨_, rfl, ?_⟩; have HO188 := Z0 (Kd.R_lower (Kd.R_new' (Kd.R_new' (Kd.R_new' ho0 (Kd.R_lt (by (with_reducible repeat (first | apply Kd.R_alloc | apply Kd.R_drewN | apply Kd.R_drew)); exact HO174.out))) (Kd.R_lt (by (with_reducible repeat (first | apply Kd.R_alloc | apply Kd.R_drewN | apply Kd.R_drew)); exact HO181.out))) (Kd.R_lt (by (with_reducible repeat (first | apply Kd.R_alloc | apply Kd.R_drewN | apply Kd.R_drew)); exact HO184.out))) (below_size V0)); replace HO174 := Z0 (Kd.R_elder' (by (with_reducible repeat (first | apply Kd.R_alloc | apply Kd.R_drewN | apply Kd.R_drew)); exact HO174.out) (Kd.R_base ho0) hb); replace HO181 := Z0 (Kd.R_elder' (by (with_reducible repeat (first | apply Kd.R_alloc | apply Kd.R_drewN | apply Kd.R_drew)); exact HO181.out) (Kd.R_base ho0) hb); replace HO184 := Z0 (Kd.R_elder' (by (with_reducible repeat (first | apply Kd.R_alloc | apply Kd.R_drewN | apply Kd.R_drew)); exact HO184.out) (Kd.R_base ho0) hb); replace BK168 := Z0 (Z2 (g := gb168) (o := .cells #[.int .i64 a0_0, .slice A0_1 l0_1.length c0_1, .slice A0_2 l0_2.length c0_2] 35 (0, 0)) (kb BK168.out) hb); replace HB := Z0 (Z1 V0 hb); obtain ⟨Ao27, co27, eo27⟩ := Kd.R_slice HO188.out; subst eo27) | ((with_reducible refine gate_builtin (b := .append) (xs := #[.tmp 23, .tmp 27]) rfl ?_); at_builtin; refine Kd.R_append_rows (Kd.int .u8) (w0 := w) w.heap.size rfl (.tmp 23) (.tmp 27) 37 5 (.int .u8 0) 1 rfl Tryz.underlying37 info5 rfl (by decide) (by omega) v183 y182 t186 _ _ _ (fun k_ => some k_ ≠ (.slice Ao18 t172.length co18 : Value).ownBlock ∧ some k_ ≠ (.slice Ao22 t179.length co22 : Value).ownBlock ∧ some k_ ≠ (.slice Ao27 t186.length co27 : Value).ownBlock) (fun _ => False) rfl rfl ?aO ?aR (fun _ _ h => h) (fun _ h => h.elim) ?aF ?aB ?aS ?aL ?_; (case aR => repeat (first | exact (Kd.R_reads' HO188.out).2.2 | (with_reducible refine Kd.C_alloc ?_ _) | (with_reducible refine Kd.C_drewN ?_ _) | (with_reducible refine Kd.C_drew ?_))); (case aB => exact V0); (case aF => exact (fun k_ hk => ⟨Kd.fresh' (Kd.R_lt (by (with_reducible repeat (first | apply Kd.R_alloc | apply Kd.R_drewN | apply Kd.R_drew)); exact HO174.out)) k_ hk, Kd.fresh' (Kd.R_lt (by (with_reducible repeat (first | apply Kd.R_alloc | apply Kd.R_drewN | apply Kd.R_drew)); exact HO181.out)) k_ hk, Kd.fresh' (Kd.R_lt (by (with_reducible repeat (first | apply Kd.R_alloc | apply Kd.R_drewN | apply Kd.R_drew)); exact HO188.out)) k_ hk⟩)); (case aO => exact (by (with_reducible repeat (first | apply Kd.R_alloc | apply Kd.R_drewN | apply Kd.R_drew)); exact Kd.R_mono HO184.out (fun _ hk => ⟨hk.1.1, ⟨hk.1.2, hk.2⟩⟩))); (case aS => exact (below_size V0)); (case aL => have := LMc9.out; omega); intro v190 w26 ho hb hg hat; rw [← Ny189.out] at ho; replace BK168 := Z0 (blk_grown (g := gb168) (o := .cells #[.int .i64 a0_0, .slice A0_1 l0_1.length c0_1, .slice A0_2 l0_2.length c0_2] 35 (0, 0)) (kb BK168.out) hg (Kd.R_ne HO184.out BK168.out (by decide))); replace HO174 := Z0 (Kd.R_after (ok := (fun k_ => some k_ ≠ (.slice Ao22 t179.length co22 : Value).ownBlock ∧ some k_ ≠ (.slice Ao27 t186.length co27 : Value).ownBlock)) (by (with_reducible repeat (first | apply Kd.R_alloc | apply Kd.R_drewN | apply Kd.R_drew)); exact Kd.R_mono HO174.out (fun _ hk => ⟨⟨hk.1.1, hk.2⟩, hk.1.2⟩)) hg hat); replace HO181 := Z0 (Kd.R_after (ok := (fun k_ => some k_ ≠ (.slice Ao18 t172.length co18 : Value).ownBlock ∧ some k_ ≠ (.slice Ao27 t186.length co27 : Value).ownBlock)) (by (with_reducible repeat (first | apply Kd.R_alloc | apply Kd.R_drewN | apply Kd.R_drew)); exact Kd.R_mono HO181.out (fun _ hk => ⟨⟨hk.1.1, hk.2⟩, hk.1.2⟩)) hg hat); replace HO188 := Z0 (Kd.R_after (ok := (fun k_ => some k_ ≠ (.slice Ao18 t172.length co18 : Value).ownBlock ∧ some k_ ≠ (.slice Ao22 t179.length co22 : Value).ownBlock)) (by (with_reducible repeat (first | apply Kd.R_alloc | apply Kd.R_drewN | apply Kd.R_drew)); exact Kd.R_mono HO188.out (fun _ hk => ⟨⟨hk.1.1.2, hk.1.2⟩, hk.2⟩)) hg hat); replace HB := Z0 hb; have HO191 := Z0 (ho); clear HO184; clear ho hb hg hat; obtain ⟨hcz28_0, hcz28_1, hcz28_2⟩ := bc3 BK168.out; obtain ⟨hfz28_0, hfz28_1, hfz28_2⟩ := bf3 BK168.out) | ((with_reducible refine Z9 (N := 34) rfl ?_); refine Kd.R_lit (Kd.int .u8) _ 5 ?hg (N := 34) ?hd (xs := ([((l0_1.length : Int)) % 256, 0] : List Int)) (inner := [.int .u8 (((l0_1.length : Int)) % 256), .int .u8 0]) (ok := fun _ => True) (okp := fun _ => True) ?hr ?hp (fun _ hk => hk) trivial (Below.refl _ _) (Nat.le_refl _) (by simp) ?_; (case hd => rfl); (case hg => rfl); (case hr => go_simp; try rfl); (case hp => exact (Reps.one (show Kd.M (Kd.int .u8) _ _ _ (((l0_1.length : Int)) % 256) [.int .u8 (((l0_1.length : Int)) % 256)] from rfl) (Reps.one (show Kd.M (Kd.int .u8) _ _ _ 0 [.int .u8 0] from rfl) (Reps.none _ _)))); intro v193 w29 ho30 hb hg_ hnew_; clear hg_ hnew_; (first | rw [← Ny192.out] at ho30 | (simp only [Int.reduceToNat] at ho30; rw [← Ny192.out] at ho30)); have HO194 := Z0 (Kd.R_lower (Kd.R_new' (Kd.R_new' (Kd.R_new' (Kd.R_new' ho30 (Kd.R_lt (by (with_reducible repeat (first | apply Kd.R_alloc | apply Kd.R_drewN | apply Kd.R_drew)); exact HO174.out))) (Kd.R_lt (by (with_reducible repeat (first | apply Kd.R_alloc | apply Kd.R_drewN | apply Kd.R_drew)); exact HO181.out))) (Kd.R_lt (by (with_reducible repeat (first | apply Kd.R_alloc | apply Kd.R_drewN | apply Kd.R_drew)); exact HO188.out))) (Kd.R_lt (by (with_reducible repeat (first | apply Kd.R_alloc | apply Kd.R_drewN | apply Kd.R_drew)); exact HO191.out))) (below_size V0)); replace HO174 := Z0 (Kd.R_elder' (by (with_reducible repeat (first | apply Kd.R_alloc | apply Kd.R_drewN | apply Kd.R_drew)); exact HO174.out) (Kd.R_base ho30) hb); replace HO181 := Z0 (Kd.R_elder' (by (with_reducible repeat (first | apply Kd.R_alloc | apply Kd.R_drewN | apply Kd.R_drew)); exact HO181.out) (Kd.R_base ho30) hb); replace HO188 := Z0 (Kd.R_elder' (by (with_reducible repeat (first | apply Kd.R_alloc | apply Kd.R_drewN | apply Kd.R_drew)); exact HO188.out) (Kd.R_base ho30) hb); replace HO191 := Z0 (Kd.R_elder' (by (with_reducible repeat (first | apply Kd.R_alloc | apply Kd.R_drewN | apply Kd.R_drew)); exact HO191.out) (Kd.R_base ho30) hb); replace BK168 := Z0 (Z2 (g := gb168) (o := .cells #[.int .i64 a0_0, .slice A0_1 l0_1.length c0_1, .slice A0_2 l0_2.length c0_2] 35 (0, 0)) (kb BK168.out) hb); replace HB := Z0 (Z1 V0 hb); clear hb ho30; obtain ⟨Ao32, co32, eo32⟩ := Kd.R_slice HO194.out; subst eo32) | ((with_reducible refine gate_builtin (b := .append) (xs := #[.tmp 29, .tmp 34]) rfl ?_); at_builtin; refine Kd.R_append_rows (Kd.int .u8) (w0 := w) w.heap.size rfl (.tmp 29) (.tmp 34) 37 5 (.int .u8 0) 1 rfl Tryz.underlying37 info5 rfl (by decide) (by omega) v190 y189 y192 _ _ _ (fun k_ => some k_ ≠ (.slice Ao18 t172.length co18 : Value).ownBlock ∧ some k_ ≠ (.slice Ao22 t179.length co22 : Value).ownBlock ∧ some k_ ≠ (.slice Ao27 t186.length co27 : Value).ownBlock ∧ some k_ ≠ (.slice Ao32 y192.length co32 : Value).ownBlock) (fun _ => False) rfl rfl ?aO ?aR (fun _ _ h => h) (fun _ h => h.elim) ?aF ?aB ?aS ?aL ?_; (case aR => repeat (first | exact (Kd.R_reads' HO194.out).2.2 | (with_reducible refine Kd.C_alloc ?_ _) | (with_reducible refine Kd.C_drewN ?_ _) | (with_reducible refine Kd.C_drew ?_))); (case aB => exact V0); (case aF => exact (fun k_ hk => ⟨Kd.fresh' (Kd.R_lt (by (with_reducible repeat (first | apply Kd.R_alloc | apply Kd.R_drewN | apply Kd.R_drew)); exact HO174.out)) k_ hk, Kd.fresh' (Kd.R_lt (by (with_reducible repeat (first | apply Kd.R_alloc | apply Kd.R_drewN | apply Kd.R_drew)); exact HO181.out)) k_ hk, Kd.fresh' (Kd.R_lt (by (with_reducible repeat (first | apply Kd.R_alloc | apply Kd.R_drewN | apply Kd.R_drew)); exact HO188.out)) k_ hk, Kd.fresh' (Kd.R_lt (by (with_reducible repeat (first | apply Kd.R_alloc | apply Kd.R_drewN | apply Kd.R_drew)); exact HO194.out)) k_ hk⟩)); (case aO => exact (by (with_reducible repeat (first | apply Kd.R_alloc | apply Kd.R_drewN | apply Kd.R_drew)); exact Kd.R_mono HO191.out (fun _ hk => ⟨hk.1.1, ⟨hk.1.2.1, ⟨hk.1.2.2, hk.2⟩⟩⟩))); (case aS => exact (below_size V0)); (case aL => have := LMc10.out; omega); intro v196 w31 ho hb hg hat; rw [← Ny195.out] at ho; replace BK168 := Z0 (blk_grown (g := gb168) (o := .cells #[.int .i64 a0_0, .slice A0_1 l0_1.length c0_1, .slice A0_2 l0_2.length c0_2] 35 (0, 0)) (kb BK168.out) hg (Kd.R_ne HO191.out BK168.out (by decide))); replace HO174 := Z0 (Kd.R_after (ok := (fun k_ => some k_ ≠ (.slice Ao22 t179.length co22 : Value).ownBlock ∧ some k_ ≠ (.slice Ao27 t186.length co27 : Value).ownBlock ∧ some k_ ≠ (.slice Ao32 y192.length co32 : Value).ownBlock)) (by (with_reducible repeat (first | apply Kd.R_alloc | apply Kd.R_drewN | apply Kd.R_drew)); exact Kd.R_mono HO174.out (fun _ hk => ⟨⟨hk.1.1.1, ⟨hk.1.1.2, hk.2⟩⟩, hk.1.2⟩)) hg hat); replace HO181 := Z0 (Kd.R_after (ok := (fun k_ => some k_ ≠ (.slice Ao18 t172.length co18 : Value).ownBlock ∧ some k_ ≠ (.slice Ao27 t186.length co27 : Value).ownBlock ∧ some k_ ≠ (.slice Ao32 y192.length co32 : Value).ownBlock)) (by (with_reducible repeat (first | apply Kd.R_alloc | apply Kd.R_drewN | apply Kd.R_drew)); exact Kd.R_mono HO181.out (fun _ hk => ⟨⟨hk.1.1.1, ⟨hk.1.1.2, hk.2⟩⟩, hk.1.2⟩)) hg hat); replace HO188 := Z0 (Kd.R_after (ok := (fun k_ => some k_ ≠ (.slice Ao18 t172.length co18 : Value).ownBlock ∧ some k_ ≠ (.slice Ao22 t179.length co22 : Value).ownBlock ∧ some k_ ≠ (.slice Ao32 y192.length co32 : Value).ownBlock)) (by (with_reducible repeat (first | apply Kd.R_alloc | apply Kd.R_drewN | apply Kd.R_drew)); exact Kd.R_mono HO188.out (fun _ hk => ⟨⟨hk.1.1.1, ⟨hk.1.1.2, hk.2⟩⟩, hk.1.2⟩)) hg hat); replace HO194 := Z0 (Kd.R_after (ok := (fun k_ => some k_ ≠ (.slice Ao18 t172.length co18 : Value).ownBlock ∧ some k_ ≠ (.slice Ao22 t179.length co22 : Value).ownBlock ∧ some k_ ≠ (.slice Ao27 t186.length co27 : Value).ownBlock)) (by (with_reducible repeat (first | apply Kd.R_alloc | apply Kd.R_drewN | apply Kd.R_drew)); exact Kd.R_mono HO194.out (fun _ hk => ⟨⟨hk.1.1.1.2, ⟨hk.1.1.2, hk.1.2⟩⟩, hk.2⟩)) hg hat); replace HB := Z0 hb; have HO197 := Z0 (ho); clear HO191; clear ho hb hg hat; obtain ⟨hcz33_0, hcz33_1, hcz33_2⟩ := bc3 BK168.out; obtain ⟨hfz33_0, hfz33_1, hfz33_2⟩ := bf3 BK168.out))
 go_loopg [3, 39] k (fun kq v3 v39 w' => ∃ (x3_1 : List Int) (x39_1 : Int), v39 = .int .i64 x39_1 ∧ Aside0 (table_header.l0 kq x3_1 l0_1 (l0_1.length : Int) x39_1 = some r) ∧ Aside0 (kq ≤ k) ∧ Aside0 (Kd.R (Kd.int .u8) 5 w' w.heap.size (fun _ => True) v3 x3_1) ∧ Aside0 (w'.heap[gb168]? = some (.cells #[.int .i64 a0_0, (.slice A0_1 l0_1.length c0_1), (.slice A0_2 l0_2.length c0_2)] 35 (0, 0))) ∧ Aside0 (Below w.heap.size w w'))
 case atStart => exact ⟨(y195), (0), V2, H', ⟨Nat.le_refl _⟩, ⟨by (with_reducible repeat (first | apply Kd.R_alloc | apply Kd.R_drewN | apply Kd.R_drew)); exact Kd.R_mono HO197.out (fun _ hk => trivial)⟩, ⟨kb BK168.out⟩, ⟨V0⟩⟩
 case round =>
  clear H'
  obtain ⟨x3_1, x39_1, rfl, HA, HK1, HO_3, BK168, HB⟩ := hrel
  cases gk with
  | zero => exact absurd HA.out (by simp [table_header.l0])
  | succ k1 =>
   have H := HA.out
   clear HA
   simp only [table_header.l0] at H
   by_cases c34 : x39_1 < (l0_1.length : Int)
   rotate_left
   ·rw [if_neg c34] at H
    have c34b0 : decide (x39_1 < (l0_1.length : Int)) = false := decide_eq_false c34
    clear c34
    by_cases c45 : x3_1.length < 140737488355328
    rotate_left
    ·rw [if_neg c45] at H
     exact absurd H (by simp)
    rw [if_pos c45] at H
    have LMc45 := Z0 c45
    clear c45
    obtain ⟨y206, hy206⟩ : ∃ y_ : List Int, y_ = (x3_1 ++ [13]) := ⟨_, rfl⟩
    replace H : (some y206) = some r := by rw [hy206]; exact H
    have Ny206 := Z0 hy206
    clear hy206
    obtain rfl := Option.some.inj H
    go_wp2_with (first | ((with_reducible refine gate_builtin (b := .append) (xs := #[.tmp 64, .tmp 65]) rfl ?_); at_builtin; refine Kd.R_append (Kd.int .u8) (w0 := w) w.heap.size rfl (.tmp 64) (.tmp 65) 37 5 (.int .u8 0) 1 rfl Tryz.underlying37 info5 rfl (by decide) (by omega) u3 x3_1 13 [.int .u8 13] (fun _ => True) (fun _ => False) rfl rfl ?aP (fun _ hk => hk.elim) ?aF ?aO ?aB ?aS ?aL ?_; (case aP => exact rfl); (case aB => exact V0); (case aF => exact (fun _ _ => trivial)); (case aO => exact (by (with_reducible repeat (first | apply Kd.R_alloc | apply Kd.R_drewN | apply Kd.R_drew)); exact HO_3.out)); (case aS => exact (below_size V0)); (case aL => have := LMc45.out; omega); intro v207 w46 ho hb hg hat; rw [← Ny206.out] at ho; replace BK168 := Z0 (blk_grown (g := gb168) (o := .cells #[.int .i64 a0_0, .slice A0_1 l0_1.length c0_1, .slice A0_2 l0_2.length c0_2] 35 (0, 0)) (kb BK168.out) hg (Kd.R_ne HO_3.out BK168.out (by decide))); replace HB := Z0 hb; have HO208 := Z0 (ho); clear HO_3; clear ho hb hg hat))
    go_ret
    exact ⟨_, rfl, by (with_reducible repeat (first | apply Kd.R_alloc | apply Kd.R_drewN | apply Kd.R_drew)); exact HO208.out, V0⟩
   rw [if_pos c34] at H
   have c34b0 : decide (x39_1 < (l0_1.length : Int)) = true := decide_eq_true c34
   clear c34
   by_cases c35 : 0 ≤ x39_1
   rotate_left
   ·rw [if_neg c35] at H
    exact absurd H (by simp)
   rw [if_pos c35] at H
   have c35b0 : decide (0 ≤ x39_1) = true := decide_eq_true c35
   clear c35
   by_cases c36 : x39_1 < (l0_1.length : Int)
   rotate_left
   ·rw [if_neg c36] at H
    exact absurd H (by simp)
   rw [if_pos c36] at H
   have c36b0 : decide (x39_1 < (l0_1.length : Int)) = true := decide_eq_true c36
   clear c36
   replace H := Option.bind_eq_some_iff.mp H
   obtain ⟨t200, A370, H⟩ := H
   replace H : (if x3_1.length + t200.length < 140737488355328 then (table_header.l0 k1 (x3_1 ++ t200) l0_1 (l0_1.length : Int) (wrap64 (x39_1 + 1))) else (none)) = some r := H
   have A37 := Z0 A370
   clear A370
   by_cases c38 : x3_1.length + t200.length < 140737488355328
   rotate_left
   ·rw [if_neg c38] at H
    exact absurd H (by simp)
   rw [if_pos c38] at H
   have LMc38 := Z0 c38
   clear c38
   obtain ⟨y203, hy203⟩ : ∃ y_ : List Int, y_ = (x3_1 ++ t200) := ⟨_, rfl⟩
   replace H : (table_header.l0 k1 y203 l0_1 (l0_1.length : Int) (wrap64 (x39_1 + 1))) = some r := by rw [hy203]; exact H
   have Ny203 := Z0 hy203
   clear hy203
   have H' := Z0 H
   clear H
   have p198 : 0 ≤ (x39_1 : Int) := of_decide_eq_true V3
   have q198 : x39_1 < (l0_1.length : Int) := of_decide_eq_true V3
   obtain ⟨ad198, e198, hx198_0, hx198_1, hx198_2, hx198_3⟩ := at_T23 HR0_1.out x39_1 p198 q198
   cases e198
   replace hx198_0 := hz HB.out hx198_0
   replace hx198_1 := hz HB.out hx198_1
   replace hx198_2 := hz HB.out hx198_2
   replace hx198_3 := hz HB.out hx198_3
   replace p198 := eq_true p198
   replace q198 := eq_true q198
   obtain ⟨hs10, htl, htd⟩ := descO_some A37.out
   have HS10 := Z0 hs10
   have HTL := Z0 htl
   have HTD := Z0 htd
   clear hs10 htl htd
   go_wp2_with (first | ((with_reducible refine Z9 (N := 5) rfl ?_); refine bx (N := 5) (cs := #[.string (⟨#[]⟩ : ByteArray), .int .i64 0, .int .i64 0, .bool false]) (t := 23) ?_; intro gb199 hg w39 hbox hb; replace HO_3 := Z0 (Kd.R_below (by (with_reducible repeat (first | apply Kd.R_alloc | apply Kd.R_drewN | apply Kd.R_drew)); exact HO_3.out) hb); have BK199 := Z0 hbox; have GE199 := ge hg V0; replace HB := Z0 (Z1 V0 hb); obtain ⟨NB168_185, NB199_154⟩ := nb (g := gb168) (o := .cells #[.int .i64 a0_0, .slice (some ad198) l0_1.length c0_1, .slice A0_2 l0_2.length c0_2] 35 (0, 0)) hg (kb BK168.out); replace BK168 := Z0 (Z2 (g := gb168) (o := .cells #[.int .i64 a0_0, .slice (some ad198) l0_1.length c0_1, .slice A0_2 l0_2.length c0_2] 35 (0, 0)) (kb BK168.out) hb); clear hb hbox hg; have hnb40 := NB199_154.out; have hnc40 := NB168_185.out; obtain ⟨hcz41_0, hcz41_1, hcz41_2, hcz41_3⟩ := bc4 BK199.out; obtain ⟨hfz41_0, hfz41_1, hfz41_2, hfz41_3⟩ := bf4 BK199.out) | ((with_reducible refine Z9 (N := 6) rfl ?_); refine bx (N := 6) (cs := #[.int .u8 0, .int .u8 0, .int .u8 0, .int .u8 0, .int .u8 0, .int .u8 0, .int .u8 0, .int .u8 0, .int .u8 0, .int .u8 0, .int .u8 0, .int .u8 0, .int .u8 0, .int .u8 0, .int .u8 0, .int .u8 0]) (t := 123) ?_; intro g6 hg w6 hbox hb; replace HO_3 := Z0 (Kd.R_below (by (with_reducible repeat (first | apply Kd.R_alloc | apply Kd.R_drewN | apply Kd.R_drew)); exact (Kd.R_mono (Kd.R_far (p := ⟨gb199, 3, none⟩) (Kd.R_far (p := ⟨gb199, 2, none⟩) (Kd.R_far (p := ⟨gb199, 1, none⟩) (Kd.R_far (p := ⟨gb199, 0, none⟩) (Kd.R_types HO_3.out BK199.out (by decide)) (fun _ hk => hk.2) (.string ((rd_T23 l0_1 x39_1).f0))) (fun _ hk => hk.2) (.int .i64 ((rd_T23 l0_1 x39_1).f1))) (fun _ hk => hk.2) (.int .i64 ((rd_T23 l0_1 x39_1).f2))) (fun _ hk => hk.2) (.bool ((rd_T23 l0_1 x39_1).f3))) (fun _ h_ => h_.1))) hb); have N168_6 := Z0 ((by rw [hg]; exact Nat.ne_of_lt (blk_lt (g := gb168) (o := .cells #[.int .i64 a0_0, .slice (some ad198) l0_1.length c0_1, .slice A0_2 l0_2.length c0_2] 35 (0, 0)) (by (with_reducible repeat (first | refine Y6 ?_ _ | refine Y5 ?_ | refine Y7 ?_ _)); refine blk_far ?_ NB168_185.out _; (with_reducible repeat (first | refine Y6 ?_ _ | refine Y5 ?_ | refine Y7 ?_ _)); refine blk_far ?_ NB168_185.out _; (with_reducible repeat (first | refine Y6 ?_ _ | refine Y5 ?_ | refine Y7 ?_ _)); refine blk_far ?_ NB168_185.out _; (with_reducible repeat (first | refine Y6 ?_ _ | refine Y5 ?_ | refine Y7 ?_ _)); refine blk_far ?_ NB168_185.out _; (with_reducible repeat (first | refine Y6 ?_ _ | refine Y5 ?_ | refine Y7 ?_ _)); exact BK168.out))) : gb168 ≠ g6); replace BK168 := Z0 (Z2 (g := gb168) (o := .cells #[.int .i64 a0_0, .slice (some ad198) l0_1.length c0_1, .slice A0_2 l0_2.length c0_2] 35 (0, 0)) (by (with_reducible repeat (first | refine Y6 ?_ _ | refine Y5 ?_ | refine Y7 ?_ _)); refine blk_far ?_ NB168_185.out _; (with_reducible repeat (first | refine Y6 ?_ _ | refine Y5 ?_ | refine Y7 ?_ _)); refine blk_far ?_ NB168_185.out _; (with_reducible repeat (first | refine Y6 ?_ _ | refine Y5 ?_ | refine Y7 ?_ _)); refine blk_far ?_ NB168_185.out _; (with_reducible repeat (first | refine Y6 ?_ _ | refine Y5 ?_ | refine Y7 ?_ _)); refine blk_far ?_ NB168_185.out _; (with_reducible repeat (first | refine Y6 ?_ _ | refine Y5 ?_ | refine Y7 ?_ _)); exact BK168.out) hb); have N199_6 := Z0 ((by rw [hg]; exact Nat.ne_of_lt (blk_lt (g := gb199) (o := .cells #[.string ((rd_T23 l0_1 x39_1).f0), .int .i64 ((rd_T23 l0_1 x39_1).f1), .int .i64 ((rd_T23 l0_1 x39_1).f2), .bool ((rd_T23 l0_1 x39_1).f3)] 23 (0, 0)) (by (with_reducible repeat (first | refine Y6 ?_ _ | refine Y5 ?_ | refine Y7 ?_ _)); refine blk_put (cs := #[.string ((rd_T23 l0_1 x39_1).f0), .int .i64 ((rd_T23 l0_1 x39_1).f1), .int .i64 ((rd_T23 l0_1 x39_1).f2), .bool false]) ?_ 3 _ rfl; (with_reducible repeat (first | refine Y6 ?_ _ | refine Y5 ?_ | refine Y7 ?_ _)); refine blk_put (cs := #[.string ((rd_T23 l0_1 x39_1).f0), .int .i64 ((rd_T23 l0_1 x39_1).f1), .int .i64 0, .bool false]) ?_ 2 _ rfl; (with_reducible repeat (first | refine Y6 ?_ _ | refine Y5 ?_ | refine Y7 ?_ _)); refine blk_put (cs := #[.string ((rd_T23 l0_1 x39_1).f0), .int .i64 0, .int .i64 0, .bool false]) ?_ 1 _ rfl; (with_reducible repeat (first | refine Y6 ?_ _ | refine Y5 ?_ | refine Y7 ?_ _)); refine blk_put (cs := #[.string (⟨#[]⟩ : ByteArray), .int .i64 0, .int .i64 0, .bool false]) ?_ 0 _ rfl; (with_reducible repeat (first | refine Y6 ?_ _ | refine Y5 ?_ | refine Y7 ?_ _)); exact BK199.out))) : gb199 ≠ g6); replace BK199 := Z0 (Z2 (g := gb199) (o := .cells #[.string ((rd_T23 l0_1 x39_1).f0), .int .i64 ((rd_T23 l0_1 x39_1).f1), .int .i64 ((rd_T23 l0_1 x39_1).f2), .bool ((rd_T23 l0_1 x39_1).f3)] 23 (0, 0)) (by (with_reducible repeat (first | refine Y6 ?_ _ | refine Y5 ?_ | refine Y7 ?_ _)); refine blk_put (cs := #[.string ((rd_T23 l0_1 x39_1).f0), .int .i64 ((rd_T23 l0_1 x39_1).f1), .int .i64 ((rd_T23 l0_1 x39_1).f2), .bool false]) ?_ 3 _ rfl; (with_reducible repeat (first | refine Y6 ?_ _ | refine Y5 ?_ | refine Y7 ?_ _)); refine blk_put (cs := #[.string ((rd_T23 l0_1 x39_1).f0), .int .i64 ((rd_T23 l0_1 x39_1).f1), .int .i64 0, .bool false]) ?_ 2 _ rfl; (with_reducible repeat (first | refine Y6 ?_ _ | refine Y5 ?_ | refine Y7 ?_ _)); refine blk_put (cs := #[.string ((rd_T23 l0_1 x39_1).f0), .int .i64 0, .int .i64 0, .bool false]) ?_ 1 _ rfl; (with_reducible repeat (first | refine Y6 ?_ _ | refine Y5 ?_ | refine Y7 ?_ _)); refine blk_put (cs := #[.string (⟨#[]⟩ : ByteArray), .int .i64 0, .int .i64 0, .bool false]) ?_ 0 _ rfl; (with_reducible repeat (first | refine Y6 ?_ _ | refine Y5 ?_ | refine Y7 ?_ _)); exact BK199.out) hb); have GE6 := Z0 ((by rw [hg]; exact below_size V0) : w.heap.size ≤ g6); replace HB := Z0 (Z1 V0 hb); have BK6 := Z0 hbox; clear hb hbox hg))
   have nO := Z0 (Kd.R_drew HO_3.out)
   have n1 := Z0 (Y5 BK168.out)
   have n2 := Z0 (Y5 BK199.out)
   have n3 := Z0 (Y5 BK6.out)
   have nB := Z0 (below_drew1 HB.out)
   clear HO_3 BK168 BK199 BK6 HB
   have HO_3 := nO
   have BK168 := n1
   have BK199 := n2
   have BK6 := n3
   have HB := nB
   clear nO n1 n2 n3 nB
   refine start_ (n := 4) (S := fun w' => w'.heap[gb199]? = some (.cells #[.string ((rd_T23 l0_1 x39_1).f0), .int .i64 ((rd_T23 l0_1 x39_1).f1), .int .i64 ((rd_T23 l0_1 x39_1).f2), .bool ((rd_T23 l0_1 x39_1).f3)] 23 (0, 0))) (ds := []) #[false, false, false, false] (by kernel_rfl) rfl rfl BK199.out (fun hHeld => ?_)
   refine with_tab hd_tab9 (fun HT_ => ?_)
   generalize w6.drew = w7 at HO_3 BK168 BK199 BK6 HB hHeld ⊢
   refine pz 0 43 #[true, false, false, false] HT_ ?_
   refine pz 1 44 #[true, true, false, false] HT_ ?_
   refine take_ (i := 2) (N := some 45) (v := ?_) (a' := ?_) #[true, true, true, false] rfl rfl (take_of HT_.out (by kernel_rfl)) (fun _ _ _ h => h) (Or.inl ⟨by rfl, ?_⟩) hHeld ?_ ?_
   rotate_left
   ·rintro w' s0
    have sc := (Z4 s0 0).trans rfl
    go_simp
    with_reducible rfl
   rotate_left
   ·simp only [Act.put, Z3, Z6, Z7, i64_w, i32_w]
    rfl
   refine one_ (i := 3) (N := some 46) #[true, true, true, true] rfl rfl (one_of HT_.out (by kernel_rfl)) (by decide) (fun K hK => ?_)
   have hcp := copy_arr w7 g6 (rd_T23 l0_1 x39_1).f0 BK6.out HS10.out
   refine event_step (v := .int .i64 (rd_T23 l0_1 x39_1).f0.size) (w1 := w7.setRow g6 (u8s (nameL (rd_T23 l0_1 x39_1).f0 ++ [0, 0, 0, 0, 0, 0]))) rfl (by first | (go_simp; done) | (go_simp; exact ⟨rfl, rfl⟩)) ?_
   clear hcp
   have nO := Z0 (rowset_R HO_3.out BK6.out (u8s (nameL (rd_T23 l0_1 x39_1).f0 ++ [0, 0, 0, 0, 0, 0])) (by decide))
   have n1 := Z0 (rowset_far BK168.out N168_6.out (u8s (nameL (rd_T23 l0_1 x39_1).f0 ++ [0, 0, 0, 0, 0, 0])))
   have n2 := Z0 (rowset_far BK199.out N199_6.out (u8s (nameL (rd_T23 l0_1 x39_1).f0 ++ [0, 0, 0, 0, 0, 0])))
   have n3 := Z0 (setRow_heap w7 g6 _ (u8s (nameL (rd_T23 l0_1 x39_1).f0 ++ [0, 0, 0, 0, 0, 0])) 123 _ BK6.out)
   have nB := Z0 (below_setRow HB.out GE6.out (u8s (nameL (rd_T23 l0_1 x39_1).f0 ++ [0, 0, 0, 0, 0, 0])))
   clear HO_3 BK168 BK199 BK6 HB
   have HO_3 := nO
   have BK168 := n1
   have BK199 := n2
   have BK6 := n3
   have HB := nB
   clear nO n1 n2 n3 nB
   generalize w7.setRow g6 (u8s (nameL (rd_T23 l0_1 x39_1).f0 ++ [0, 0, 0, 0, 0, 0])) = w8 at HO_3 BK168 BK199 BK6 HB ⊢
   refine hK.out _ _ BK199.out (fun hHeld => ?_)
   clear hK K
   refine norm_ (a' := ?_) ?_ ?_
   rotate_left
   ·show Act.put _ (some 46) _ = _
    simp only [Act.put, Z3, Z6, Z7, i64_w, i32_w]
    rfl
   refine done_ (done_of HT_.out (by kernel_rfl)) ?_
   clear hHeld HT_
   go_wp2
   obtain ⟨kf1, kf2, hkv⟩ := kindVal_letter (rd_T23 l0_1 x39_1).f1
   have HKV := Z0 hkv
   clear hkv
   have hfl : ∀ (a b c d e : Value) (W : World), (Instr.field 102 (.agg #[a, b, c, d, e]) 0).run Tryz.prog W = .ok a W := fun _ _ _ _ _ _ => by kernel_rfl
   have nO := Z0 (Kd.R_drew HO_3.out)
   have n1 := Z0 (Y5 BK168.out)
   have n2 := Z0 (Y5 BK199.out)
   have n3 := Z0 (Y5 BK6.out)
   have nB := Z0 (below_drew1 HB.out)
   clear HO_3 BK168 BK199 BK6 HB
   have HO_3 := nO
   have BK168 := n1
   have BK199 := n2
   have BK6 := n3
   have HB := nB
   clear nO n1 n2 n3 nB
   refine start_ (n := 12) (S := fun w' => w'.heap[gb199]? = some (.cells #[.string ((rd_T23 l0_1 x39_1).f0), .int .i64 ((rd_T23 l0_1 x39_1).f1), .int .i64 ((rd_T23 l0_1 x39_1).f2), .bool ((rd_T23 l0_1 x39_1).f3)] 23 (0, 0))) (ds := []) (bs 12 0) (by kernel_rfl) rfl rfl BK199.out (fun hHeld => ?_)
   refine with_tab hd_tab10 (fun HT_ => ?_)
   generalize w8.drew = w9 at HO_3 BK168 BK199 BK6 HB hHeld ⊢
   refine pz 1 48 (bs 12 2) HT_ ?_
   refine take_ (i := 2) (N := some 49) (v := ?_) (a' := ?_) (bs 12 6) rfl rfl (take_of HT_.out (by kernel_rfl)) (fun _ _ _ h => h) (Or.inl ⟨by rfl, ?_⟩) hHeld ?_ ?_
   rotate_left
   ·rintro w' s0
    have sc := (Z4 s0 1).trans rfl
    go_simp
    with_reducible rfl
   rotate_left
   ·simp only [Act.put, Z3, Z6, Z7, i64_w, i32_w]
    rfl
   refine pz 5 52 (bs 12 38) HT_ ?_
   refine take_ (i := 6) (N := some 53) (v := ?_) (a' := ?_) (bs 12 102) rfl rfl (take_of HT_.out (by kernel_rfl)) (fun _ _ _ h => h) (Or.inl ⟨by rfl, ?_⟩) hHeld ?_ ?_
   rotate_left
   ·rintro w' s0
    have sc := (Z4 s0 2).trans rfl
    go_simp
    with_reducible rfl
   rotate_left
   ·simp only [Act.put, Z3, Z6, Z7, i64_w, i32_w]
    rfl
   refine pz 7 54 (bs 12 230) HT_ ?_
   refine one_ (i := 0) (N := some 47) (bs 12 231) rfl rfl (one_of HT_.out (by kernel_rfl)) (by decide) (fun K hK => ?_)
   refine goes_ Tryz.func89 (by kernel_rfl) rfl #[] (by rfl) rfl rfl V1 ?_
   refine (table_kinds w9).mono ?_
   rintro e w10 ⟨rk, rfl, hkb, hb⟩
   refine ⟨_, rfl, ?_⟩
   have HKB := Z0 hkb
   clear hkb
   have nO := Z0 (Kd.R_below HO_3.out hb)
   have n1 := Z0 (Z2 BK168.out hb)
   have n2 := Z0 (Z2 BK199.out hb)
   have n3 := Z0 (Z2 BK6.out hb)
   have nB := Z0 (Z1 HB.out hb)
   clear HO_3 BK168 BK199 BK6 HB
   have HO_3 := nO
   have BK168 := n1
   have BK199 := n2
   have BK6 := n3
   have HB := nB
   clear nO n1 n2 n3 nB
   clear hb
   refine hK.out _ _ BK199.out (fun hHeld => ?_)
   clear hK K
   refine norm_ (a' := ?_) ?_ ?_
   rotate_left
   ·show Act.put _ (some 47) _ = _
    simp only [Act.put, Z3, Z6, Z7, i64_w, i32_w]
    rfl
   refine one_ (i := 3) (N := some 50) (bs 12 239) rfl rfl (one_of HT_.out (by kernel_rfl)) (by decide) (fun K hK => ?_)
   have hlk := run_look' w10 rk HKB.out _ _ HKV.out
   refine event_step (v := .agg #[.int .u8 (kindLetter (rd_T23 l0_1 x39_1).f1), .int .i64 (kindLo (rd_T23 l0_1 x39_1).f1), .int .i64 (kindHi (rd_T23 l0_1 x39_1).f1), kf1, kf2]) (w1 := w10) rfl (by first | (go_simp; done) | (go_simp; rfl) | (go_simp; exact ⟨rfl, rfl⟩)) ?_
   refine hK.out _ _ BK199.out (fun hHeld => ?_)
   clear hK K
   refine norm_ (a' := ?_) ?_ ?_
   rotate_left
   ·show Act.put _ (some 50) _ = _
    simp only [Act.put, Z3, Z6, Z7, i64_w, i32_w]
    rfl
   clear hlk
   refine one_ (i := 4) (N := some 51) (bs 12 255) rfl rfl (one_of HT_.out (by kernel_rfl)) (by decide) (fun K hK => ?_)
   refine event_step (v := .int .u8 (kindLetter (rd_T23 l0_1 x39_1).f1)) (w1 := w10) rfl (by first | (go_simp; done) | (go_simp; rfl) | (go_simp; exact ⟨rfl, rfl⟩)) ?_
   refine hK.out _ _ BK199.out (fun hHeld => ?_)
   clear hK K
   refine norm_ (a' := ?_) ?_ ?_
   rotate_left
   ·show Act.put _ (some 51) _ = _
    simp only [Act.put, Z3, Z6, Z7, i64_w, i32_w]
    rfl
   refine one_ (i := 8) (N := some 55) (bs 12 511) rfl rfl (one_of HT_.out (by kernel_rfl)) (by decide) (fun K hK => ?_)
   refine event_step (v := .pointer (some ⟨g6, 10, none⟩)) (w1 := w10) rfl (by first | (go_simp; done) | (go_simp; rfl) | (go_simp; exact ⟨rfl, rfl⟩)) ?_
   refine hK.out _ _ BK199.out (fun hHeld => ?_)
   clear hK K
   refine norm_ (a' := ?_) ?_ ?_
   rotate_left
   ·show Act.put _ (some 55) _ = _
    simp only [Act.put, Z3, Z6, Z7, i64_w, i32_w]
    rfl
   have HN10 := Z0 (nameL_len HS10.out)
   refine one_ (i := 9) (N := none) (bs 12 1023) rfl rfl (one_of HT_.out (by kernel_rfl)) (by decide) (fun K hK => ?_)
   have hcc : ∃ x, w10.cell? ⟨g6, 10, none⟩ = some x := ⟨_, (Z4 BK6.out 10).trans (u8s_some (by rw [List.length_append, HN10.out]; simp))⟩
   obtain ⟨x0, hcc⟩ := hcc
   have hff := Z8 BK6.out 10
   refine skip_event (w1 := w10.setCell ⟨g6, 10, none⟩ (.int .u8 (kindLetter (rd_T23 l0_1 x39_1).f1))) rfl (by rfl) (by first | (go_simp; done) | (go_simp; rfl) | (go_simp; exact ⟨rfl, rfl⟩)) ?_
   clear hcc hff
   have nO := Z0 (cellset_R (j := 10) (u := .int .u8 (kindLetter (rd_T23 l0_1 x39_1).f1)) HO_3.out BK6.out (by decide))
   have n1 := Z0 (blk_far BK168.out (p := ⟨g6, 10, none⟩) N168_6.out (.int .u8 (kindLetter (rd_T23 l0_1 x39_1).f1)))
   have n2 := Z0 (blk_far BK199.out (p := ⟨g6, 10, none⟩) N199_6.out (.int .u8 (kindLetter (rd_T23 l0_1 x39_1).f1)))
   have n3 := Z0 (blk_put BK6.out 10 (.int .u8 (kindLetter (rd_T23 l0_1 x39_1).f1)) ((set16 _ HN10.out 0 0 0 0 0 0 _).1))
   have nB := Z0 (below_set (j := 10) (v := .int .u8 (kindLetter (rd_T23 l0_1 x39_1).f1)) HB.out GE6.out)
   clear HO_3 BK168 BK199 BK6 HB
   have HO_3 := nO
   have BK168 := n1
   have BK199 := n2
   have BK6 := n3
   have HB := nB
   clear nO n1 n2 n3 nB
   generalize w10.setCell ⟨g6, 10, none⟩ (.int .u8 (kindLetter (rd_T23 l0_1 x39_1).f1)) = w11 at HO_3 BK168 BK199 BK6 HB ⊢
   refine hK.out _ _ BK199.out (fun hHeld => ?_)
   clear hK K
   refine one_ (i := 10) (N := some 56) (bs 12 2047) rfl rfl (one_of HT_.out (by kernel_rfl)) (by decide) (fun K hK => ?_)
   refine event_step (v := .pointer (some ⟨g6, 11, none⟩)) (w1 := w11) rfl (by first | (go_simp; done) | (go_simp; rfl) | (go_simp; exact ⟨rfl, rfl⟩)) ?_
   refine hK.out _ _ BK199.out (fun hHeld => ?_)
   clear hK K
   refine norm_ (a' := ?_) ?_ ?_
   rotate_left
   ·show Act.put _ (some 56) _ = _
    simp only [Act.put, Z3, Z6, Z7, i64_w, i32_w]
    rfl
   refine one_ (i := 11) (N := none) (bs 12 4095) rfl rfl (one_of HT_.out (by kernel_rfl)) (by decide) (fun K hK => ?_)
   have hcc : ∃ x, w11.cell? ⟨g6, 11, none⟩ = some x := ⟨_, (Z4 BK6.out 11).trans (u8s_some (by rw [List.length_append, HN10.out]; simp))⟩
   obtain ⟨x0, hcc⟩ := hcc
   have hff := Z8 BK6.out 11
   refine skip_event (w1 := w11.setCell ⟨g6, 11, none⟩ (.int .u8 ((rd_T23 l0_1 x39_1).f2 % 256))) rfl (by rfl) (by first | (go_simp; done) | (go_simp; rfl) | (go_simp; exact ⟨rfl, rfl⟩)) ?_
   clear hcc hff
   have nO := Z0 (cellset_R (j := 11) (u := .int .u8 ((rd_T23 l0_1 x39_1).f2 % 256)) HO_3.out BK6.out (by decide))
   have n1 := Z0 (blk_far BK168.out (p := ⟨g6, 11, none⟩) N168_6.out (.int .u8 ((rd_T23 l0_1 x39_1).f2 % 256)))
   have n2 := Z0 (blk_far BK199.out (p := ⟨g6, 11, none⟩) N199_6.out (.int .u8 ((rd_T23 l0_1 x39_1).f2 % 256)))
   have n3 := Z0 (blk_put BK6.out 11 (.int .u8 ((rd_T23 l0_1 x39_1).f2 % 256)) ((set16 _ HN10.out _ 0 0 0 0 0 _).2.1))
   have nB := Z0 (below_set (j := 11) (v := .int .u8 ((rd_T23 l0_1 x39_1).f2 % 256)) HB.out GE6.out)
   clear HO_3 BK168 BK199 BK6 HB
   have HO_3 := nO
   have BK168 := n1
   have BK199 := n2
   have BK6 := n3
   have HB := nB
   clear nO n1 n2 n3 nB
   generalize w11.setCell ⟨g6, 11, none⟩ (.int .u8 ((rd_T23 l0_1 x39_1).f2 % 256)) = w12 at HO_3 BK168 BK199 BK6 HB ⊢
   refine hK.out _ _ BK199.out (fun hHeld => ?_)
   clear hK K
   refine done_ (done_of HT_.out (by kernel_rfl)) ?_
   clear hHeld HT_ hfl HKV HKB
   have k3 : w12.cell? ⟨gb199, 3, none⟩ = some (.bool (rd_T23 l0_1 x39_1).f3) := (Z4 BK199.out 3).trans rfl
   have hcc : ∃ x, w12.cell? ⟨g6, 12, none⟩ = some x := ⟨_, (Z4 BK6.out 12).trans (u8s_some (by rw [List.length_append, HN10.out]; simp))⟩
   obtain ⟨x0, hcc⟩ := hcc
   have hff := Z8 BK6.out 12
   by_cases hnl : (rd_T23 l0_1 x39_1).f3 = true
   rotate_left
   ·replace hnl := Bool.eq_false_iff.2 hnl
    have HTD' : Aside0 (t200 = nameL (rd_T23 l0_1 x39_1).f0 ++ [kindLetter (rd_T23 l0_1 x39_1).f1, (rd_T23 l0_1 x39_1).f2 % 256, 0, 0, 0, 0]) := ⟨by rw [HTD.out]; unfold descL; rw [hnl]; rfl⟩
    go_wp2_with (first | ((with_reducible refine gate_builtin (b := .append) (xs := #[.tmp 60, .tmp 61]) rfl ?_); at_builtin; refine Kd.R_append_rows (Kd.int .u8) (w0 := w) w.heap.size rfl (.tmp 60) (.tmp 61) 37 5 (.int .u8 0) 1 rfl Tryz.underlying37 info5 rfl (by decide) (by omega) u3 x3_1 t200 _ _ _ (fun _ => True) (fun _ => False) rfl rfl ?aO ?aR (fun _ _ h => h) (fun _ h => h.elim) ?aF ?aB ?aS ?aL ?_; (case aR => exact hd_C (BK6.out) HTD'.out HTL.out); (case aB => exact HB.out); (case aF => exact (fun _ _ => trivial)); (case aO => exact (HO_3.out)); (case aS => exact (below_size HB.out)); (case aL => have := LMc38.out; have := HTL.out; omega); intro v204 w43 ho hb hg hat; rw [← Ny203.out] at ho; replace BK168 := Z0 (blk_grown (g := gb168) (o := .cells #[.int .i64 a0_0, .slice (some ad198) l0_1.length c0_1, .slice A0_2 l0_2.length c0_2] 35 (0, 0)) (BK168.out) hg (Kd.R_ne (HO_3.out) (BK168.out) (by decide))); replace HB := Z0 hb; have HO205 := Z0 (ho); clear HO_3; clear ho hb hg hat))
    go_roundg k1
    case measure => have := HK1.out; omega
    case rel => exact ⟨(y203), (wrap64 (x39_1 + 1)), V2, H', ⟨by have := HK1.out; omega⟩, ⟨by (with_reducible repeat (first | apply Kd.R_alloc | apply Kd.R_drewN | apply Kd.R_drew)); exact Kd.R_mono HO205.out (fun _ hk => trivial)⟩, ⟨kb BK168.out⟩, ⟨V0⟩⟩
   have HTD' : Aside0 (t200 = nameL (rd_T23 l0_1 x39_1).f0 ++ [kindLetter (rd_T23 l0_1 x39_1).f1, (rd_T23 l0_1 x39_1).f2 % 256, 1, 0, 0, 0]) := ⟨by rw [HTD.out]; unfold descL; rw [hnl]; rfl⟩
   go_wp2_with (first | ((with_reducible refine gate_builtin (b := .append) (xs := #[.tmp 60, .tmp 61]) rfl ?_); at_builtin; refine Kd.R_append_rows (Kd.int .u8) (w0 := w) w.heap.size rfl (.tmp 60) (.tmp 61) 37 5 (.int .u8 0) 1 rfl Tryz.underlying37 info5 rfl (by decide) (by omega) u3 x3_1 t200 _ _ _ (fun _ => True) (fun _ => False) rfl rfl ?aO ?aR (fun _ _ h => h) (fun _ h => h.elim) ?aF ?aB ?aS ?aL ?_; (case aR => exact hd_C (blk_put BK6.out 12 (.int .u8 1) (set16 _ HN10.out _ _ 0 0 0 0 _).2.2) HTD'.out HTL.out); (case aB => exact (below_set (j := 12) (v := .int .u8 1) HB.out GE6.out)); (case aF => exact (fun _ _ => trivial)); (case aO => exact (cellset_R (j := 12) (u := .int .u8 1) HO_3.out BK6.out (by decide))); (case aS => exact (below_size (below_set (j := 12) (v := .int .u8 1) HB.out GE6.out))); (case aL => have := LMc38.out; have := HTL.out; omega); intro v204 w43 ho hb hg hat; rw [← Ny203.out] at ho; replace BK168 := Z0 (blk_grown (g := gb168) (o := .cells #[.int .i64 a0_0, .slice (some ad198) l0_1.length c0_1, .slice A0_2 l0_2.length c0_2] 35 (0, 0)) (blk_far BK168.out (p := ⟨g6, 12, none⟩) N168_6.out (.int .u8 1)) hg (Kd.R_ne (cellset_R (j := 12) (u := .int .u8 1) HO_3.out BK6.out (by decide)) (blk_far BK168.out (p := ⟨g6, 12, none⟩) N168_6.out (.int .u8 1)) (by decide))); replace HB := Z0 hb; have HO205 := Z0 (ho); clear HO_3; clear ho hb hg hat))
   go_roundg k1
   case measure => have := HK1.out; omega
   case rel => exact ⟨(y203), (wrap64 (x39_1 + 1)), V2, H', ⟨by have := HK1.out; omega⟩, ⟨by (with_reducible repeat (first | apply Kd.R_alloc | apply Kd.R_drewN | apply Kd.R_drew)); exact Kd.R_mono HO205.out (fun _ hk => trivial)⟩, ⟨kb BK168.out⟩, ⟨V0⟩⟩
end
theorem nameL_len10 (s : ByteArray) (h : s.size ≤ 10) : (nameL s).length = 10 := by
 have := bytesI_len s
 unfold bytesI at this
 unfold nameL
 rw [List.length_append, List.length_replicate, this]
 omega
theorem ref_name (x3 : List Int) (x4 p : Int) (fs : List S23) (rs : List S46) (f : S23) (hs : f.f0.size ≤ 10) : ∀ (n j k : Nat), f.f0.size + j + n = 10 → n + 1 < k →
  ∃ k', k ≤ k' + n + 1 ∧ cabinetryref03_header.l1 k x3 x4 (bytesI f.f0 ++ List.replicate j 0) p fs rs f.f0 f.f1 f.f2 f.f3 = cabinetryref03_header.j2 k' x3 x4 (nameL f.f0) (if f.f3 = true then 1 else 0) p fs rs f.f0 f.f1 f.f2 f.f3
 | 0, j, k, hj, hk => by
  obtain ⟨m, rfl⟩ : ∃ m, k = m + 1 := ⟨k - 1, by omega⟩
  refine ⟨m, by omega, ?_⟩
  simp only [cabinetryref03_header.l1]
  rw [if_neg (by rw [List.length_append, bytesI_len, List.length_replicate]; omega)]
  have e : bytesI f.f0 ++ List.replicate j 0 = nameL f.f0 := by
   unfold nameL bytesI
   rw [show j = 10 - f.f0.size from by omega]
  rw [e]
  by_cases h3 : f.f3 = true
  ·rw [if_pos h3, if_pos h3]
  ·rw [if_neg h3, if_neg h3]
 | n + 1, j, k, hj, hk => by
  obtain ⟨m, rfl⟩ : ∃ m, k = m + 1 := ⟨k - 1, by omega⟩
  obtain ⟨k', h1, h2⟩ := ref_name x3 x4 p fs rs f hs n (j + 1) m (by omega) (by omega)
  refine ⟨k', by omega, ?_⟩
  simp only [cabinetryref03_header.l1]
  rw [if_pos (by rw [List.length_append, bytesI_len, List.length_replicate]; omega), if_pos (by rw [List.length_append, bytesI_len, List.length_replicate]; omega), List.append_assoc, ← List.replicate_succ', h2]
theorem letter_is (kd : Int) (h : 1 ≤ kd ∧ kd ≤ 5) : cabinetryref03_letter.f kd = some (kindLetter kd) := by
 rcases (show kd = 1 ∨ kd = 2 ∨ kd = 3 ∨ kd = 4 ∨ kd = 5 by omega) with e | e | e | e | e <;> subst e <;> rfl
theorem name_size {f : S23} (hf : fS f = true) : f.f0.size ≤ 10 := by
 unfold fS fieldS nameS at hf
 simp only [Bool.and_eq_true, decide_eq_true_eq] at hf
 omega
theorem ref_j2 (x3 : List Int) (x4 p : Int) (fs : List S23) (rs : List S46) (f : S23) (hf : fS f = true) (h3 : x3.length ≤ 100000) (k : Nat) (hk : 0 < k) :
  ∃ k', k = k' + 1 ∧ cabinetryref03_header.j2 k x3 x4 (nameL f.f0) (if f.f3 = true then 1 else 0) p fs rs f.f0 f.f1 f.f2 f.f3 = cabinetryref03_header.l0 k' (x3 ++ descL f) (wrap64 (x4 + 1)) p fs rs := by
 obtain ⟨m, rfl⟩ : ∃ m, k = m + 1 := ⟨k - 1, by omega⟩
 refine ⟨m, rfl, ?_⟩
 have hn := nameL_len10 f.f0 (name_size hf)
 have hk := field_kinds hf
 simp only [cabinetryref03_header.j2]
 rw [hn, if_pos (by omega)]
 simp only [Option.bind_some]
 rw [letter_is f.f1 (by omega)]
 simp only [Option.bind_some]
 rw [if_pos (by simp [hn]; omega), List.append_assoc]
 rfl
theorem descL_len (f : S23) (hf : fS f = true) : (descL f).length = 16 := by
 unfold descL
 rw [List.length_append, nameL_len10 f.f0 (name_size hf)]
 rfl
theorem heads_go (fs : List S23) (rs : List S46) (p : Int) (hf : fs.all fS = true) (hL : fs.length ≤ 16) : ∀ (r : List S23) (i : Nat) (x3 : List Int), fs.drop i = r → x3.length + 16 * r.length ≤ 90000 →
  (∀ k, 15 * r.length + 15 < k → cabinetryref03_header.l0 k x3 (i : Int) p fs rs = some (x3 ++ r.flatMap descL ++ [13])) ∧ (∀ k, r.length < k → table_header.l0 k x3 fs (fs.length : Int) (i : Int) = some (x3 ++ r.flatMap descL ++ [13]))
 | [], i, x3, h0, hx => by
  refine ⟨fun k hk => ?_, fun k hk => ?_⟩
  ·obtain ⟨m, rfl⟩ : ∃ m, k = m + 1 := ⟨k - 1, by omega⟩
   simp only [cabinetryref03_header.l0]
   rw [if_neg (rd_end h0), if_pos (by omega)]
   simp
  ·obtain ⟨m, rfl⟩ : ∃ m, k = m + 1 := ⟨k - 1, by simp at hk; omega⟩
   simp only [table_header.l0]
   rw [if_neg (rd_end h0), if_pos (by omega)]
   simp
 | f :: r, i, x3, h0, hx => by
  obtain ⟨a1, a2, a3, _⟩ := rd_drop h0
  rw [List.length_cons] at hx
  have hff : fS f = true := by
   have hm : f ∈ fs := by
    have : f ∈ fs.drop i := by rw [h0]; exact List.mem_cons_self
    exact List.mem_of_mem_drop this
   exact List.all_eq_true.1 hf f hm
  have hd := descL_len f hff
  obtain ⟨i1, i2⟩ := heads_go fs rs p hf hL r (i + 1) (x3 ++ descL f) a3 (by rw [List.length_append, hd]; omega)
  have hn := name_size hff
  refine ⟨fun k hk => ?_, fun k hk => ?_⟩
  ·rw [List.length_cons] at hk
   obtain ⟨m, rfl⟩ : ∃ m, k = m + 1 := ⟨k - 1, by omega⟩
   simp only [cabinetryref03_header.l0]
   rw [if_pos (by omega), if_pos (by omega), a2, if_pos (by omega)]
   simp only [Option.bind_some]
   obtain ⟨k1, h1, h2⟩ := ref_name x3 (i : Int) p fs rs f hn (10 - f.f0.size) 0 m (by omega) (by omega)
   rw [List.replicate_zero, List.append_nil] at h2
   rw [h2]
   obtain ⟨k2, h3, h4⟩ := ref_j2 x3 (i : Int) p fs rs f hff (by omega) k1 (by omega)
   rw [h4, wr64 _ (by omega)]
   have := i1 k2 (by omega)
   rw [show ((i + 1 : Nat) : Int) = (i : Int) + 1 from by omega] at this
   rw [this, List.flatMap_cons, ← List.append_assoc]
  ·rw [List.length_cons] at hk
   obtain ⟨m, rfl⟩ : ∃ m, k = m + 1 := ⟨k - 1, by omega⟩
   simp only [table_header.l0]
   rw [if_pos (by omega), if_pos (by omega), if_pos (by omega), a2]
   unfold descO
   rw [if_pos hn]
   simp only [Option.bind_some]
   rw [hd, if_pos (by omega), wr64 _ (by omega)]
   have := i2 m (by omega)
   rw [show ((i + 1 : Nat) : Int) = (i : Int) + 1 from by omega] at this
   rw [this, List.flatMap_cons, ← List.append_assoc]
def lowL : Int → Nat → List Int
 | _, 0 => []
 | n, c + 1 => n % 256 :: lowL (n / 256) c
theorem lowL_len : ∀ (c : Nat) (n : Int), (lowL n c).length = c
 | 0, _ => rfl
 | c + 1, n => by simp [lowL, lowL_len c]
theorem low_go : ∀ (c i : Nat) (n w : Int) (acc : List Int) (k : Nat), 0 ≤ n → n ≤ 1000000000 → w = (i : Int) + c → i + c ≤ 100 → acc.length ≤ i → c < k → table_low.l0 k n acc w (i : Int) = some (acc ++ lowL n c) ∧ cabinetryref03_low.l0 k n w acc (i : Int) = some (acc ++ lowL n c)
 | 0, i, n, w, acc, k, h0, h1, hw, hi, ha, hk => by
  obtain ⟨m, rfl⟩ : ∃ m, k = m + 1 := ⟨k - 1, by omega⟩
  simp only [table_low.l0, cabinetryref03_low.l0]
  rw [if_neg (by omega), if_neg (by omega)]
  simp [lowL]
 | c + 1, i, n, w, acc, k, h0, h1, hw, hi, ha, hk => by
  obtain ⟨m, rfl⟩ : ∃ m, k = m + 1 := ⟨k - 1, by omega⟩
  have e1 : Int.tdiv n 256 = n / 256 := Int.tdiv_eq_ediv_of_nonneg h0
  have e2 : Int.tmod n 256 = n % 256 := Int.tmod_eq_emod_of_nonneg h0
  have e3 : n % 256 % 256 = n % 256 := by omega
  obtain ⟨r1, r2⟩ := low_go c (i + 1) (n / 256) w (acc ++ [n % 256]) m (by omega) (by omega) (by omega) (by omega) (by simp; omega) (by omega)
  rw [show ((i + 1 : Nat) : Int) = (i : Int) + 1 from by omega] at r1 r2
  constructor
  ·simp only [table_low.l0]
   rw [if_pos (by omega), if_pos (by omega), wr64 ((i : Int) + 1) (by omega), r1]
   simp [lowL]
  ·simp only [cabinetryref03_low.l0]
   rw [if_pos (by omega), if_pos (by omega), e1, e2, e3, wr64 ((i : Int) + 1) (by omega), wr64 (n / 256) (by omega), r2]
   simp [lowL]
theorem low_is (n : Int) (c : Nat) (k : Nat) (h0 : 0 ≤ n) (h1 : n ≤ 1000000000) (hc : c ≤ 100) (hk : c < k) : table_low.f k n (c : Int) = some (lowL n c) ∧ cabinetryref03_low.f k n (c : Int) = some (lowL n c) := by
 have := low_go c 0 n c [] k h0 h1 (by omega) (by omega) (by simp) hk
 exact this
def headL (p : Int) (fs : List S23) (rs : List S46) : List Int :=
 [67, p % 256] ++ lowL (rs.length : Int) 4 ++ lowL (13 + 16 * (fs.length : Int)) 2 ++ lowL (lenS fs) 2 ++ [(fs.length : Int) % 256, 0] ++ fs.flatMap descL ++ [13]
theorem header_is (p : Int) (fs : List S23) (rs : List S46) (hf : fs.all fS = true) (hL : fs.length ≤ 16) (hlen0 : 0 ≤ lenS fs) (hlen : lenS fs ≤ 2000) (hr : rs.length ≤ 300) (k : Nat) (hk : 2000 < k) :
  table_header.f k p fs rs = some (headL p fs rs) ∧ cabinetryref03_header.f k p fs rs = some (headL p fs rs) := by
 obtain ⟨h1, h2⟩ := low_is (rs.length : Int) 4 k (by omega) (by omega) (by omega) (by omega)
 obtain ⟨h3, h4⟩ := low_is (13 + 16 * (fs.length : Int)) 2 k (by omega) (by omega) (by omega) (by omega)
 obtain ⟨h5, h6⟩ := low_is (lenS fs) 2 k hlen0 (by omega) (by omega) (by omega)
 have e1 : table_length.f k fs = some (lenS fs) := length_is fs (by omega) hf k (by omega)
 have e2 : cabinetryref03_Wide.f k fs = some (lenS fs) := ref_wide_is fs (by omega) hf k (by omega)
 have e3 : wrap64 (13 + wrap64 (16 * (fs.length : Int))) = 13 + 16 * (fs.length : Int) := by rw [wr64 (16 * (fs.length : Int)) (by omega), wr64 _ (by omega)]
 obtain ⟨g1, g2⟩ := heads_go fs rs p hf hL fs 0 ([67, p % 256] ++ lowL (rs.length : Int) 4 ++ lowL (13 + 16 * (fs.length : Int)) 2 ++ lowL (lenS fs) 2 ++ [(fs.length : Int) % 256, 0]) List.drop_zero (by simp [lowL_len]; omega)
 constructor
 ·unfold table_header.f table_headerLength.f
  simp only [Option.bind_some]
  rw [show (4 : Int) = ((4 : Nat) : Int) from rfl, h1]
  simp only [Option.bind_some]
  rw [if_pos (by simp [lowL_len]), e3, show (2 : Int) = ((2 : Nat) : Int) from rfl, h3]
  simp only [Option.bind_some]
  rw [if_pos (by simp [lowL_len]), e1]
  simp only [Option.bind_some]
  rw [h5]
  simp only [Option.bind_some]
  rw [if_pos (by simp [lowL_len]), if_pos (by simp [lowL_len])]
  exact g2 k (by omega)
 unfold cabinetryref03_header.f
 simp only [Option.bind_some]
 rw [show (4 : Int) = ((4 : Nat) : Int) from rfl, h2]
 simp only [Option.bind_some]
 rw [if_pos (by simp [lowL_len]), e3, show (2 : Int) = ((2 : Nat) : Int) from rfl, h4]
 simp only [Option.bind_some]
 rw [if_pos (by simp [lowL_len]), e2]
 simp only [Option.bind_some]
 rw [h6]
 simp only [Option.bind_some]
 rw [if_pos (by simp [lowL_len]), if_pos (by simp [lowL_len])]
 exact g1 k (by omega)
section
attribute [local go_sem] max2_int min2_int max_two min_two max_three min_three max_four min_four
theorem size23 : (Tryz.prog.info? 23).map (·.size) = some 4 := by kernel_rfl
theorem size25 : (Tryz.prog.info? 25).map (·.size) = some 3 := by kernel_rfl
theorem made_apart {W w1 : World} {b : Nat} {ok1 ok2 : Nat → Prop} {vo vf : Value} {x5 x6 : List Int} (h1 : Kd.R (Kd.int .u8) 5 W b ok1 vo x5) (h2 : Kd.R (Kd.int .u8) 5 w1 W.heap.size ok2 vf x6) : ∀ k, vo.ownBlock = some k → vf.ownBlock ≠ some k := by
 intro k hk hf
 have a := Kd.R_base h2 k hf
 have b := Kd.R_lt h1 k hk
 omega
theorem RowInv.start {w W w1 : World} {gr gB : Nat} {rc : Array Value} {vo vf : Value} {x5 x6 : List Int} (h1 : Kd.R (Kd.int .u8) 5 W w.heap.size (fun _ => True) vo x5) (h2 : Kd.R (Kd.int .u8) 5 W w.heap.size (fun _ => True) vf x6) (h3 : ∀ k, vo.ownBlock = some k → vf.ownBlock ≠ some k) (h4 : W.heap[gr]? = some (.cells rc 46 (0, 0))) (hB : Below w.heap.size w W)
  (hbox : w1.heap[gB]? = some (.cells #[.pointer none, .slice none 0 0] 126 (0, 0))) (hb : Below W.heap.size W w1) (hg : gB = W.heap.size) : RowInv w gr gB rc vo vf x5 x6 (⟨#[]⟩ : ByteArray) w1 := by
 subst hg
 refine ⟨?_, ?_, h3, Z2 h4 hb, blk_lt h4, hB.size, .inl ⟨Nat.le_refl _, _, hbox, ⟨rfl, .inl ⟨rfl, rfl⟩⟩, by simp [Value.ownBlock]⟩, Z1 hB hb⟩
 ·exact Kd.R_below (Kd.R_mono (Kd.R_bound h1) (fun _ hk => hk.2.2.1)) hb
 exact Kd.R_below (Kd.R_mono (Kd.R_bound h2) (fun _ hk => hk.2.2.1)) hb
theorem inv_open {w W : World} {gr gB : Nat} {rc : Array Value} {vo vf : Value} {x5 x6 : List Int} {X : ByteArray} (h : RowInv w gr gB rc vo vf x5 x6 X W) : ∃ W0 : World, Aside0 (RowInv w gr gB rc vo vf x5 x6 X W0) ∧ Aside0 (Below W0.heap.size W0 W) := ⟨W, ⟨h⟩, ⟨Below.refl _ _⟩⟩
theorem RowInv.args {w W : World} {gr gB : Nat} {rc : Array Value} {vo vf : Value} {x5 x6 : List Int} {X : ByteArray} (h : RowInv w gr gB rc vo vf x5 x6 X W) : Below w.heap.size w W := h.2.2.2.2.2.2.2
theorem RowInv.rec {w W : World} {gr gB : Nat} {rc : Array Value} {vo vf : Value} {x5 x6 : List Int} {X : ByteArray} (h : RowInv w gr gB rc vo vf x5 x6 X W) : W.heap[gr]? = some (.cells rc 46 (0, 0)) := h.2.2.2.1
theorem row_step {l0 : List S23} {l1 : List S25} {n : Nat} {x6 : List Int} {b : Int} {X : ByteArray} {r : List Int × ByteArray} {f : S23} (h : rowL (l0.drop n) (l1.drop n) x6 b X = some r) (hn : n < l0.length) (hf : l0.getD n z23 = f) :
  n < l1.length ∧ ∃ y6 p, rowFlag f (l1.getD n z25) x6 b = some y6 ∧ rowPart f (l1.getD n z25) = some p ∧ X.size + p.size ≤ 140737488355328 ∧ rowL (l0.drop (n + 1)) (l1.drop (n + 1)) y6 (rowBit f b) (X ++ p) = some r := by
 rw [List.drop_eq_getElem_cons hn] at h
 have e0 : l0.getD n z23 = l0[n] := by simp [List.getD, hn]
 by_cases h1 : n < l1.length
 rotate_left
 ·have e2 : l1.drop n = [] := List.drop_eq_nil_of_le (by omega)
  rw [e2] at h
  simp only [rowL] at h
  cases h
 have e1 : l1.getD n z25 = l1[n] := by simp [List.getD, h1]
 rw [List.drop_eq_getElem_cons h1] at h
 rw [e1]
 rw [e0] at hf
 subst hf
 refine ⟨h1, ?_⟩
 simp only [rowL] at h
 obtain ⟨y6, h2, h⟩ := Option.bind_eq_some_iff.mp h
 obtain ⟨p, h3, h⟩ := Option.bind_eq_some_iff.mp h
 split at h
 rotate_left
 ·cases h
 rename_i h4
 exact ⟨y6, p, h2, h3, h4, h⟩
theorem row_kept {w1 w2 : World} {b : Nat} {ok : Nat → Prop} {v : Value} {xs : List Int} {gB : Nat} (h : Kd.R (Kd.int .u8) 5 w1 b ok v xs) (ha : ∀ k, v.ownBlock = some k → ∀ u, w1.cell? ⟨gB, 1, none⟩ = some u → u.ownBlock ≠ some k) (ho : ∀ k o, w1.heap[k]? = some o → (∀ u, w1.cell? ⟨gB, 1, none⟩ = some u → u.ownBlock ≠ some k) → w2.heap[k]? = some o) : Kd.R (Kd.int .u8) 5 w2 b (fun _ => True) v xs := by
 refine Kd.R_mono (Kd.R_step (Kd.R_tight rfl h) (fun k hk hlt => ?_)) (fun _ _ => trivial)
 obtain ⟨o, he⟩ : ∃ o, w1.heap[k]? = some o := ⟨_, Array.getElem?_eq_getElem hlt⟩
 rw [he]
 exact ho k o he (ha k hk.symm)
def row_T13 : Bool × List (List Nat × List Nat) := (true, [([], []), ([], []), ([1], [1]), ([0, 2], [0, 2]), ([3], [3]), ([], []), ([5], [5]), ([6], [6]), ([4, 7], [4, 7]), ([0, 2, 0, 1, 2, 3, 4, 5, 6, 7, 8], [0, 2]), ([9, 8, 0, 1, 2, 3, 4, 5, 6, 7, 8], [8, 9])])
def row_B13 : List Nat := [0, 0, 2, 7, 15, 0, 32, 96, 255, 511, 1023]
theorem row_tab13 : rtab .any (opsOf Tryz.f63 13) = row_T13 := by kernel_rfl
theorem row_bits13 : waitsOk row_T13.2 row_B13 = true := by kernel_rfl
def row_T17 : Bool × List (List Nat × List Nat) := (true, [([],[]),([],[]),([1],[1]),([0,2],[0,2]),([3],[3]),([],[]),([],[]),([4,5,6,0],[4,5,6]),([7,7],[7])])
theorem row_tab17 : rtab .any (opsOf Tryz.f63 17) = row_T17 := by kernel_rfl
def row_B17 : List Nat := [0, 0, 2, 7, 15, 0, 0, 127, 255]
theorem row_bits17 : waitsOk row_T17.2 row_B17 = true := by kernel_rfl
theorem row_walk (A0 : Option Addr) (c0 : Nat) (l0 : List (S23)) (a1_0 : Bool) (A1 : Option Addr) (c1 : Nat) (l1 : List (S25)) (t : Int) (F : List Int) (Y : ByteArray) (w : World) (hr0 : Kd.C k23 w A0 l0.length l0) (hc0 : l0.length ≤ c0) (hr1 : Kd.C k25 w A1 l1.length l1) (hc1 : l1.length ≤ c1)
  (hA : table_nullBytes.f (l0.length + 2) l0 = some t) (ht0 : 0 ≤ t) (ht1 : t.toNat ≤ 281474976710656) (hL : rowL l0 l1 (List.replicate t.toNat 0) 0 (⟨#[]⟩ : ByteArray) = some (F, Y)) (hn : l0.length ≤ 1000000000) (hs : 1 + F.length + Y.size ≤ 140737488355328) (hyn : Y.size ≠ 0) :
  Calls Tryz.prog 63 #[.slice A0 l0.length c0, .agg #[.bool a1_0, .slice A1 l1.length c1]] w fun e w' => ∃ v0_ : Value, e = .returned (v0_) ∧ Kd.R (Kd.int .u8) 5 w' w.heap.size (fun _ => True) v0_ (([rowHead a1_0] : List Int) ++ F ++ bytesI Y) ∧ Below w.heap.size w w' := by
 have hu46 := Tryz.underlying46
 have hu25 := Tryz.underlying25
 have hu23 := Tryz.underlying23
 have HR0 := Z0 hr0
 have HC0 := Z0 hc0
 have HR1 := Z0 hr1
 have HC1 := Z0 hc1
 have AT := Z0 hA
 have T0 := Z0 ht0
 have T1 := Z0 ht1
 have AL := Z0 hL
 have HN := Z0 hn
 have HS := Z0 hs
 have HYN := Z0 hyn
 clear hr0 hc0 hr1 hc1 hA ht0 ht1 hL hn hs hyn
 have HB := Z0 (Below.refl w.heap.size w)
 go_enter Tryz.func63, Tryz.ntmps63
 go_upto_if 14 with (first | ((with_reducible refine Z9 (N := 3) rfl ?_); refine box_event ?hg (N := 3) ?hd (cs := #[.bool a1_0, .slice A1 l1.length c1]) (t := 46) ?hr ?_; (case hd => rfl); (case hg => rfl); (case hr => go_simp; try rfl); intro gr hg w4 hbox hb; have n0_ := Z0 (Z1 HB.out hb); have BKr := Z0 hbox; clear HB; have HB := n0_; clear n0_ hb hbox hg) | ((with_reducible refine Z9 (N := 12) rfl ?_); refine Kd.R_lit (Kd.int .u8) _ 5 ?hg (N := 12) ?hd (xs := ([32] : List Int)) (inner := [.int .u8 32]) (ok := fun _ => True) (okp := fun _ => True) ?hr ?hp (fun _ hk => hk) trivial (Below.refl _ _) (Nat.le_refl _) (by simp) ?_; (case hd => rfl); (case hg => rfl); (case hr => go_simp; try rfl); (case hp => exact (Reps.one (show Kd.M (Kd.int .u8) _ _ _ 32 [.int .u8 32] from rfl) (Reps.none _ _))); intro vo w5 ho6 hb hg_ hnew_; clear hg_ hnew_; have HO := Z0 (Kd.R_lower ho6 (below_size HB.out)); have n1_ := Z0 (Z2 BKr.out hb); have n2_ := Z0 (Z1 HB.out hb); clear BKr; clear HB; have BKr := n1_; have HB := n2_; clear n1_ n2_; clear hb ho6; have hcz0 : w5.cell? ⟨gr, 0, none⟩ = some (.bool a1_0) := (Z4 BKr.out 0).trans rfl; have hcz1 : w5.cell? ⟨gr, 1, none⟩ = some (.slice A1 l1.length c1) := (Z4 BKr.out 1).trans rfl; have hfz0 := Z8 BKr.out 0; have hfz1 := Z8 BKr.out 1))
 (try simp only [Act.put, Z3, Z6, Z7])
 go_cut [] (fun wc => ∃ x5 : List Int, Aside0 (x5 = [rowHead a1_0]) ∧ Aside0 (Kd.R (Kd.int .u8) 5 wc w.heap.size (fun _ => True) vo x5) ∧ Aside0 (wc.heap[gr]? = some (.cells #[.bool a1_0, .slice A1 l1.length c1] 46 (0, 0))) ∧ Aside0 (Below w.heap.size w wc))
 case first =>
  cases a1_0
  ·go_wp2
   go_meet
   case rel => exact ⟨[32], ⟨rfl⟩, HO, BKr, HB⟩
  obtain ⟨go10, co10, eo10, gb10, gl10, cl10, HG10⟩ := Kd.R_form HO.out (by simp)
  subst eo10
  have GB10 := Z0 gb10
  clear gb10 gl10 HG10
  obtain ⟨hx10, hf10⟩ := Kd.R_celln 0 HO.out (0 : Int) (by omega) (by simp)
  (try rw [show ((0 : Int)).toNat = 0 from rfl] at hx10 hf10)
  have HP11 := Kd.R_putg HO.out (0 : Int) 42
  go_wp2_with (first | ((with_reducible refine gate_store (t := 5) (p := 16) rfl ?_); refine store_event (t := 5) (p := 16) (v := ?vo_w12) (w1 := (w5.setCell ⟨go10, (0 : Int).toNat, none⟩ (.int .u8 42))) ?hg ?ho ?hn ?hr ?_; (case ho => rfl); (case hg => rfl); (case hn => rfl); (case hr => go_simp; try rfl); intro w12 hw; have hg : w5.grownBy w12 (some go10) := (by rw [hw]; exact HP11.2); have n1_ : Aside0 (Kd.R (Kd.int .u8) 5 w12 w.heap.size (fun _ => True) (.slice (some ⟨go10, 0, none⟩) [(32 : Int)].length co10) [42]) := ⟨by rw [hw]; exact HP11.1⟩; clear HP11; have n0_ := Z0 (blk_grown BKr.out hg (Kd.R_ne HO.out BKr.out (by decide))); have n2_ := Z0 ((by rw [hw]; exact below_set (HB.out) GB10.out : Below w.heap.size w w12)); clear BKr; clear HO; clear HB; have BKr := n0_; have HO := n1_; have HB := n2_; clear n0_ n1_ n2_; clear hg hw))
  go_meet
  case rel => exact ⟨[42], ⟨rfl⟩, HO, BKr, HB⟩
 case rest =>
  try clear hcz0 hcz1 hfz0 hfz1
  clear HO BKr HB
  obtain ⟨x5, HX5, HO, BKr, HB⟩ := hcut
  go_wp2_with (first | ((with_reducible refine Z5 (f := 71) rfl ?_); refine gl Tryz.func71 (table_nullBytes.calls (l0.length + 2) _ _ l0 t _ (Kd.C_below HR0.out HB.out) HC0.out AT.out) ?_; rintro e w16 ⟨rfl, hb⟩; refine ⟨_, rfl, ?_⟩; have n0_ := Z0 (Kd.R_below HO.out hb); have n1_ := Z0 (Z2 BKr.out hb); have n2_ := Z0 (Z1 HB.out hb); clear HO; clear BKr; clear HB; have HO := n0_; have BKr := n1_; have HB := n2_; clear n0_ n1_ n2_ hb) | ((with_reducible refine Z9 (N := 19) rfl ?_); refine Kd.R_make (Kd.int .u8) _ 5 rfl (N := 19) rfl 37 _ _ rfl t rfl rfl Tryz.underlying37 (.int .u8 0) 1 info5 rfl (by decide) (by omega) 0 (ok := fun _ => True) (okp := fun _ => True) rfl (fun _ hk => hk) trivial (T0.out) (by have := T1.out; omega) (Below.refl _ _) (Nat.le_refl _) ?_; intro vf w17 ho18 hb hg_ hnew_; clear hg_ hnew_; have HAP := Z0 (made_apart HO.out ho18); have n0_ := Z0 (Kd.R_below HO.out hb); have HF := Z0 (Kd.R_lower ho18 (below_size HB.out)); have n2_ := Z0 (Z2 BKr.out hb); have n3_ := Z0 (Z1 HB.out hb); clear HO; clear BKr; clear HB; have HO := n0_; have BKr := n2_; have HB := n3_; clear n0_ n2_ n3_; clear hb ho18) | ((with_reducible refine Z9 (N := 7) rfl ?_); refine box_event ?hg (N := 7) ?hd (cs := #[.pointer none, .slice none 0 0]) (t := 126) ?hr ?_; (case hd => rfl); (case hg => rfl); (case hr => go_simp; try rfl); intro gB hg w19 hbox hb; have HI := Z0 (RowInv.start HO.out HF.out HAP.out BKr.out HB.out hbox hb hg); clear HO HF HAP BKr HB hb hbox hg))
  go_loopg [8, 22] (l0.length + 1) (fun kq v8 v22 w' => ∃ (n : Nat) (x6 : List Int) (b : Int) (X : ByteArray), v8 = .int .i64 b ∧ v22 = .int .i64 (n : Int) ∧ Aside0 (rowL (l0.drop n) (l1.drop n) x6 b X = some (F, Y)) ∧ Aside0 (kq + n = l0.length + 1) ∧ Aside0 (n ≤ l0.length) ∧ Aside0 (RowInv w gr gB #[.bool a1_0, .slice A1 l1.length c1] vo vf x5 x6 X w'))
  case atStart => exact ⟨0, List.replicate t.toNat 0, 0, (⟨#[]⟩ : ByteArray), rfl, rfl, AL, ⟨by omega⟩, ⟨Nat.zero_le _⟩, HI⟩
  case round =>
   clear HI
   obtain ⟨n, x6, b, X, rfl, rfl, HA, HK, HNl, HI⟩ := hrel
   by_cases c3 : (n : Int) < (l0.length : Int)
   rotate_left
   ·have hnl : n = l0.length := by have := HNl.out; omega
    have c3b := decide_eq_false c3
    have hFY : x6 = F ∧ X = Y := by
     have h_ := HA.out
     rw [hnl, List.drop_length] at h_
     simp only [rowL] at h_
     injection h_ with h_
     injection h_ with h1 h2
     exact ⟨h1, h2⟩
    obtain ⟨rfl, rfl⟩ := hFY
    clear HA hnl
    obtain ⟨Ao, co, eo⟩ := Kd.R_slice HI.out.2.1
    subst eo
    have LY : Aside0 (X.data.toList ≠ []) := ⟨fun h_ => HYN.out (by show X.data.toList.length = 0; rw [h_]; rfl)⟩
    have LX : Aside0 (x5.length = 1) := ⟨by rw [HX5.out]; rfl⟩
    obtain ⟨W0, HI, HW⟩ := inv_open HI.out
    go_wp2_with (first | ((with_reducible refine gate_builtin (b := .append) (xs := #[.tmp 66, .tmp 67]) rfl ?_); at_builtin; refine Kd.R_append_rows (Kd.int .u8) (w0 := w) w.heap.size rfl (.tmp 66) (.tmp 67) 37 5 (.int .u8 0) 1 rfl Tryz.underlying37 info5 rfl (by decide) (by omega) vo x5 x6 _ _ _ (fun k_ => k_ ≠ gB) (fun _ => False) rfl rfl ?aO ?aR (fun _ _ h => h) (fun _ h => h.elim) ?aF ?aB ?aS ?aL ?_; (case aR => exact (Kd.R_reads' (Kd.R_below HI.out.2.1 HW.out)).2.2); (case aB => exact (RowInv.below HI.out HW.out).args); (case aF => exact (fun k_ hk => by have h_ := isBuilder_lt (RowInv.below HI.out HW.out).2.2.2.2.2.2.1; omega)); (case aO => exact Kd.R_mono (RowInv.below HI.out HW.out).1 (fun k_ hk => by omega)); (case aS => exact (below_size (RowInv.below HI.out HW.out).args)); (case aL => have := LX.out; have := HS.out; omega); intro v87 w87 ho hb hg hat; have HO := Z0 ho; have HBL := Z0 (isBuilder_grown (RowInv.below HI.out HW.out) hg); have HAW := Z0 (builder_away (RowInv.below HI.out HW.out) hg hat); have HB := Z0 hb; have HGE : Aside0 (w.heap.size ≤ gB ∧ gB < w87.heap.size) := ⟨HI.out.2.2.2.2.2.1, isBuilder_lt HBL.out⟩; clear HI HW ho hb hg hat) | ((with_reducible refine Z5 (f := 112) rfl ?_); refine gl Tryz.func112 (builder_string gB X.data.toList _ HBL.out LY.out) ?_; rintro e w88 ⟨rfl, hb, hoth⟩; refine ⟨_, rfl, ?_⟩; have n0_ := Z0 (row_kept HO.out HAW.out hoth); have n1_ := Z0 (below_weaken HB.out HGE.out.1 hb); clear HO HB HBL HAW; have HO := n0_; have HB := n1_; clear n0_ n1_ hb hoth) | ((with_reducible refine Z9 (N := 70) rfl ?_); refine R_append_str (w0 := w) w.heap.size rfl (.tmp 68) (.tmp 69) rfl v87 (x5 ++ x6) X _ rfl rfl HO.out HB.out (below_size HB.out) (by have := LX.out; have := HS.out; rw [List.length_append]; omega) ?_; intro v1 w1 ho hb; clear HO HB; have HO := Z0 ho; have HB := Z0 hb; clear ho hb))
    go_ret
    exact ⟨v1, rfl, by have h_ := HO.out; rw [HX5.out] at h_; exact h_, HB.out⟩
   obtain ⟨f, hf⟩ : ∃ f, rd_T23 l0 (n : Int) = f := ⟨_, rfl⟩
   obtain ⟨hn1, y6, p, hfl, hpt, hsz, hL⟩ := row_step HA.out (Int.ofNat_lt.1 c3) hf
   obtain ⟨v, hv⟩ : ∃ v, rd_T25 l1 (n : Int) = v := ⟨_, rfl⟩
   have hv' : l1.getD n z25 = v := hv
   rw [hv'] at hfl hpt
   have c3b := decide_eq_true c3
   have p2 : (0 : Int) ≤ n := Int.natCast_nonneg _
   have c4 : (n : Int) < (l1.length : Int) := Int.ofNat_lt.2 hn1
   have c4b := decide_eq_true c4
   obtain ⟨ad, ea, hx0, hx1, hx2, hx3⟩ := at_T23 HR0.out (n : Int) p2 c3
   cases ea
   obtain ⟨ad1, ea, hy0, hy1, hy2⟩ := at_T25 HR1.out (n : Int) p2 c4
   cases ea
   rw [hf] at hx0 hx1 hx2 hx3
   rw [hv] at hy0 hy1 hy2
   rw [Int.toNat_natCast] at hx0 hx1 hx2 hx3 hy0 hy1 hy2
   have HY0 := Z0 hy0
   have HY1 := Z0 hy1
   have HY2 := Z0 hy2
   have HBW := Z0 HI.out.args
   replace hx0 := (HBW.out.cell (World.block_lt_of_cell? w _ hx0)).trans hx0
   replace hx1 := (HBW.out.cell (World.block_lt_of_cell? w _ hx1)).trans hx1
   replace hx2 := (HBW.out.cell (World.block_lt_of_cell? w _ hx2)).trans hx2
   replace hx3 := (HBW.out.cell (World.block_lt_of_cell? w _ hx3)).trans hx3
   have hw : wrap64 ((n : Int) + 1) = ((n + 1 : Nat) : Int) := by
    have := HN.out
    have e : ((n : Int) + 1) = ((n + 1 : Nat) : Int) := by omega
    rw [e]; exact (show wrap64 ((n + 1 : Nat) : Int) = _ by have := Int.ofNat_lt.1 c3; unfold wrap64; omega)
   have HFL := Z0 hfl
   have HPT := Z0 hpt
   have HSZ := Z0 hsz
   have HL := Z0 hL
   have HN1 := Z0 (Int.ofNat_lt.1 c3)
   have HWR := Z0 hw
   clear hw hf hv hv' hn1 hfl hpt hsz hL hy0 hy1 hy2 HA HBW
   obtain ⟨W0, HI, HW⟩ := inv_open HI.out
   obtain ⟨Ao, co, eo⟩ := Kd.R_slice HI.out.2.1
   subst eo
   obtain ⟨s0, s1, s2, s3⟩ := f
   obtain ⟨v0, v1, v2⟩ := v
   simp only at hx0 hx1 hx2 hx3 HY0 HY1 HY2
   have hbit : ∀ q : Bool, s3 = q → rowBit ⟨s0, s1, s2, s3⟩ b = if q = true then wrap64 (b + 1) else b := fun q e => by subst e; rfl
   have HBIT := Z0 hbit
   clear hbit
   cases s3
   ·by_cases hz : v0 = 0
    ·subst hz
     have HREP : Aside0 (strings_Repeat.f (⟨#[32]⟩ : ByteArray) s2 = some p) := ⟨by have h_ := HPT.out; unfold rowPart at h_; rw [if_pos rfl] at h_; exact h_⟩
     have hy6 : x6 = y6 := by have h_ := HFL.out; unfold rowFlag at h_; simp only [if_neg (show ¬ (false = true) by decide)] at h_; exact Option.some.inj h_
     subst hy6
     clear HFL
     go_wp2_with (first | ((with_reducible refine Z9 (N := 10) rfl ?_); refine box_event ?hg (N := 10) ?hd (cs := #[.string (⟨#[]⟩ : ByteArray), .int .i64 0, .int .i64 0, .bool false]) (t := 23) ?hr ?_; (case hd => rfl); (case hg => rfl); (case hr => go_simp; try rfl); intro gf hg w25 hbox hb; have GEf : Aside0 (W0.heap.size ≤ gf) := ⟨by rw [hg]; exact HW.out.size⟩; have n0_ := Z0 (Z1 HW.out hb); have BKf := Z0 hbox; clear HW; have HW := n0_; clear n0_ hb hbox hg; clear hx0 hx1 hx2 hx3) | ((with_reducible refine gate_store (t := 23) (p := 10) rfl ?_); refine store_box ?hg (ty := 23) (p := 10) (y := .tmp 26) ?ho ?hd gf (cells := #[.string s0, .int .i64 s1, .int .i64 s2, .bool false]) (old := #[.string (⟨#[]⟩ : ByteArray), .int .i64 0, .int .i64 0, .bool false]) (t := 23) ?hx ?hy ?hgg ?hi ?hold ?h1 ?_; (case ho => rfl); (case hg => rfl); (case hd => rfl); (case hx => rfl); (case hy => rfl); (case hgg => exact BKf.out); (case hi => exact size23); (case hold => rfl); (case h1 => simp [Value.oneCell']); intro w26 hbk hbel hoth; have n0_ := Z0 (hbel _ _ HW.out GEf.out); have n1_ := Z0 hbk; clear HW; clear BKf; have HW := n0_; have BKf := n1_; clear n0_ n1_ hbk hbel hoth; have hr0 : w26.cell? ⟨gr, 0, none⟩ = some (.bool a1_0) := (Z4 (Z2 HI.out.rec HW.out) 0).trans rfl; have hr1 : w26.cell? ⟨gr, 1, none⟩ = some (.slice (some ad1) l1.length c1) := (Z4 (Z2 HI.out.rec HW.out) 1).trans rfl; have HBW := Z0 (Z1 HI.out.args HW.out); have hy0 := (HBW.out.cell (World.block_lt_of_cell? w _ HY0.out)).trans HY0.out; have hy1 := (HBW.out.cell (World.block_lt_of_cell? w _ HY1.out)).trans HY1.out; have hy2 := (HBW.out.cell (World.block_lt_of_cell? w _ HY2.out)).trans HY2.out; clear HBW) | ((with_reducible refine Z9 (N := 11) rfl ?_); refine box_event ?hg (N := 11) ?hd (cs := #[.int .i64 0, .int .i64 0, .string (⟨#[]⟩ : ByteArray)]) (t := 25) ?hr ?_; (case hd => rfl); (case hg => rfl); (case hr => go_simp; try rfl); intro gv hg w31 hbox hb; have GEv : Aside0 (W0.heap.size ≤ gv) := ⟨by rw [hg]; exact HW.out.size⟩; have NE : Aside0 (gf ≠ gv) := ⟨by rw [hg]; exact Nat.ne_of_lt (blk_lt BKf.out)⟩; have n0_ := Z0 (Z1 HW.out hb); have n1_ := Z0 (Z2 BKf.out hb); have BKv := Z0 hbox; clear HW; clear BKf; have HW := n0_; have BKf := n1_; clear n0_ n1_ hb hbox hg; clear hr0 hr1 hy0 hy1 hy2) | ((with_reducible refine gate_store (t := 25) (p := 11) rfl ?_); refine store_box ?hg (ty := 25) (p := 11) (y := .tmp 31) ?ho ?hd gv (cells := #[.int .i64 0, .int .i64 v1, .string v2]) (old := #[.int .i64 0, .int .i64 0, .string (⟨#[]⟩ : ByteArray)]) (t := 25) ?hx ?hy ?hgg ?hi ?hold ?h1 ?_; (case ho => rfl); (case hg => rfl); (case hd => rfl); (case hx => rfl); (case hy => rfl); (case hgg => exact BKv.out); (case hi => exact size25); (case hold => rfl); (case h1 => simp [Value.oneCell']); intro w32 hbk hbel hoth; have n0_ := Z0 (hbel _ _ HW.out GEv.out); have n1_ := Z0 hbk; have n2_ := Z0 ((hoth gf NE.out).trans BKf.out); clear HW; clear BKv; clear BKf; have HW := n0_; have BKv := n1_; have BKf := n2_; clear n0_ n1_ n2_ hbk hbel hoth; have kf0 : w32.cell? ⟨gf, 0, none⟩ = some (.string s0) := (Z4 BKf.out 0).trans rfl; have kf1 : w32.cell? ⟨gf, 1, none⟩ = some (.int .i64 s1) := (Z4 BKf.out 1).trans rfl; have kf2 : w32.cell? ⟨gf, 2, none⟩ = some (.int .i64 s2) := (Z4 BKf.out 2).trans rfl; have kf3 : w32.cell? ⟨gf, 3, none⟩ = some (.bool false) := (Z4 BKf.out 3).trans rfl; have kv0 : w32.cell? ⟨gv, 0, none⟩ = some (.int .i64 0) := (Z4 BKv.out 0).trans rfl; have kv1 : w32.cell? ⟨gv, 1, none⟩ = some (.int .i64 v1) := (Z4 BKv.out 1).trans rfl; have kv2 : w32.cell? ⟨gv, 2, none⟩ = some (.string v2) := (Z4 BKv.out 2).trans rfl) | ((with_reducible refine Z5 (f := 99) rfl ?_); refine gl Tryz.func99 (strings_Repeat.calls (⟨#[32]⟩ : ByteArray) s2 p _ HREP.out) ?_; rintro e w35 ⟨rfl, hb⟩; refine ⟨_, rfl, ?_⟩; have n0_ := Z0 (Z1 HW.out hb); clear HW; have HW := n0_; clear n0_ hb) | ((with_reducible refine Z5 (f := 111) rfl ?_); refine goesL_ (some 55) rfl rfl Tryz.func111 (by kernel_rfl) rfl #[.pointer (some ⟨gB, 0, none⟩), .string p] rfl V1 ?_; have hbl := HI.out.2.2.2.2.2.2.1; (with_reducible refine (Builder_WriteString gB gB (Lib.byteCells X.data.toList) p _ ?hbl ?hlen ?hBw).mono ?_); (case hbl => exact isBuilder_below hbl HW.out); (case hlen => have := HSZ.out; rw [Lib.byteCells_length]; exact this); (case hBw => have h_ := isBuilder_lt (isBuilder_below hbl HW.out); omega); clear hbl; rintro e w40 ⟨rfl, hbld, hb⟩; refine ⟨_, rfl, ?_⟩; have n0_ := Z0 (RowInv.write (RowInv.below HI.out HW.out) hbld hb); clear HI; have HI := n0_; clear n0_ hbld hb HW BKf BKv; (try clear GEf GEv NE)))
     go_roundg (gk - 1)
     case measure => have := HK.out; have := HN1.out; omega
     case rel => exact ⟨n + 1, x6, b, X ++ p, rfl, by rw [HWR.out], ⟨by have h_ := HL.out; rw [HBIT.out false rfl] at h_; exact h_⟩, ⟨by have := HK.out; have := HN1.out; omega⟩, ⟨by have := HN1.out; omega⟩, HI⟩
    skip
    have HPT' : writeO ⟨s0, s1, s2, false⟩ ⟨v0, v1, v2⟩ = some p := by have h_ := HPT.out; unfold rowPart at h_; rw [if_neg hz] at h_; exact h_
    obtain ⟨kc, klo, khi, krf, KF, hkv, hke, hkc⟩ := write_any _ _ _ HPT'
    have HKV := Z0 hkv
    have HKE := Z0 hke
    have HKC := Z0 hkc
    clear HPT' hkv hke hkc
    have hfl : ∀ (a b c d e : Value) (W : World), (Instr.field 102 (.agg #[a, b, c, d, e]) 3).run Tryz.prog W = .ok d W := fun _ _ _ _ _ _ => by kernel_rfl
    have hz0 : (v0 == 0) = false := beq_eq_false_iff_ne.mpr hz
    have hz1 : (v0 != 0) = true := bne_iff_ne.mpr hz
    have HZ := Z0 hz
    clear hz
    have hy6 : x6 = y6 := by have h_ := HFL.out; unfold rowFlag at h_; simp only [if_neg (show ¬ (false = true) by decide)] at h_; exact Option.some.inj h_
    subst hy6
    clear HFL
    go_wp2_with (first | ((with_reducible refine Z9 (N := 10) rfl ?_); refine box_event ?hg (N := 10) ?hd (cs := #[.string (⟨#[]⟩ : ByteArray), .int .i64 0, .int .i64 0, .bool false]) (t := 23) ?hr ?_; (case hd => rfl); (case hg => rfl); (case hr => go_simp; try rfl); intro gf hg w25 hbox hb; have GEf : Aside0 (W0.heap.size ≤ gf) := ⟨by rw [hg]; exact HW.out.size⟩; have n0_ := Z0 (Z1 HW.out hb); have BKf := Z0 hbox; clear HW; have HW := n0_; clear n0_ hb hbox hg; clear hx0 hx1 hx2 hx3) | ((with_reducible refine gate_store (t := 23) (p := 10) rfl ?_); refine store_box ?hg (ty := 23) (p := 10) (y := .tmp 26) ?ho ?hd gf (cells := #[.string s0, .int .i64 s1, .int .i64 s2, .bool false]) (old := #[.string (⟨#[]⟩ : ByteArray), .int .i64 0, .int .i64 0, .bool false]) (t := 23) ?hx ?hy ?hgg ?hi ?hold ?h1 ?_; (case ho => rfl); (case hg => rfl); (case hd => rfl); (case hx => rfl); (case hy => rfl); (case hgg => exact BKf.out); (case hi => exact size23); (case hold => rfl); (case h1 => simp [Value.oneCell']); intro w26 hbk hbel hoth; have n0_ := Z0 (hbel _ _ HW.out GEf.out); have n1_ := Z0 hbk; clear HW; clear BKf; have HW := n0_; have BKf := n1_; clear n0_ n1_ hbk hbel hoth; have hr0 : w26.cell? ⟨gr, 0, none⟩ = some (.bool a1_0) := (Z4 (Z2 HI.out.rec HW.out) 0).trans rfl; have hr1 : w26.cell? ⟨gr, 1, none⟩ = some (.slice (some ad1) l1.length c1) := (Z4 (Z2 HI.out.rec HW.out) 1).trans rfl; have HBW := Z0 (Z1 HI.out.args HW.out); have hy0 := (HBW.out.cell (World.block_lt_of_cell? w _ HY0.out)).trans HY0.out; have hy1 := (HBW.out.cell (World.block_lt_of_cell? w _ HY1.out)).trans HY1.out; have hy2 := (HBW.out.cell (World.block_lt_of_cell? w _ HY2.out)).trans HY2.out; clear HBW) | ((with_reducible refine Z9 (N := 11) rfl ?_); refine box_event ?hg (N := 11) ?hd (cs := #[.int .i64 0, .int .i64 0, .string (⟨#[]⟩ : ByteArray)]) (t := 25) ?hr ?_; (case hd => rfl); (case hg => rfl); (case hr => go_simp; try rfl); intro gv hg w31 hbox hb; have GEv : Aside0 (W0.heap.size ≤ gv) := ⟨by rw [hg]; exact HW.out.size⟩; have NE : Aside0 (gf ≠ gv) := ⟨by rw [hg]; exact Nat.ne_of_lt (blk_lt BKf.out)⟩; have n0_ := Z0 (Z1 HW.out hb); have n1_ := Z0 (Z2 BKf.out hb); have BKv := Z0 hbox; clear HW; clear BKf; have HW := n0_; have BKf := n1_; clear n0_ n1_ hb hbox hg; clear hr0 hr1 hy0 hy1 hy2) | ((with_reducible refine gate_store (t := 25) (p := 11) rfl ?_); refine store_box ?hg (ty := 25) (p := 11) (y := .tmp 31) ?ho ?hd gv (cells := #[.int .i64 v0, .int .i64 v1, .string v2]) (old := #[.int .i64 0, .int .i64 0, .string (⟨#[]⟩ : ByteArray)]) (t := 25) ?hx ?hy ?hgg ?hi ?hold ?h1 ?_; (case ho => rfl); (case hg => rfl); (case hd => rfl); (case hx => rfl); (case hy => rfl); (case hgg => exact BKv.out); (case hi => exact size25); (case hold => rfl); (case h1 => simp [Value.oneCell']); intro w32 hbk hbel hoth; have n0_ := Z0 (hbel _ _ HW.out GEv.out); have n1_ := Z0 hbk; have n2_ := Z0 ((hoth gf NE.out).trans BKf.out); clear HW; clear BKv; clear BKf; have HW := n0_; have BKv := n1_; have BKf := n2_; clear n0_ n1_ n2_ hbk hbel hoth; have kf0 : w32.cell? ⟨gf, 0, none⟩ = some (.string s0) := (Z4 BKf.out 0).trans rfl; have kf1 : w32.cell? ⟨gf, 1, none⟩ = some (.int .i64 s1) := (Z4 BKf.out 1).trans rfl; have kf2 : w32.cell? ⟨gf, 2, none⟩ = some (.int .i64 s2) := (Z4 BKf.out 2).trans rfl; have kf3 : w32.cell? ⟨gf, 3, none⟩ = some (.bool false) := (Z4 BKf.out 3).trans rfl; have kv0 : w32.cell? ⟨gv, 0, none⟩ = some (.int .i64 v0) := (Z4 BKv.out 0).trans rfl; have kv1 : w32.cell? ⟨gv, 1, none⟩ = some (.int .i64 v1) := (Z4 BKv.out 1).trans rfl; have kv2 : w32.cell? ⟨gv, 2, none⟩ = some (.string v2) := (Z4 BKv.out 2).trans rfl))
    have n0_ := Z0 (below_drew1 HW.out)
    have n1_ := Z0 (Y5 BKf.out)
    have n2_ := Z0 (Y5 BKv.out)
    clear HW BKf BKv
    have HW := n0_
    have BKf := n1_
    have BKv := n2_
    clear n0_ n1_ n2_
    (try clear kf0 kf1 kf2 kf3)
    (try clear kv0 kv1 kv2)
    refine start_ (n := 9) (S := fun w' => w'.heap[gf]? = some (.cells #[.string s0, .int .i64 s1, .int .i64 s2, .bool false] 23 (0, 0)) ∧ w'.heap[gv]? = some (.cells #[.int .i64 v0, .int .i64 v1, .string v2] 25 (0, 0))) (ds := [8]) #[false, false, false, false, false, false, false, false, false] (by kernel_rfl) rfl rfl ⟨BKf.out, BKv.out⟩ (fun hHeld => ?_); refine with_tabW row_tab17 row_bits17 (fun HT_ HW_ => ?_)
    generalize w32.drew = w33 at HW BKf BKv hHeld ⊢
    refine pz 1 57 #[false, true, false, false, false, false, false, false, false] HT_ ?_
    refine take_ (i := 2) (N := some 58) (v := ?_) (a' := ?_) #[false, true, true, false, false, false, false, false, false] rfl rfl (take_ofW HT_.out HW_.out (by kernel_rfl)) (fun _ _ _ h => h) (Or.inl ⟨by rfl, ?_⟩) hHeld ?_ ?_
    rotate_left
    ·rintro w' ⟨s0_, s1_⟩
     have sc := (Z4 s0_ 1).trans rfl
     go_simp
     with_reducible rfl
    rotate_left
    ·simp only [Act.put, Z3, Z6, Z7, i64_w, i32_w]
     rfl
    refine take_ (i := 5) (N := some 61) (v := ?_) (a' := ?_) #[false, true, true, false, false, true, false, false, false] rfl rfl (take_ofW HT_.out HW_.out (by kernel_rfl)) (fun _ _ _ h => h) (Or.inl ⟨by rfl, ?_⟩) hHeld ?_ ?_
    rotate_left
    ·rintro w' ⟨s0_, s1_⟩
     have sc0 : w'.cell? ⟨gf, 0, none⟩ = some (.string s0) := (Z4 s0_ 0).trans rfl
     have sc1 : w'.cell? ⟨gf, 1, none⟩ = some (.int .i64 s1) := (Z4 s0_ 1).trans rfl
     have sc2 : w'.cell? ⟨gf, 2, none⟩ = some (.int .i64 s2) := (Z4 s0_ 2).trans rfl
     have sc3 : w'.cell? ⟨gf, 3, none⟩ = some (.bool false) := (Z4 s0_ 3).trans rfl
     go_simp
     with_reducible rfl
    rotate_left
    ·simp only [Act.put, Z3, Z6, Z7, i64_w, i32_w]
     rfl
    refine take_ (i := 6) (N := some 62) (v := ?_) (a' := ?_) #[false, true, true, false, false, true, true, false, false] rfl rfl (take_ofW HT_.out HW_.out (by kernel_rfl)) (fun _ _ _ h => h) (Or.inl ⟨by rfl, ?_⟩) hHeld ?_ ?_
    rotate_left
    ·rintro w' ⟨s0_, s1_⟩
     have sc0 : w'.cell? ⟨gv, 0, none⟩ = some (.int .i64 v0) := (Z4 s1_ 0).trans rfl
     have sc1 : w'.cell? ⟨gv, 1, none⟩ = some (.int .i64 v1) := (Z4 s1_ 1).trans rfl
     have sc2 : w'.cell? ⟨gv, 2, none⟩ = some (.string v2) := (Z4 s1_ 2).trans rfl
     go_simp
     with_reducible rfl
    rotate_left
    ·simp only [Act.put, Z3, Z6, Z7, i64_w, i32_w]
     rfl
    refine one_ (i := 0) (N := some 56) #[true, true, true, false, false, true, true, false, false] rfl rfl (one_of HT_.out (by kernel_rfl)) (by decide) (fun K hK => ?_)
    refine goes_ Tryz.func89 (by kernel_rfl) rfl #[] (by rfl) rfl rfl V1 ?_
    refine (table_kinds w33).mono ?_
    rintro e w34 ⟨rk, rfl, hkb, hb⟩
    refine ⟨_, rfl, ?_⟩
    have HKB := Z0 hkb
    clear hkb
    have n0_ := Z0 (Z1 HW.out hb)
    have n1_ := Z0 (Z2 BKf.out hb)
    have n2_ := Z0 (Z2 BKv.out hb)
    clear HW BKf BKv
    have HW := n0_
    have BKf := n1_
    have BKv := n2_
    clear n0_ n1_ n2_ hb
    refine hK.out _ _ ⟨BKf.out, BKv.out⟩ (fun hHeld => ?_)
    clear hK K
    refine norm_ (a' := ?_) ?_ ?_
    rotate_left
    ·show Act.put _ (some 56) _ = _
     simp only [Act.put, Z3, Z6, Z7, i64_w, i32_w]
     rfl
    refine one_ (i := 3) (N := some 59) #[true, true, true, true, false, true, true, false, false] rfl rfl (one_of HT_.out (by kernel_rfl)) (by decide) (fun K hK => ?_)
    have hlk := run_look' w34 rk HKB.out _ _ HKV.out
    refine event_step (v := .agg #[kc, klo, khi, .func (.func KF) #[] #[], krf]) (w1 := w34) rfl (by first | (go_simp; done) | (go_simp; rfl) | (go_simp; exact ⟨rfl, rfl⟩)) ?_
    refine hK.out _ _ ⟨BKf.out, BKv.out⟩ (fun hHeld => ?_)
    clear hK K
    refine norm_ (a' := ?_) ?_ ?_
    rotate_left
    ·show Act.put _ (some 59) _ = _
     simp only [Act.put, Z3, Z6, Z7, i64_w, i32_w]
     rfl
    clear hlk
    refine one_ (i := 4) (N := some 60) #[true, true, true, true, true, true, true, false, false] rfl rfl (one_of HT_.out (by kernel_rfl)) (by decide) (fun K hK => ?_)
    refine event_step (v := .func (.func KF) #[] #[]) (w1 := w34) rfl (by first | (go_simp; done) | (go_simp; rfl) | (go_simp; exact ⟨rfl, rfl⟩)) ?_
    refine hK.out _ _ ⟨BKf.out, BKv.out⟩ (fun hHeld => ?_)
    clear hK K
    refine norm_ (a' := ?_) ?_ ?_
    rotate_left
    ·show Act.put _ (some 60) _ = _
     simp only [Act.put, Z3, Z6, Z7, i64_w, i32_w]
     rfl
    refine one_ (i := 7) (N := some 63) #[true, true, true, true, true, true, true, true, false] rfl rfl (one_of HT_.out (by kernel_rfl)) (by decide) (fun K hK => ?_)
    refine goesV_ (f := KF) (x := 60) HKE.out #[.agg #[.string s0, .int .i64 s1, .int .i64 s2, .bool false], .agg #[.int .i64 v0, .int .i64 v1, .string v2]] (by rfl) rfl rfl (by rfl) V1 ?_
    refine (HKC.out w34).mono ?_
    rintro e w35 ⟨rfl, hb⟩
    refine ⟨_, rfl, ?_⟩
    have n0_ := Z0 (Z1 HW.out hb)
    have n1_ := Z0 (Z2 BKf.out hb)
    have n2_ := Z0 (Z2 BKv.out hb)
    clear HW BKf BKv
    have HW := n0_
    have BKf := n1_
    have BKv := n2_
    clear n0_ n1_ n2_ hb
    refine hK.out _ _ ⟨BKf.out, BKv.out⟩ (fun hHeld => ?_)
    clear hK K
    refine norm_ (a' := ?_) ?_ ?_
    rotate_left
    ·show Act.put _ (some 63) _ = _
     simp only [Act.put, Z3, Z6, Z7, i64_w, i32_w]
     rfl
    refine last_ (i := 8) (N := some 64) #[true, true, true, true, true, true, true, true, true] rfl rfl (one_of HT_.out (by kernel_rfl)) (by decide) (fun K hK => ?_)
    refine goes_ Tryz.func111 (by kernel_rfl) rfl #[.pointer (some ⟨gB, 0, none⟩), .string p] (by rfl) rfl rfl V1 ?_
    have hbl := HI.out.2.2.2.2.2.2.1; (with_reducible refine (Builder_WriteString gB gB (Lib.byteCells X.data.toList) p _ ?hbl ?hlen ?hBw).mono ?_); (case hbl => exact isBuilder_below hbl HW.out); (case hlen => have := HSZ.out; rw [Lib.byteCells_length]; exact this); (case hBw => have h_ := isBuilder_lt (isBuilder_below hbl HW.out); omega); clear hbl; rintro e w40 ⟨rfl, hbld, hb⟩; refine ⟨_, rfl, ?_⟩; have n0_ := Z0 (RowInv.write (RowInv.below HI.out HW.out) hbld hb); clear HI; have HI := n0_; clear n0_ hbld hb HW BKf BKv; (try clear GEf GEv NE)
    refine hK.out _ _ ?_
    clear hK K
    refine norm_ (a' := ?_) ?_ ?_
    rotate_left
    ·show Act.put _ (some 64) _ = _
     simp only [Act.put, Z3, Z6, Z7, i64_w, i32_w]
     rfl
    refine done_ (done_of HT_.out (by kernel_rfl)) ?_
    clear hHeld HT_ HW_ hfl HKV HKB HKE HKC
    go_wp2
    go_roundg (gk - 1)
    case measure => have := HK.out; have := HN1.out; omega
    case rel => exact ⟨n + 1, x6, b, X ++ p, rfl, by rw [HWR.out], ⟨by have h_ := HL.out; rw [HBIT.out false rfl] at h_; exact h_⟩, ⟨by have := HK.out; have := HN1.out; omega⟩, ⟨by have := HN1.out; omega⟩, HI⟩
   by_cases hz : v0 = 0
   ·subst hz
    have HREP : Aside0 (strings_Repeat.f (⟨#[32]⟩ : ByteArray) s2 = some p) := ⟨by have h_ := HPT.out; unfold rowPart at h_; rw [if_pos rfl] at h_; exact h_⟩
    go_wp2_with (first | ((with_reducible refine Z9 (N := 10) rfl ?_); refine box_event ?hg (N := 10) ?hd (cs := #[.string (⟨#[]⟩ : ByteArray), .int .i64 0, .int .i64 0, .bool false]) (t := 23) ?hr ?_; (case hd => rfl); (case hg => rfl); (case hr => go_simp; try rfl); intro gf hg w25 hbox hb; have GEf : Aside0 (W0.heap.size ≤ gf) := ⟨by rw [hg]; exact HW.out.size⟩; have n0_ := Z0 (Z1 HW.out hb); have BKf := Z0 hbox; clear HW; have HW := n0_; clear n0_ hb hbox hg; clear hx0 hx1 hx2 hx3) | ((with_reducible refine gate_store (t := 23) (p := 10) rfl ?_); refine store_box ?hg (ty := 23) (p := 10) (y := .tmp 26) ?ho ?hd gf (cells := #[.string s0, .int .i64 s1, .int .i64 s2, .bool true]) (old := #[.string (⟨#[]⟩ : ByteArray), .int .i64 0, .int .i64 0, .bool false]) (t := 23) ?hx ?hy ?hgg ?hi ?hold ?h1 ?_; (case ho => rfl); (case hg => rfl); (case hd => rfl); (case hx => rfl); (case hy => rfl); (case hgg => exact BKf.out); (case hi => exact size23); (case hold => rfl); (case h1 => simp [Value.oneCell']); intro w26 hbk hbel hoth; have n0_ := Z0 (hbel _ _ HW.out GEf.out); have n1_ := Z0 hbk; clear HW; clear BKf; have HW := n0_; have BKf := n1_; clear n0_ n1_ hbk hbel hoth; have hr0 : w26.cell? ⟨gr, 0, none⟩ = some (.bool a1_0) := (Z4 (Z2 HI.out.rec HW.out) 0).trans rfl; have hr1 : w26.cell? ⟨gr, 1, none⟩ = some (.slice (some ad1) l1.length c1) := (Z4 (Z2 HI.out.rec HW.out) 1).trans rfl; have HBW := Z0 (Z1 HI.out.args HW.out); have hy0 := (HBW.out.cell (World.block_lt_of_cell? w _ HY0.out)).trans HY0.out; have hy1 := (HBW.out.cell (World.block_lt_of_cell? w _ HY1.out)).trans HY1.out; have hy2 := (HBW.out.cell (World.block_lt_of_cell? w _ HY2.out)).trans HY2.out; clear HBW) | ((with_reducible refine Z9 (N := 11) rfl ?_); refine box_event ?hg (N := 11) ?hd (cs := #[.int .i64 0, .int .i64 0, .string (⟨#[]⟩ : ByteArray)]) (t := 25) ?hr ?_; (case hd => rfl); (case hg => rfl); (case hr => go_simp; try rfl); intro gv hg w31 hbox hb; have GEv : Aside0 (W0.heap.size ≤ gv) := ⟨by rw [hg]; exact HW.out.size⟩; have NE : Aside0 (gf ≠ gv) := ⟨by rw [hg]; exact Nat.ne_of_lt (blk_lt BKf.out)⟩; have n0_ := Z0 (Z1 HW.out hb); have n1_ := Z0 (Z2 BKf.out hb); have BKv := Z0 hbox; clear HW; clear BKf; have HW := n0_; have BKf := n1_; clear n0_ n1_ hb hbox hg; clear hr0 hr1 hy0 hy1 hy2) | ((with_reducible refine gate_store (t := 25) (p := 11) rfl ?_); refine store_box ?hg (ty := 25) (p := 11) (y := .tmp 31) ?ho ?hd gv (cells := #[.int .i64 0, .int .i64 v1, .string v2]) (old := #[.int .i64 0, .int .i64 0, .string (⟨#[]⟩ : ByteArray)]) (t := 25) ?hx ?hy ?hgg ?hi ?hold ?h1 ?_; (case ho => rfl); (case hg => rfl); (case hd => rfl); (case hx => rfl); (case hy => rfl); (case hgg => exact BKv.out); (case hi => exact size25); (case hold => rfl); (case h1 => simp [Value.oneCell']); intro w32 hbk hbel hoth; have n0_ := Z0 (hbel _ _ HW.out GEv.out); have n1_ := Z0 hbk; have n2_ := Z0 ((hoth gf NE.out).trans BKf.out); clear HW; clear BKv; clear BKf; have HW := n0_; have BKv := n1_; have BKf := n2_; clear n0_ n1_ n2_ hbk hbel hoth; have kf0 : w32.cell? ⟨gf, 0, none⟩ = some (.string s0) := (Z4 BKf.out 0).trans rfl; have kf1 : w32.cell? ⟨gf, 1, none⟩ = some (.int .i64 s1) := (Z4 BKf.out 1).trans rfl; have kf2 : w32.cell? ⟨gf, 2, none⟩ = some (.int .i64 s2) := (Z4 BKf.out 2).trans rfl; have kf3 : w32.cell? ⟨gf, 3, none⟩ = some (.bool true) := (Z4 BKf.out 3).trans rfl; have kv0 : w32.cell? ⟨gv, 0, none⟩ = some (.int .i64 0) := (Z4 BKv.out 0).trans rfl; have kv1 : w32.cell? ⟨gv, 1, none⟩ = some (.int .i64 v1) := (Z4 BKv.out 1).trans rfl; have kv2 : w32.cell? ⟨gv, 2, none⟩ = some (.string v2) := (Z4 BKv.out 2).trans rfl))
    obtain ⟨ji, hji⟩ : ∃ j_ : Int, (wrap64 (Int.tdiv b 8)) = j_ := ⟨_, rfl⟩
    obtain ⟨jm, hjm⟩ : ∃ j_ : Int, (Int.tmod b 8) = j_ := ⟨_, rfl⟩
    obtain ⟨js, hjs⟩ : ∃ j_ : Int, (shl .u8 1 jm) = j_ := ⟨_, rfl⟩
    have hq := HFL.out
    unfold rowFlag at hq
    simp only [if_true] at hq
    rw [hji, hjm, hjs] at hq
    have hp1 : 0 ≤ ji := by
     by_cases h_ : 0 ≤ ji
     ·exact h_
     rw [if_neg h_] at hq; cases hq
    rw [if_pos hp1] at hq
    have hp2 : ji < (x6.length : Int) := by
     by_cases h_ : ji < (x6.length : Int)
     ·exact h_
     rw [if_neg h_] at hq; cases hq
    rw [if_pos hp2] at hq
    have hp3 : 0 ≤ jm := by
     by_cases h_ : 0 ≤ jm
     ·exact h_
     rw [if_neg h_] at hq; cases hq
    rw [if_pos hp3] at hq
    have hy6 := Option.some.inj hq
    clear hq
    have HP1 := Z0 hp1
    have HP2 := Z0 hp2
    have HY6 := Z0 hy6
    clear hy6
    have c46b0 : decide (0 ≤ (ji)) = true := decide_eq_true hp1
    have c47b0 : decide ((ji) < (x6.length : Int)) = true := decide_eq_true hp2
    have c49b0 := eq_true hp3
    have c49b1 : decide (0 ≤ jm) = true := decide_eq_true hp3
    have hjiw : (IntKind.i64.wrap (Int.tdiv b 8)) = ji := (i64_w _).trans hji
    have hjs_ : (IntKind.u8.wrap (1 * 2 ^ min jm.toNat 8)) = js := hjs
    have hjsz : jm ≤ 8 → (IntKind.u8.wrap (1 * 2 ^ jm.toNat)) = js := shl_small hjs
    have hjsu : (IntKind.u8.wrap (2 ^ min jm.toNat 8)) = js := by have h_ := hjs_; rw [Int.one_mul] at h_; exact h_
    have hjsv : jm ≤ 8 → (IntKind.u8.wrap (2 ^ jm.toNat)) = js := fun hle_ => by have h_ := hjsz hle_; rw [Int.one_mul] at h_; exact h_
    clear hp1 hp2 hp3
    have n0_ := Z0 (RowInv.below (RowInv.below HI.out HW.out) (below_drew1 (Below.refl _ _)))
    have n1_ := Z0 (Y5 BKf.out)
    have n2_ := Z0 (Y5 BKv.out)
    clear HI HW BKf BKv GEf GEv NE
    have HI := n0_
    have BKf := n1_
    have BKv := n2_
    clear n0_ n1_ n2_
    (try clear kf0 kf1 kf2 kf3)
    (try clear kv0 kv1 kv2)
    obtain ⟨ad179, e179, hx179_0⟩ := Kd.at_int (Kd.R_reads' HI.out.2.1).2.2 ji HP1.out HP2.out
    cases e179
    obtain ⟨go51, co51, eo51, gb51, gl51, cl51, HG51⟩ := Kd.R_form HI.out.2.1 (by have := HP1.out; have := HP2.out; omega)
    (first | cases eo51 | (injection eo51 with ea_ en_ ec_; (first | subst ea_ | (injection ea_ with ea_; subst ea_)); subst ec_; clear en_))
    have HNf : Aside0 (gf ≠ go51) := ⟨blk_ne BKf.out HG51 (by decide)⟩
    have HNv : Aside0 (gv ≠ go51) := ⟨blk_ne BKv.out HG51 (by decide)⟩
    clear gb51 gl51 HG51
    (first | simp only [add_plain] at hx179_0 | skip)
    obtain ⟨hx51_0, hf51_0⟩ := Kd.R_celln 0 HI.out.2.1 ji HP1.out HP2.out
    have pp1 := eq_true HP1.out
    have pp2 := eq_true HP2.out
    have HQ := Z0 (RowInv.flag HI.out ji (Go.bits .or .u8 (rd x6 ji) js) HP1.out HP2.out).1
    rw [HY6.out] at HQ
    refine start_ (n := 11) (S := fun w' => w'.cell? ⟨go51, ji.toNat, none⟩ = some (.int .u8 (rd x6 ji))) (ds := [10]) #[false, false, false, false, false, false, false, false, false, false, false] (by kernel_rfl) rfl rfl (hx179_0) (fun hHeld => ?_); refine with_tabW row_tab13 row_bits13 (fun HT_ HW_ => ?_)
    generalize w32.drew = w33 at HI BKf BKv HQ hf51_0 hx179_0 hx51_0 hHeld ⊢
    refine pz 0 37 #[true, false, false, false, false, false, false, false, false, false, false] HT_ ?_
    refine pz 1 38 #[true, true, false, false, false, false, false, false, false, false, false] HT_ ?_
    refine pz 2 39 #[true, true, true, false, false, false, false, false, false, false, false] HT_ ?_
    refine pz 3 40 #[true, true, true, true, false, false, false, false, false, false, false] HT_ ?_
    refine pz 5 42 #[true, true, true, true, false, true, false, false, false, false, false] HT_ ?_
    refine pz 6 43 #[true, true, true, true, false, true, true, false, false, false, false] HT_ ?_
    refine pz 7 44 #[true, true, true, true, false, true, true, true, false, false, false] HT_ ?_
    refine take_ (i := 4) (N := some 41) (v := ?_) (a' := ?_) #[true, true, true, true, true, true, true, true, false, false, false] rfl rfl (take_ofW HT_.out HW_.out (by kernel_rfl)) (fun _ _ _ h => h) (Or.inl ⟨by rfl, ?_⟩) hHeld ?_ ?_
    rotate_left
    ·rintro w' s0
     skip
     go_simp
     with_reducible rfl
    rotate_left
    ·simp only [Act.put, Z3, Z6, Z7, i64_w, i32_w]
     rfl
    refine pz 8 45 #[true, true, true, true, true, true, true, true, true, false, false] HT_ ?_
    refine pz 9 46 #[true, true, true, true, true, true, true, true, true, true, false] HT_ ?_
    refine last_ (i := 10) (N := none) #[true, true, true, true, true, true, true, true, true, true, true] rfl rfl (one_of HT_.out (by kernel_rfl)) (by decide) (fun K hK => ?_)
    refine skip_ (w1 := ?_) (by rfl) rfl ?_ ?_
    rotate_left
    ·go_simp
     rfl
    refine hK.out _ _ ?_
    clear hK K
    refine done_ (done_of HT_.out (by kernel_rfl)) ?_
    have n1_ : Aside0 ((w33.setCell ⟨go51, ji.toNat, none⟩ (.int .u8 (Go.bits .or .u8 (rd x6 ji) js))).heap[gf]? = some (.cells #[.string s0, .int .i64 s1, .int .i64 s2, .bool true] 23 (0, 0))) := ⟨blk_far BKf.out HNf.out _⟩
    have n2_ : Aside0 ((w33.setCell ⟨go51, ji.toNat, none⟩ (.int .u8 (Go.bits .or .u8 (rd x6 ji) js))).heap[gv]? = some (.cells #[.int .i64 0, .int .i64 v1, .string v2] 25 (0, 0))) := ⟨blk_far BKv.out HNv.out _⟩
    clear HI BKf BKv HNf HNv hHeld HT_ HW_ hx179_0 hx51_0 hf51_0 pp1 pp2 c46b0 c47b0 c49b0 c49b1 hjiw hjs_ hjsz hjsu hjsv
    have BKf := n1_
    have BKv := n2_
    have HI := HQ
    clear n1_ n2_ HQ
    generalize w33.setCell ⟨go51, ji.toNat, none⟩ (.int .u8 (Go.bits .or .u8 (rd x6 ji) js)) = w36 at HI BKf BKv ⊢
    obtain ⟨W1, HI, HW⟩ := inv_open HI.out
    have kf0 : w36.cell? ⟨gf, 0, none⟩ = some (.string s0) := (Z4 BKf.out 0).trans rfl
    have kf1 : w36.cell? ⟨gf, 1, none⟩ = some (.int .i64 s1) := (Z4 BKf.out 1).trans rfl
    have kf2 : w36.cell? ⟨gf, 2, none⟩ = some (.int .i64 s2) := (Z4 BKf.out 2).trans rfl
    have kf3 : w36.cell? ⟨gf, 3, none⟩ = some (.bool true) := (Z4 BKf.out 3).trans rfl
    have kv0 : w36.cell? ⟨gv, 0, none⟩ = some (.int .i64 0) := (Z4 BKv.out 0).trans rfl
    have kv1 : w36.cell? ⟨gv, 1, none⟩ = some (.int .i64 v1) := (Z4 BKv.out 1).trans rfl
    have kv2 : w36.cell? ⟨gv, 2, none⟩ = some (.string v2) := (Z4 BKv.out 2).trans rfl
    go_wp2_with (first | ((with_reducible refine Z5 (f := 99) rfl ?_); refine gl Tryz.func99 (strings_Repeat.calls (⟨#[32]⟩ : ByteArray) s2 p _ HREP.out) ?_; rintro e w35 ⟨rfl, hb⟩; refine ⟨_, rfl, ?_⟩; have n0_ := Z0 (Z1 HW.out hb); clear HW; have HW := n0_; clear n0_ hb) | ((with_reducible refine Z5 (f := 111) rfl ?_); refine goesL_ (some 55) rfl rfl Tryz.func111 (by kernel_rfl) rfl #[.pointer (some ⟨gB, 0, none⟩), .string p] rfl V1 ?_; have hbl := HI.out.2.2.2.2.2.2.1; (with_reducible refine (Builder_WriteString gB gB (Lib.byteCells X.data.toList) p _ ?hbl ?hlen ?hBw).mono ?_); (case hbl => exact isBuilder_below hbl HW.out); (case hlen => have := HSZ.out; rw [Lib.byteCells_length]; exact this); (case hBw => have h_ := isBuilder_lt (isBuilder_below hbl HW.out); omega); clear hbl; rintro e w40 ⟨rfl, hbld, hb⟩; refine ⟨_, rfl, ?_⟩; have n0_ := Z0 (RowInv.write (RowInv.below HI.out HW.out) hbld hb); clear HI; have HI := n0_; clear n0_ hbld hb HW BKf BKv; (try clear GEf GEv NE)))
    go_roundg (gk - 1)
    case measure => have := HK.out; have := HN1.out; omega
    case rel => exact ⟨n + 1, y6, (wrap64 (b + 1)), X ++ p, rfl, by rw [HWR.out], ⟨by have h_ := HL.out; rw [HBIT.out true rfl] at h_; exact h_⟩, ⟨by have := HK.out; have := HN1.out; omega⟩, ⟨by have := HN1.out; omega⟩, HI⟩
   skip
   have HPT' : writeO ⟨s0, s1, s2, true⟩ ⟨v0, v1, v2⟩ = some p := by have h_ := HPT.out; unfold rowPart at h_; rw [if_neg hz] at h_; exact h_
   obtain ⟨kc, klo, khi, krf, KF, hkv, hke, hkc⟩ := write_any _ _ _ HPT'
   have HKV := Z0 hkv
   have HKE := Z0 hke
   have HKC := Z0 hkc
   clear HPT' hkv hke hkc
   have hfl : ∀ (a b c d e : Value) (W : World), (Instr.field 102 (.agg #[a, b, c, d, e]) 3).run Tryz.prog W = .ok d W := fun _ _ _ _ _ _ => by kernel_rfl
   have hz0 : (v0 == 0) = false := beq_eq_false_iff_ne.mpr hz
   have hz1 : (v0 != 0) = true := bne_iff_ne.mpr hz
   have HZ := Z0 hz
   clear hz
   have hy6 : x6 = y6 := by have h_ := HFL.out; unfold rowFlag at h_; simp only [if_true, if_neg HZ.out] at h_; exact Option.some.inj h_
   subst hy6
   clear HFL
   go_wp2_with (first | ((with_reducible refine Z9 (N := 10) rfl ?_); refine box_event ?hg (N := 10) ?hd (cs := #[.string (⟨#[]⟩ : ByteArray), .int .i64 0, .int .i64 0, .bool false]) (t := 23) ?hr ?_; (case hd => rfl); (case hg => rfl); (case hr => go_simp; try rfl); intro gf hg w25 hbox hb; have GEf : Aside0 (W0.heap.size ≤ gf) := ⟨by rw [hg]; exact HW.out.size⟩; have n0_ := Z0 (Z1 HW.out hb); have BKf := Z0 hbox; clear HW; have HW := n0_; clear n0_ hb hbox hg; clear hx0 hx1 hx2 hx3) | ((with_reducible refine gate_store (t := 23) (p := 10) rfl ?_); refine store_box ?hg (ty := 23) (p := 10) (y := .tmp 26) ?ho ?hd gf (cells := #[.string s0, .int .i64 s1, .int .i64 s2, .bool true]) (old := #[.string (⟨#[]⟩ : ByteArray), .int .i64 0, .int .i64 0, .bool false]) (t := 23) ?hx ?hy ?hgg ?hi ?hold ?h1 ?_; (case ho => rfl); (case hg => rfl); (case hd => rfl); (case hx => rfl); (case hy => rfl); (case hgg => exact BKf.out); (case hi => exact size23); (case hold => rfl); (case h1 => simp [Value.oneCell']); intro w26 hbk hbel hoth; have n0_ := Z0 (hbel _ _ HW.out GEf.out); have n1_ := Z0 hbk; clear HW; clear BKf; have HW := n0_; have BKf := n1_; clear n0_ n1_ hbk hbel hoth; have hr0 : w26.cell? ⟨gr, 0, none⟩ = some (.bool a1_0) := (Z4 (Z2 HI.out.rec HW.out) 0).trans rfl; have hr1 : w26.cell? ⟨gr, 1, none⟩ = some (.slice (some ad1) l1.length c1) := (Z4 (Z2 HI.out.rec HW.out) 1).trans rfl; have HBW := Z0 (Z1 HI.out.args HW.out); have hy0 := (HBW.out.cell (World.block_lt_of_cell? w _ HY0.out)).trans HY0.out; have hy1 := (HBW.out.cell (World.block_lt_of_cell? w _ HY1.out)).trans HY1.out; have hy2 := (HBW.out.cell (World.block_lt_of_cell? w _ HY2.out)).trans HY2.out; clear HBW) | ((with_reducible refine Z9 (N := 11) rfl ?_); refine box_event ?hg (N := 11) ?hd (cs := #[.int .i64 0, .int .i64 0, .string (⟨#[]⟩ : ByteArray)]) (t := 25) ?hr ?_; (case hd => rfl); (case hg => rfl); (case hr => go_simp; try rfl); intro gv hg w31 hbox hb; have GEv : Aside0 (W0.heap.size ≤ gv) := ⟨by rw [hg]; exact HW.out.size⟩; have NE : Aside0 (gf ≠ gv) := ⟨by rw [hg]; exact Nat.ne_of_lt (blk_lt BKf.out)⟩; have n0_ := Z0 (Z1 HW.out hb); have n1_ := Z0 (Z2 BKf.out hb); have BKv := Z0 hbox; clear HW; clear BKf; have HW := n0_; have BKf := n1_; clear n0_ n1_ hb hbox hg; clear hr0 hr1 hy0 hy1 hy2) | ((with_reducible refine gate_store (t := 25) (p := 11) rfl ?_); refine store_box ?hg (ty := 25) (p := 11) (y := .tmp 31) ?ho ?hd gv (cells := #[.int .i64 v0, .int .i64 v1, .string v2]) (old := #[.int .i64 0, .int .i64 0, .string (⟨#[]⟩ : ByteArray)]) (t := 25) ?hx ?hy ?hgg ?hi ?hold ?h1 ?_; (case ho => rfl); (case hg => rfl); (case hd => rfl); (case hx => rfl); (case hy => rfl); (case hgg => exact BKv.out); (case hi => exact size25); (case hold => rfl); (case h1 => simp [Value.oneCell']); intro w32 hbk hbel hoth; have n0_ := Z0 (hbel _ _ HW.out GEv.out); have n1_ := Z0 hbk; have n2_ := Z0 ((hoth gf NE.out).trans BKf.out); clear HW; clear BKv; clear BKf; have HW := n0_; have BKv := n1_; have BKf := n2_; clear n0_ n1_ n2_ hbk hbel hoth; have kf0 : w32.cell? ⟨gf, 0, none⟩ = some (.string s0) := (Z4 BKf.out 0).trans rfl; have kf1 : w32.cell? ⟨gf, 1, none⟩ = some (.int .i64 s1) := (Z4 BKf.out 1).trans rfl; have kf2 : w32.cell? ⟨gf, 2, none⟩ = some (.int .i64 s2) := (Z4 BKf.out 2).trans rfl; have kf3 : w32.cell? ⟨gf, 3, none⟩ = some (.bool true) := (Z4 BKf.out 3).trans rfl; have kv0 : w32.cell? ⟨gv, 0, none⟩ = some (.int .i64 v0) := (Z4 BKv.out 0).trans rfl; have kv1 : w32.cell? ⟨gv, 1, none⟩ = some (.int .i64 v1) := (Z4 BKv.out 1).trans rfl; have kv2 : w32.cell? ⟨gv, 2, none⟩ = some (.string v2) := (Z4 BKv.out 2).trans rfl))
   have n0_ := Z0 (below_drew1 HW.out)
   have n1_ := Z0 (Y5 BKf.out)
   have n2_ := Z0 (Y5 BKv.out)
   clear HW BKf BKv
   have HW := n0_
   have BKf := n1_
   have BKv := n2_
   clear n0_ n1_ n2_
   (try clear kf0 kf1 kf2 kf3)
   (try clear kv0 kv1 kv2)
   refine start_ (n := 9) (S := fun w' => w'.heap[gf]? = some (.cells #[.string s0, .int .i64 s1, .int .i64 s2, .bool true] 23 (0, 0)) ∧ w'.heap[gv]? = some (.cells #[.int .i64 v0, .int .i64 v1, .string v2] 25 (0, 0))) (ds := [8]) #[false, false, false, false, false, false, false, false, false] (by kernel_rfl) rfl rfl ⟨BKf.out, BKv.out⟩ (fun hHeld => ?_); refine with_tabW row_tab17 row_bits17 (fun HT_ HW_ => ?_)
   generalize w32.drew = w33 at HW BKf BKv hHeld ⊢
   refine pz 1 57 #[false, true, false, false, false, false, false, false, false] HT_ ?_
   refine take_ (i := 2) (N := some 58) (v := ?_) (a' := ?_) #[false, true, true, false, false, false, false, false, false] rfl rfl (take_ofW HT_.out HW_.out (by kernel_rfl)) (fun _ _ _ h => h) (Or.inl ⟨by rfl, ?_⟩) hHeld ?_ ?_
   rotate_left
   ·rintro w' ⟨s0_, s1_⟩
    have sc := (Z4 s0_ 1).trans rfl
    go_simp
    with_reducible rfl
   rotate_left
   ·simp only [Act.put, Z3, Z6, Z7, i64_w, i32_w]
    rfl
   refine take_ (i := 5) (N := some 61) (v := ?_) (a' := ?_) #[false, true, true, false, false, true, false, false, false] rfl rfl (take_ofW HT_.out HW_.out (by kernel_rfl)) (fun _ _ _ h => h) (Or.inl ⟨by rfl, ?_⟩) hHeld ?_ ?_
   rotate_left
   ·rintro w' ⟨s0_, s1_⟩
    have sc0 : w'.cell? ⟨gf, 0, none⟩ = some (.string s0) := (Z4 s0_ 0).trans rfl
    have sc1 : w'.cell? ⟨gf, 1, none⟩ = some (.int .i64 s1) := (Z4 s0_ 1).trans rfl
    have sc2 : w'.cell? ⟨gf, 2, none⟩ = some (.int .i64 s2) := (Z4 s0_ 2).trans rfl
    have sc3 : w'.cell? ⟨gf, 3, none⟩ = some (.bool true) := (Z4 s0_ 3).trans rfl
    go_simp
    with_reducible rfl
   rotate_left
   ·simp only [Act.put, Z3, Z6, Z7, i64_w, i32_w]
    rfl
   refine take_ (i := 6) (N := some 62) (v := ?_) (a' := ?_) #[false, true, true, false, false, true, true, false, false] rfl rfl (take_ofW HT_.out HW_.out (by kernel_rfl)) (fun _ _ _ h => h) (Or.inl ⟨by rfl, ?_⟩) hHeld ?_ ?_
   rotate_left
   ·rintro w' ⟨s0_, s1_⟩
    have sc0 : w'.cell? ⟨gv, 0, none⟩ = some (.int .i64 v0) := (Z4 s1_ 0).trans rfl
    have sc1 : w'.cell? ⟨gv, 1, none⟩ = some (.int .i64 v1) := (Z4 s1_ 1).trans rfl
    have sc2 : w'.cell? ⟨gv, 2, none⟩ = some (.string v2) := (Z4 s1_ 2).trans rfl
    go_simp
    with_reducible rfl
   rotate_left
   ·simp only [Act.put, Z3, Z6, Z7, i64_w, i32_w]
    rfl
   refine one_ (i := 0) (N := some 56) #[true, true, true, false, false, true, true, false, false] rfl rfl (one_of HT_.out (by kernel_rfl)) (by decide) (fun K hK => ?_)
   refine goes_ Tryz.func89 (by kernel_rfl) rfl #[] (by rfl) rfl rfl V1 ?_
   refine (table_kinds w33).mono ?_
   rintro e w34 ⟨rk, rfl, hkb, hb⟩
   refine ⟨_, rfl, ?_⟩
   have HKB := Z0 hkb
   clear hkb
   have n0_ := Z0 (Z1 HW.out hb)
   have n1_ := Z0 (Z2 BKf.out hb)
   have n2_ := Z0 (Z2 BKv.out hb)
   clear HW BKf BKv
   have HW := n0_
   have BKf := n1_
   have BKv := n2_
   clear n0_ n1_ n2_ hb
   refine hK.out _ _ ⟨BKf.out, BKv.out⟩ (fun hHeld => ?_)
   clear hK K
   refine norm_ (a' := ?_) ?_ ?_
   rotate_left
   ·show Act.put _ (some 56) _ = _
    simp only [Act.put, Z3, Z6, Z7, i64_w, i32_w]
    rfl
   refine one_ (i := 3) (N := some 59) #[true, true, true, true, false, true, true, false, false] rfl rfl (one_of HT_.out (by kernel_rfl)) (by decide) (fun K hK => ?_)
   have hlk := run_look' w34 rk HKB.out _ _ HKV.out
   refine event_step (v := .agg #[kc, klo, khi, .func (.func KF) #[] #[], krf]) (w1 := w34) rfl (by first | (go_simp; done) | (go_simp; rfl) | (go_simp; exact ⟨rfl, rfl⟩)) ?_
   refine hK.out _ _ ⟨BKf.out, BKv.out⟩ (fun hHeld => ?_)
   clear hK K
   refine norm_ (a' := ?_) ?_ ?_
   rotate_left
   ·show Act.put _ (some 59) _ = _
    simp only [Act.put, Z3, Z6, Z7, i64_w, i32_w]
    rfl
   clear hlk
   refine one_ (i := 4) (N := some 60) #[true, true, true, true, true, true, true, false, false] rfl rfl (one_of HT_.out (by kernel_rfl)) (by decide) (fun K hK => ?_)
   refine event_step (v := .func (.func KF) #[] #[]) (w1 := w34) rfl (by first | (go_simp; done) | (go_simp; rfl) | (go_simp; exact ⟨rfl, rfl⟩)) ?_
   refine hK.out _ _ ⟨BKf.out, BKv.out⟩ (fun hHeld => ?_)
   clear hK K
   refine norm_ (a' := ?_) ?_ ?_
   rotate_left
   ·show Act.put _ (some 60) _ = _
    simp only [Act.put, Z3, Z6, Z7, i64_w, i32_w]
    rfl
   refine one_ (i := 7) (N := some 63) #[true, true, true, true, true, true, true, true, false] rfl rfl (one_of HT_.out (by kernel_rfl)) (by decide) (fun K hK => ?_)
   refine goesV_ (f := KF) (x := 60) HKE.out #[.agg #[.string s0, .int .i64 s1, .int .i64 s2, .bool true], .agg #[.int .i64 v0, .int .i64 v1, .string v2]] (by rfl) rfl rfl (by rfl) V1 ?_
   refine (HKC.out w34).mono ?_
   rintro e w35 ⟨rfl, hb⟩
   refine ⟨_, rfl, ?_⟩
   have n0_ := Z0 (Z1 HW.out hb)
   have n1_ := Z0 (Z2 BKf.out hb)
   have n2_ := Z0 (Z2 BKv.out hb)
   clear HW BKf BKv
   have HW := n0_
   have BKf := n1_
   have BKv := n2_
   clear n0_ n1_ n2_ hb
   refine hK.out _ _ ⟨BKf.out, BKv.out⟩ (fun hHeld => ?_)
   clear hK K
   refine norm_ (a' := ?_) ?_ ?_
   rotate_left
   ·show Act.put _ (some 63) _ = _
    simp only [Act.put, Z3, Z6, Z7, i64_w, i32_w]
    rfl
   refine last_ (i := 8) (N := some 64) #[true, true, true, true, true, true, true, true, true] rfl rfl (one_of HT_.out (by kernel_rfl)) (by decide) (fun K hK => ?_)
   refine goes_ Tryz.func111 (by kernel_rfl) rfl #[.pointer (some ⟨gB, 0, none⟩), .string p] (by rfl) rfl rfl V1 ?_
   have hbl := HI.out.2.2.2.2.2.2.1; (with_reducible refine (Builder_WriteString gB gB (Lib.byteCells X.data.toList) p _ ?hbl ?hlen ?hBw).mono ?_); (case hbl => exact isBuilder_below hbl HW.out); (case hlen => have := HSZ.out; rw [Lib.byteCells_length]; exact this); (case hBw => have h_ := isBuilder_lt (isBuilder_below hbl HW.out); omega); clear hbl; rintro e w40 ⟨rfl, hbld, hb⟩; refine ⟨_, rfl, ?_⟩; have n0_ := Z0 (RowInv.write (RowInv.below HI.out HW.out) hbld hb); clear HI; have HI := n0_; clear n0_ hbld hb HW BKf BKv; (try clear GEf GEv NE)
   refine hK.out _ _ ?_
   clear hK K
   refine norm_ (a' := ?_) ?_ ?_
   rotate_left
   ·show Act.put _ (some 64) _ = _
    simp only [Act.put, Z3, Z6, Z7, i64_w, i32_w]
    rfl
   refine done_ (done_of HT_.out (by kernel_rfl)) ?_
   clear hHeld HT_ HW_ hfl HKV HKB HKE HKC
   go_wp2
   go_roundg (gk - 1)
   case measure => have := HK.out; have := HN1.out; omega
   case rel => exact ⟨n + 1, x6, (wrap64 (b + 1)), X ++ p, rfl, by rw [HWR.out], ⟨by have h_ := HL.out; rw [HBIT.out true rfl] at h_; exact h_⟩, ⟨by have := HK.out; have := HN1.out; omega⟩, ⟨by have := HN1.out; omega⟩, HI⟩
theorem table_row.calls (A0 : Option Addr) (c0 : Nat) (l0 : List (S23)) (a1_0 : Bool) (A1_1 : Option Addr) (c1_1 : Nat) (l1_1 : List (S25)) (r : List Int) (w : World) (hr0 : Kd.C k23 w A0 l0.length l0) (hc0 : l0.length ≤ c0) (hr1_1 : Kd.C k25 w A1_1 l1_1.length l1_1) (hc1_1 : l1_1.length ≤ c1_1) (h : table_row.f l0 a1_0 l1_1 = some r) :
  Calls Tryz.prog 63 #[.slice A0 l0.length c0, .agg #[.bool a1_0, .slice A1_1 l1_1.length c1_1]] w fun e w' => ∃ v0_ : Value, e = .returned (v0_) ∧ Kd.R (Kd.int .u8) 5 w' w.heap.size (fun _ => True) v0_ r ∧ Below w.heap.size w w' := by
 unfold table_row.f at h
 obtain ⟨t, hA, h⟩ := Option.bind_eq_some_iff.mp h
 split at h
 rotate_left
 ·cases h
 rename_i ht0
 split at h
 rotate_left
 ·cases h
 rename_i ht1
 obtain ⟨⟨F, Y⟩, hL, h⟩ := Option.bind_eq_some_iff.mp h
 split at h
 rotate_left
 ·cases h
 rename_i hs
 obtain rfl := Option.some.inj h
 exact row_walk A0 c0 l0 a1_0 A1_1 c1_1 l1_1 t F Y w hr0 hc0 hr1_1 hc1_1 hA ht0 ht1 hL hs.1 hs.2.2 hs.2.1
def table_written.l0 : Nat → List Int → List (S46) → Int → Int → Int → List (S23) → List (S46) → Option (List Int)
 | 0, _, _, _, _, _, _, _ => none
 | k + 1, x3, x9, x10, x11, x192000, x192001, x192002 => if x11 < x10 then (if 0 ≤ x11 then (if x11 < (x9.length : Int) then ((table_row.f x192001 ((rd_T46 x9 x11).f0) ((rd_T46 x9 x11).f1)).bind fun t197 => (if x3.length + t197.length < 140737488355328 then (table_written.l0 k (x3 ++ t197) x9 x10 (wrap64 (x11 + 1)) x192000 x192001 x192002) else (none))) else (none)) else (none)) else (if x3.length < 140737488355328 then (some (x3 ++ [26])) else (none))
def table_written.f (k : Nat) (a0_0 : Int) (l0_1 : List (S23)) (l0_2 : List (S46)) : Option (List Int) := (table_header.f k a0_0 l0_1 l0_2).bind fun t192 => (table_written.l0 k t192 l0_2 (l0_2.length : Int) 0 a0_0 l0_1 l0_2)
theorem table_written.mono_l : ∀ k, (∀ y0 y1 y2 y3 y4 y5 y6, LeO (table_written.l0 k y0 y1 y2 y3 y4 y5 y6) (table_written.l0 (k + 1) y0 y1 y2 y3 y4 y5 y6))
 | 0 => fun _ _ _ _ _ _ _ r h => by simp [table_written.l0] at h
 | k + 1 => by
  have ih0 := table_written.mono_l k
  ·intro y0 y1 y2 y3 y4 y5 y6
   unfold table_written.l0
   repeat' first
   | (with_reducible exact ih0 _ _ _ _ _ _ _)
   | (with_reducible exact table_header.mono _ _ _ _)
   | (with_reducible exact LeO.refl _)
   | (with_reducible exact LeO.none _)
   | (with_reducible refine LeO.ite ?_ ?_)
   | (with_reducible refine LeO.bind ?_ (fun _ => ?_))
theorem table_written.mono : ∀ a0 a1 a2 k, LeO (table_written.f k a0 a1 a2) (table_written.f (k + 1) a0 a1 a2) := by
 intro a0 a1 a2 k
 have ih0 := table_written.mono_l k
 unfold table_written.f
 repeat' first
   | (with_reducible exact ih0 _ _ _ _ _ _ _)
   | (with_reducible exact table_header.mono _ _ _ _)
   | (with_reducible exact LeO.refl _)
   | (with_reducible exact LeO.none _)
   | (with_reducible refine LeO.ite ?_ ?_)
   | (with_reducible refine LeO.bind ?_ (fun _ => ?_))
theorem table_written.calls (k : Nat) (a0_0 : Int) (A0_1 : Option Addr) (c0_1 : Nat) (l0_1 : List (S23)) (A0_2 : Option Addr) (c0_2 : Nat) (l0_2 : List (S46)) (r : List Int) (w : World) (hr0_1 : Kd.C k23 w A0_1 l0_1.length l0_1) (hc0_1 : l0_1.length ≤ c0_1) (hr0_2 : Kd.C k46 w A0_2 l0_2.length l0_2) (hc0_2 : l0_2.length ≤ c0_2) (h : table_written.f k a0_0 l0_1 l0_2 = some r) :
  Calls Tryz.prog 59 #[.agg #[.int .i64 a0_0, .slice A0_1 l0_1.length c0_1, .slice A0_2 l0_2.length c0_2]] w fun e w' => ∃ v0_ : Value, e = .returned (v0_) ∧ Kd.R (Kd.int .u8) 5 w' w.heap.size (fun _ => True) v0_ r ∧ Below w.heap.size w w' := by
 have hu35 := Tryz.underlying35
 have hu46 := Tryz.underlying46
 have HR0_1 := Z0 hr0_1
 have HC0_1 := Z0 hc0_1
 clear hr0_1 hc0_1
 have HR0_2 := Z0 hr0_2
 have HC0_2 := Z0 hc0_2
 clear hr0_2 hc0_2
 have HB := Z0 (Below.refl w.heap.size w)
 unfold table_written.f at h
 have H := h
 clear h
 replace H := Option.bind_eq_some_iff.mp H
 obtain ⟨t192, A20, H⟩ := H
 replace H : (table_written.l0 k t192 l0_2 (l0_2.length : Int) 0 a0_0 l0_1 l0_2) = some r := H
 have A2 := Z0 A20
 clear A20
 have H' := Z0 H
 clear H
 go_enter Tryz.func59, Tryz.ntmps59
 go_wp2_with (first | ((with_reducible refine Z9 (N := 1) rfl ?_); refine box_event ?hg (N := 1) ?hd (cs := #[.int .i64 a0_0, .slice A0_1 l0_1.length c0_1, .slice A0_2 l0_2.length c0_2]) (t := 35) ?hr ?_; (case hd => rfl); (case hg => rfl); (case hr => go_simp; try rfl); intro gb191 hg w3 hbox hb; have BK191 := Z0 hbox; have GE191 := ge hg V0; replace HB := Z0 (Z1 V0 hb); clear hb hbox hg; have hcz4_0 : w3.cell? ⟨gb191, 0, none⟩ = some (.int .i64 a0_0) := (Z4 BK191.out 0).trans rfl; have hcz4_1 : w3.cell? ⟨gb191, 1, none⟩ = some (.slice A0_1 l0_1.length c0_1) := (Z4 BK191.out 1).trans rfl; have hcz4_2 : w3.cell? ⟨gb191, 2, none⟩ = some (.slice A0_2 l0_2.length c0_2) := (Z4 BK191.out 2).trans rfl; have hfz4_0 := Z8 BK191.out 0; have hfz4_1 := Z8 BK191.out 1; have hfz4_2 := Z8 BK191.out 2) | ((with_reducible refine Z5 (f := 62) rfl ?_); refine gl Tryz.func62 (table_header.calls k a0_0 _ _ l0_1 _ _ l0_2 t192 _ (kc (Kd.C_below HR0_1.out HB.out)) HC0_1.out (kc (Kd.C_below HR0_2.out HB.out)) HC0_2.out A2.out) ?_; rintro e w5 ⟨v193, rfl, ho0, hb⟩; refine ⟨_, rfl, ?_⟩; have HO194 := Z0 (Kd.R_lower ho0 (below_size V0)); replace BK191 := Z0 (Z2 BK191.out hb); replace HB := Z0 (Z1 V0 hb); have hcz6_0 : w5.cell? ⟨gb191, 0, none⟩ = some (.int .i64 a0_0) := (Z4 BK191.out 0).trans rfl; have hcz6_1 : w5.cell? ⟨gb191, 1, none⟩ = some (.slice A0_1 l0_1.length c0_1) := (Z4 BK191.out 1).trans rfl; have hcz6_2 : w5.cell? ⟨gb191, 2, none⟩ = some (.slice A0_2 l0_2.length c0_2) := (Z4 BK191.out 2).trans rfl; have hfz6_0 := Z8 BK191.out 0; have hfz6_1 := Z8 BK191.out 1; have hfz6_2 := Z8 BK191.out 2))
 go_loopg [3, 11] k (fun kq v3 v11 w' => ∃ (x3_1 : List Int) (x11_1 : Int), v11 = .int .i64 x11_1 ∧ Aside0 (table_written.l0 kq x3_1 l0_2 (l0_2.length : Int) x11_1 a0_0 l0_1 l0_2 = some r) ∧ Aside0 (kq ≤ k) ∧ Aside0 (Kd.R (Kd.int .u8) 5 w' w.heap.size (fun _ => True) v3 x3_1) ∧ Aside0 (w'.heap[gb191]? = some (.cells #[.int .i64 a0_0, (.slice A0_1 l0_1.length c0_1), (.slice A0_2 l0_2.length c0_2)] 35 (0, 0))) ∧ Aside0 (Below w.heap.size w w'))
 case atStart => exact ⟨(t192), (0), V2, H', ⟨Nat.le_refl _⟩, ⟨kr HO194.out⟩, ⟨kb BK191.out⟩, ⟨V0⟩⟩
 case round =>
  clear H'
  obtain ⟨x3_1, x11_1, rfl, HA, HK1, HO_3, BK191, HB⟩ := hrel
  cases gk with
  | zero => exact absurd HA.out (by simp [table_written.l0])
  | succ k1 =>
   have H := HA.out
   clear HA
   simp only [table_written.l0] at H
   by_cases c7 : x11_1 < (l0_2.length : Int)
   rotate_left
   ·rw [if_neg c7] at H
    have c7b0 : decide (x11_1 < (l0_2.length : Int)) = false := decide_eq_false c7
    clear c7
    by_cases c19 : x3_1.length < 140737488355328
    rotate_left
    ·rw [if_neg c19] at H
     exact absurd H (by simp)
    rw [if_pos c19] at H
    have LMc19 := Z0 c19
    clear c19
    obtain ⟨y203, hy203⟩ : ∃ y_ : List Int, y_ = (x3_1 ++ [26]) := ⟨_, rfl⟩
    replace H : (some y203) = some r := by rw [hy203]; exact H
    have Ny203 := Z0 hy203
    clear hy203
    obtain rfl := Option.some.inj H
    go_wp2_with (first | ((with_reducible refine gate_builtin (b := .append) (xs := #[.tmp 22, .tmp 23]) rfl ?_); at_builtin; refine Kd.R_append (Kd.int .u8) (w0 := w) w.heap.size rfl (.tmp 22) (.tmp 23) 37 5 (.int .u8 0) 1 rfl Tryz.underlying37 info5 rfl (by decide) (by omega) u3 x3_1 26 [.int .u8 26] (fun _ => True) (fun _ => False) rfl rfl ?aP (fun _ hk => hk.elim) ?aF ?aO ?aB ?aS ?aL ?_; (case aP => exact rfl); (case aB => exact V0); (case aF => exact (fun _ _ => trivial)); (case aO => exact HO_3.out); (case aS => exact (below_size V0)); (case aL => have := LMc19.out; omega); intro v204 w20 ho hb hg hat; rw [← Ny203.out] at ho; replace BK191 := Z0 (blk_grown (g := gb191) (o := .cells #[.int .i64 a0_0, .slice A0_1 l0_1.length c0_1, .slice A0_2 l0_2.length c0_2] 35 (0, 0)) BK191.out hg (Kd.R_ne HO_3.out BK191.out (by decide))); replace HB := Z0 hb; have HO205 := Z0 (ho); clear HO_3; clear ho hb hg hat))
    go_ret
    exact ⟨_, rfl, by (with_reducible repeat (first | apply Kd.R_alloc | apply Kd.R_drewN | apply Kd.R_drew)); exact HO205.out, V0⟩
   rw [if_pos c7] at H
   have c7b0 : decide (x11_1 < (l0_2.length : Int)) = true := decide_eq_true c7
   clear c7
   by_cases c8 : 0 ≤ x11_1
   rotate_left
   ·rw [if_neg c8] at H
    exact absurd H (by simp)
   rw [if_pos c8] at H
   have c8b0 : decide (0 ≤ x11_1) = true := decide_eq_true c8
   clear c8
   by_cases c9 : x11_1 < (l0_2.length : Int)
   rotate_left
   ·rw [if_neg c9] at H
    exact absurd H (by simp)
   rw [if_pos c9] at H
   have c9b0 : decide (x11_1 < (l0_2.length : Int)) = true := decide_eq_true c9
   clear c9
   replace H := Option.bind_eq_some_iff.mp H
   obtain ⟨t197, A100, H⟩ := H
   replace H : (if x3_1.length + t197.length < 140737488355328 then (table_written.l0 k1 (x3_1 ++ t197) l0_2 (l0_2.length : Int) (wrap64 (x11_1 + 1)) a0_0 l0_1 l0_2) else (none)) = some r := H
   have A10 := Z0 A100
   clear A100
   by_cases c11 : x3_1.length + t197.length < 140737488355328
   rotate_left
   ·rw [if_neg c11] at H
    exact absurd H (by simp)
   rw [if_pos c11] at H
   have LMc11 := Z0 c11
   clear c11
   obtain ⟨y200, hy200⟩ : ∃ y_ : List Int, y_ = (x3_1 ++ t197) := ⟨_, rfl⟩
   replace H : (table_written.l0 k1 y200 l0_2 (l0_2.length : Int) (wrap64 (x11_1 + 1)) a0_0 l0_1 l0_2) = some r := by rw [hy200]; exact H
   have Ny200 := Z0 hy200
   clear hy200
   have H' := Z0 H
   clear H
   have p195 : 0 ≤ (x11_1 : Int) := of_decide_eq_true V3
   have q195 : x11_1 < (l0_2.length : Int) := of_decide_eq_true V3
   obtain ⟨ad195, A195_1, c195_1, e195, hx195_0, hx195_1, hl195_1, hi195_1⟩ := at_T46 HR0_2.out x11_1 p195 q195
   cases e195
   replace hx195_0 := hz HB.out hx195_0
   replace hx195_1 := hz HB.out hx195_1
   have HR195_1 := Z0 hi195_1
   have HC195_1 := Z0 hl195_1
   clear hi195_1 hl195_1
   replace p195 := eq_true p195
   replace q195 := eq_true q195
   go_wp2_with (first | ((with_reducible refine Z9 (N := 5) rfl ?_); refine box_event ?hg (N := 5) ?hd (cs := #[.bool false, .slice none 0 0]) (t := 46) ?hr ?_; (case hd => rfl); (case hg => rfl); (case hr => go_simp; try rfl); intro gb196 hg w12 hbox hb; replace HO_3 := Z0 (Kd.R_below HO_3.out hb); have BK196 := Z0 hbox; have GE196 := ge hg V0; replace HB := Z0 (Z1 V0 hb); obtain ⟨NB191_196, NB196_191⟩ := nb hg BK191.out; replace BK191 := Z0 (Z2 BK191.out hb); clear hb hbox hg; have hnb13 := NB196_191.out; have hnc13 := NB191_196.out; have hcz14_0 : w12.cell? ⟨gb196, 0, none⟩ = some (.bool false) := (Z4 BK196.out 0).trans rfl; have hcz14_1 : w12.cell? ⟨gb196, 1, none⟩ = some (.slice none 0 0) := (Z4 BK196.out 1).trans rfl; have hfz14_0 := Z8 BK196.out 0; have hfz14_1 := Z8 BK196.out 1; have hcz15_0 : w12.cell? ⟨gb191, 0, none⟩ = some (.int .i64 a0_0) := (Z4 BK191.out 0).trans rfl; have hcz15_1 : w12.cell? ⟨gb191, 1, none⟩ = some (.slice A0_1 l0_1.length c0_1) := (Z4 BK191.out 1).trans rfl; have hcz15_2 : w12.cell? ⟨gb191, 2, none⟩ = some (.slice (some ad195) l0_2.length c0_2) := (Z4 BK191.out 2).trans rfl; have hfz15_0 := Z8 BK191.out 0; have hfz15_1 := Z8 BK191.out 1; have hfz15_2 := Z8 BK191.out 2) | ((with_reducible refine Z5 (f := 63) rfl ?_); refine gl Tryz.func63 (table_row.calls _ _ l0_1 ((rd_T46 l0_2 x11_1).f0) _ _ ((rd_T46 l0_2 x11_1).f1) t197 _ (Kd.C_below HR0_1.out V0) HC0_1.out (Kd.C_below HR195_1.out V0) HC195_1.out A10.out) ?_; rintro e w16 ⟨v198, rfl, ho0, hb⟩; refine ⟨_, rfl, ?_⟩; have HO199 := Z0 (Kd.R_lower (Kd.R_new' ho0 (Kd.R_lt (kr (Kd.R_mono (Kd.R_far (p := ⟨gb196, 1, none⟩) (Kd.R_far (p := ⟨gb196, 0, none⟩) (Kd.R_types HO_3.out BK196.out (by decide)) (fun _ hk => hk.2) (.bool ((rd_T46 l0_2 x11_1).f0))) (fun _ hk => hk.2) (.slice A195_1 ((rd_T46 l0_2 x11_1).f1).length c195_1)) (fun _ h_ => h_.1))))) (below_size V0)); replace HO_3 := Z0 (Kd.R_elder' (kr (Kd.R_mono (Kd.R_far (p := ⟨gb196, 1, none⟩) (Kd.R_far (p := ⟨gb196, 0, none⟩) (Kd.R_types HO_3.out BK196.out (by decide)) (fun _ hk => hk.2) (.bool ((rd_T46 l0_2 x11_1).f0))) (fun _ hk => hk.2) (.slice A195_1 ((rd_T46 l0_2 x11_1).f1).length c195_1)) (fun _ h_ => h_.1))) (Kd.R_base ho0) hb); replace BK191 := Z0 (Z2 (g := gb191) (o := .cells #[.int .i64 a0_0, .slice A0_1 l0_1.length c0_1, .slice (some ad195) l0_2.length c0_2] 35 (0, 0)) (by (with_reducible repeat (first | refine Y6 ?_ _ | refine Y5 ?_ | refine Y7 ?_ _)); refine blk_far ?_ NB191_196.out _; (with_reducible repeat (first | refine Y6 ?_ _ | refine Y5 ?_ | refine Y7 ?_ _)); refine blk_far ?_ NB191_196.out _; (with_reducible repeat (first | refine Y6 ?_ _ | refine Y5 ?_ | refine Y7 ?_ _)); exact BK191.out) hb); replace BK196 := Z0 (Z2 (g := gb196) (o := .cells #[.bool ((rd_T46 l0_2 x11_1).f0), .slice A195_1 ((rd_T46 l0_2 x11_1).f1).length c195_1] 46 (0, 0)) (by (with_reducible repeat (first | refine Y6 ?_ _ | refine Y5 ?_ | refine Y7 ?_ _)); refine blk_put (cs := #[.bool ((rd_T46 l0_2 x11_1).f0), .slice none 0 0]) ?_ 1 _ rfl; (with_reducible repeat (first | refine Y6 ?_ _ | refine Y5 ?_ | refine Y7 ?_ _)); refine blk_put (cs := #[.bool false, .slice none 0 0]) ?_ 0 _ rfl; (with_reducible repeat (first | refine Y6 ?_ _ | refine Y5 ?_ | refine Y7 ?_ _)); exact BK196.out) hb); replace HB := Z0 (Z1 V0 hb); obtain ⟨Ao18, co18, eo18⟩ := Kd.R_slice HO199.out; subst eo18) | ((with_reducible refine gate_builtin (b := .append) (xs := #[.tmp 15, .tmp 19]) rfl ?_); at_builtin; refine Kd.R_append_rows (Kd.int .u8) (w0 := w) w.heap.size rfl (.tmp 15) (.tmp 19) 37 5 (.int .u8 0) 1 rfl Tryz.underlying37 info5 rfl (by decide) (by omega) u3 x3_1 t197 _ _ _ (fun k_ => some k_ ≠ (.slice Ao18 t197.length co18 : Value).ownBlock) (fun _ => False) rfl rfl ?aO ?aR (fun _ _ h => h) (fun _ h => h.elim) ?aF ?aB ?aS ?aL ?_; (case aR => repeat (first | exact (Kd.R_reads' HO199.out).2.2 | (with_reducible refine Kd.C_alloc ?_ _) | (with_reducible refine Kd.C_drewN ?_ _) | (with_reducible refine Kd.C_drew ?_))); (case aB => exact V0); (case aF => exact (fun k_ hk => Kd.fresh' (Kd.R_lt HO199.out) k_ hk)); (case aO => exact (kr (Kd.R_mono HO_3.out (fun _ hk => hk.2)))); (case aS => exact (below_size V0)); (case aL => have := LMc11.out; omega); intro v201 w17 ho hb hg hat; rw [← Ny200.out] at ho; replace BK191 := Z0 (blk_grown (g := gb191) (o := .cells #[.int .i64 a0_0, .slice A0_1 l0_1.length c0_1, .slice (some ad195) l0_2.length c0_2] 35 (0, 0)) BK191.out hg (Kd.R_ne HO_3.out BK191.out (by decide))); replace BK196 := Z0 (blk_grown (g := gb196) (o := .cells #[.bool ((rd_T46 l0_2 x11_1).f0), .slice A195_1 ((rd_T46 l0_2 x11_1).f1).length c195_1] 46 (0, 0)) BK196.out hg (Kd.R_ne HO_3.out BK196.out (by decide))); replace HO199 := Z0 (Kd.R_after (ok := (fun _ => True)) HO199.out hg hat); replace HB := Z0 hb; have HO202 := Z0 (ho); clear HO_3; clear ho hb hg hat))
   go_roundg k1
   case measure => have := HK1.out; omega
   case rel => exact ⟨(y200), (wrap64 (x11_1 + 1)), V2, H', ⟨by have := HK1.out; omega⟩, ⟨kr (Kd.R_mono HO202.out (fun _ hk => trivial))⟩, ⟨kb BK191.out⟩, ⟨V0⟩⟩
def table_Bytes.f (k : Nat) (a0_0 : Int) (l0_1 : List (S23)) (l0_2 : List (S46)) : Option (List Int × Int) := (table_Validate.f k a0_0 l0_1 l0_2).bind fun t207 => (if t207 = 0 then ((table_written.f k a0_0 l0_1 l0_2).bind fun t208 => (some (t208, 0))) else (some (([] : List Int), t207)))
theorem table_Bytes.mono : ∀ a0 a1 a2 k, LeO (table_Bytes.f k a0 a1 a2) (table_Bytes.f (k + 1) a0 a1 a2) := by
 intro a0 a1 a2 k
 unfold table_Bytes.f
 repeat' first
   | (with_reducible exact table_Validate.mono _ _ _ _)
   | (with_reducible exact table_written.mono _ _ _ _)
   | (with_reducible exact LeO.refl _)
   | (with_reducible exact LeO.none _)
   | (with_reducible refine LeO.ite ?_ ?_)
   | (with_reducible refine LeO.bind ?_ (fun _ => ?_))
theorem table_Bytes.calls (k : Nat) (a0_0 : Int) (A0_1 : Option Addr) (c0_1 : Nat) (l0_1 : List (S23)) (A0_2 : Option Addr) (c0_2 : Nat) (l0_2 : List (S46)) (r1 : List Int) (r2 : Int) (w : World) (hr0_1 : Kd.C k23 w A0_1 l0_1.length l0_1) (hc0_1 : l0_1.length ≤ c0_1) (hr0_2 : Kd.C k46 w A0_2 l0_2.length l0_2) (hc0_2 : l0_2.length ≤ c0_2) (h : table_Bytes.f k a0_0 l0_1 l0_2 = some (r1, r2)) :
  Calls Tryz.prog 17 #[.agg #[.int .i64 a0_0, .slice A0_1 l0_1.length c0_1, .slice A0_2 l0_2.length c0_2]] w fun e w' => ∃ v0_ : Value, e = .returned (.tuple #[v0_, .int .i64 r2]) ∧ Kd.R (Kd.int .u8) 5 w' w.heap.size (fun _ => True) v0_ r1 ∧ Below w.heap.size w w' := by
 have hu35 := Tryz.underlying35
 have HR0_1 := Z0 hr0_1
 have HC0_1 := Z0 hc0_1
 clear hr0_1 hc0_1
 have HR0_2 := Z0 hr0_2
 have HC0_2 := Z0 hc0_2
 clear hr0_2 hc0_2
 have HB := Z0 (Below.refl w.heap.size w)
 unfold table_Bytes.f at h
 have H := h
 clear h
 replace H := Option.bind_eq_some_iff.mp H
 obtain ⟨t207, A20, H⟩ := H
 replace H : (if t207 = 0 then ((table_written.f k a0_0 l0_1 l0_2).bind fun t208 => (some (t208, 0))) else (some (([] : List Int), t207))) = some (r1, r2) := H
 have A2 := Z0 A20
 clear A20
 by_cases c3 : t207 = 0
 rotate_left
 ·rw [if_neg c3] at H
  have c3b0 : (t207 == 0) = false := beq_eq_false_iff_ne.mpr c3
  have c3b1 : (t207 != 0) = true := bne_iff_ne.mpr c3
  simp only [Option.some.injEq, Prod.mk.injEq] at H
  obtain ⟨rfl, rfl⟩ := H
  go_enter Tryz.func17, Tryz.ntmps17
  go_wp2_with (first | ((with_reducible refine Z9 (N := 1) rfl ?_); refine box_event ?hg (N := 1) ?hd (cs := #[.int .i64 a0_0, .slice A0_1 l0_1.length c0_1, .slice A0_2 l0_2.length c0_2]) (t := 35) ?hr ?_; (case hd => rfl); (case hg => rfl); (case hr => go_simp; try rfl); intro gb206 hg w10 hbox hb; have BK206 := Z0 hbox; have GE206 := ge hg HB.out; replace HB := Z0 (Z1 HB.out hb); clear hb hbox hg; have hcz11_0 : w10.cell? ⟨gb206, 0, none⟩ = some (.int .i64 a0_0) := (Z4 BK206.out 0).trans rfl; have hcz11_1 : w10.cell? ⟨gb206, 1, none⟩ = some (.slice A0_1 l0_1.length c0_1) := (Z4 BK206.out 1).trans rfl; have hcz11_2 : w10.cell? ⟨gb206, 2, none⟩ = some (.slice A0_2 l0_2.length c0_2) := (Z4 BK206.out 2).trans rfl; have hfz11_0 := Z8 BK206.out 0; have hfz11_1 := Z8 BK206.out 1; have hfz11_2 := Z8 BK206.out 2) | ((with_reducible refine Z5 (f := 34) rfl ?_); refine gl Tryz.func34 (table_Validate.calls k a0_0 _ _ l0_1 _ _ l0_2 t207 _ (kc (Kd.C_below HR0_1.out HB.out)) HC0_1.out (kc (Kd.C_below HR0_2.out HB.out)) HC0_2.out A2.out) ?_; rintro e w12 ⟨rfl, hb⟩; refine ⟨_, rfl, ?_⟩; replace BK206 := Z0 (Z2 BK206.out hb); replace HB := Z0 (Z1 HB.out hb)))
  go_ret2
  exact ⟨_, rfl, by first | exact Kd.R_nil _ _ _ _ _ | exact Kd.N_nil _ _ _ _ _ | exact Kd.V_nil _ _ _ _ _ | exact Kd.Q_nil _ _ _ _ _ | exact Kd.S_nil _ _ _ _ _, V0⟩
 rw [if_pos c3] at H
 have c3b0 : (t207 == 0) = true := beq_iff_eq.mpr c3
 have c3b1 : (t207 != 0) = false := bne_eq_false_iff_eq.mpr c3
 clear c3
 replace H := Option.bind_eq_some_iff.mp H
 obtain ⟨t208, A40, H⟩ := H
 replace H : (some (t208, 0)) = some (r1, r2) := H
 have A4 := Z0 A40
 clear A40
 simp only [Option.some.injEq, Prod.mk.injEq] at H
 obtain ⟨rfl, rfl⟩ := H
 go_enter Tryz.func17, Tryz.ntmps17
 go_wp2_with (first | ((with_reducible refine Z9 (N := 1) rfl ?_); refine box_event ?hg (N := 1) ?hd (cs := #[.int .i64 a0_0, .slice A0_1 l0_1.length c0_1, .slice A0_2 l0_2.length c0_2]) (t := 35) ?hr ?_; (case hd => rfl); (case hg => rfl); (case hr => go_simp; try rfl); intro gb206 hg w5 hbox hb; have BK206 := Z0 hbox; have GE206 := ge hg HB.out; replace HB := Z0 (Z1 HB.out hb); clear hb hbox hg; have hcz6_0 : w5.cell? ⟨gb206, 0, none⟩ = some (.int .i64 a0_0) := (Z4 BK206.out 0).trans rfl; have hcz6_1 : w5.cell? ⟨gb206, 1, none⟩ = some (.slice A0_1 l0_1.length c0_1) := (Z4 BK206.out 1).trans rfl; have hcz6_2 : w5.cell? ⟨gb206, 2, none⟩ = some (.slice A0_2 l0_2.length c0_2) := (Z4 BK206.out 2).trans rfl; have hfz6_0 := Z8 BK206.out 0; have hfz6_1 := Z8 BK206.out 1; have hfz6_2 := Z8 BK206.out 2) | ((with_reducible refine Z5 (f := 34) rfl ?_); refine gl Tryz.func34 (table_Validate.calls k a0_0 _ _ l0_1 _ _ l0_2 t207 _ (kc (Kd.C_below HR0_1.out HB.out)) HC0_1.out (kc (Kd.C_below HR0_2.out HB.out)) HC0_2.out A2.out) ?_; rintro e w7 ⟨rfl, hb⟩; refine ⟨_, rfl, ?_⟩; replace BK206 := Z0 (Z2 BK206.out hb); replace HB := Z0 (Z1 HB.out hb); have hcz8_0 : w7.cell? ⟨gb206, 0, none⟩ = some (.int .i64 a0_0) := (Z4 BK206.out 0).trans rfl; have hcz8_1 : w7.cell? ⟨gb206, 1, none⟩ = some (.slice A0_1 l0_1.length c0_1) := (Z4 BK206.out 1).trans rfl; have hcz8_2 : w7.cell? ⟨gb206, 2, none⟩ = some (.slice A0_2 l0_2.length c0_2) := (Z4 BK206.out 2).trans rfl; have hfz8_0 := Z8 BK206.out 0; have hfz8_1 := Z8 BK206.out 1; have hfz8_2 := Z8 BK206.out 2) | ((with_reducible refine Z5 (f := 59) rfl ?_); refine gl Tryz.func59 (table_written.calls k a0_0 _ _ l0_1 _ _ l0_2 t208 _ (kc (Kd.C_below HR0_1.out HB.out)) HC0_1.out (kc (Kd.C_below HR0_2.out HB.out)) HC0_2.out A4.out) ?_; rintro e w9 ⟨v209, rfl, ho0, hb⟩; refine ⟨_, rfl, ?_⟩; have HO210 := Z0 (Kd.R_lower ho0 (below_size HB.out)); replace BK206 := Z0 (Z2 BK206.out hb); replace HB := Z0 (Z1 HB.out hb)))
 go_ret2
 exact ⟨_, rfl, by (with_reducible repeat (first | apply Kd.R_alloc | apply Kd.R_drewN | apply Kd.R_drew)); exact HO210.out, V0⟩
def cabinetryref03_Bytes.l0 : Nat → List Int → Int → Int → List (S23) → List (S46) → Option (List Int × Int)
 | 0, _, _, _, _, _ => none
 | k + 1, x5, x6, x229000, x229001, x229002 => if x6 < (x229002.length : Int) then (if 0 ≤ x6 then ((cabinetryref03_row.f k x229001 ((rd_T46 x229002 x6).f0) ((rd_T46 x229002 x6).f1)).bind fun t234 => (if x5.length + t234.length < 140737488355328 then (cabinetryref03_Bytes.l0 k (x5 ++ t234) (wrap64 (x6 + 1)) x229000 x229001 x229002) else (none))) else (none)) else (if x5.length < 140737488355328 then (some ((x5 ++ [26]), 0)) else (none))
def cabinetryref03_Bytes.f (k : Nat) (a0_0 : Int) (l0_1 : List (S23)) (l0_2 : List (S46)) : Option (List Int × Int) := (cabinetryref03_Validate.f k a0_0 l0_1 l0_2).bind fun t229 => (if t229 = 0 then ((cabinetryref03_header.f k a0_0 l0_1 l0_2).bind fun t230 => (cabinetryref03_Bytes.l0 k t230 0 a0_0 l0_1 l0_2)) else (some (([] : List Int), t229)))
theorem cabinetryref03_Bytes.mono_l : ∀ k, (∀ y0 y1 y2 y3 y4, LeO (cabinetryref03_Bytes.l0 k y0 y1 y2 y3 y4) (cabinetryref03_Bytes.l0 (k + 1) y0 y1 y2 y3 y4))
 | 0 => fun _ _ _ _ _ r h => by simp [cabinetryref03_Bytes.l0] at h
 | k + 1 => by
  have ih0 := cabinetryref03_Bytes.mono_l k
  ·intro y0 y1 y2 y3 y4
   unfold cabinetryref03_Bytes.l0
   repeat' first
   | (with_reducible exact ih0 _ _ _ _ _)
   | (with_reducible exact cabinetryref03_Validate.mono _ _ _ _)
   | (with_reducible exact cabinetryref03_header.mono _ _ _ _)
   | (with_reducible exact cabinetryref03_row.mono _ _ _ _)
   | (with_reducible exact LeO.refl _)
   | (with_reducible exact LeO.none _)
   | (with_reducible refine LeO.ite ?_ ?_)
   | (with_reducible refine LeO.bind ?_ (fun _ => ?_))
theorem cabinetryref03_Bytes.mono : ∀ a0 a1 a2 k, LeO (cabinetryref03_Bytes.f k a0 a1 a2) (cabinetryref03_Bytes.f (k + 1) a0 a1 a2) := by
 intro a0 a1 a2 k
 have ih0 := cabinetryref03_Bytes.mono_l k
 unfold cabinetryref03_Bytes.f
 repeat' first
   | (with_reducible exact ih0 _ _ _ _ _)
   | (with_reducible exact cabinetryref03_Validate.mono _ _ _ _)
   | (with_reducible exact cabinetryref03_header.mono _ _ _ _)
   | (with_reducible exact cabinetryref03_row.mono _ _ _ _)
   | (with_reducible exact LeO.refl _)
   | (with_reducible exact LeO.none _)
   | (with_reducible refine LeO.ite ?_ ?_)
   | (with_reducible refine LeO.bind ?_ (fun _ => ?_))
def cabinetryref03_Bytes.T8 : Bool × List (List Nat × List Nat) := (true, [([], []), ([], []), ([1], [1]), ([], []), ([3], [3]), ([], []), ([4, 5], [4, 5]), ([6], [6]), ([2, 7], [2, 7]), ([0, 8, 8], [0, 8]), ([9, 9, 0, 1, 2, 3, 4, 5, 6, 7, 8, 9], [0, 9])])
def cabinetryref03_Bytes.B8 : List Nat := [0, 0, 2, 0, 8, 0, 56, 120, 254, 511, 1023]
theorem cabinetryref03_Bytes.tab8 : rtab .any (opsOf Tryz.f18 8) = cabinetryref03_Bytes.T8 := by kernel_rfl
theorem cabinetryref03_Bytes.bits8 : waitsOk cabinetryref03_Bytes.T8.2 cabinetryref03_Bytes.B8 = true := by kernel_rfl
theorem cabinetryref03_Bytes.calls (k : Nat) (a0_0 : Int) (A0_1 : Option Addr) (c0_1 : Nat) (l0_1 : List (S23)) (A0_2 : Option Addr) (c0_2 : Nat) (l0_2 : List (S46)) (r1 : List Int) (r2 : Int) (w : World) (hr0_1 : Kd.C k23 w A0_1 l0_1.length l0_1) (hc0_1 : l0_1.length ≤ c0_1) (hr0_2 : Kd.C k46 w A0_2 l0_2.length l0_2) (hc0_2 : l0_2.length ≤ c0_2) (h : cabinetryref03_Bytes.f k a0_0 l0_1 l0_2 = some (r1, r2)) :
  Calls Tryz.prog 18 #[.agg #[.int .i64 a0_0, .slice A0_1 l0_1.length c0_1, .slice A0_2 l0_2.length c0_2]] w fun e w' => ∃ v0_ : Value, e = .returned (.tuple #[v0_, .int .i64 r2]) ∧ Kd.R (Kd.int .u8) 5 w' w.heap.size (fun _ => True) v0_ r1 ∧ Below w.heap.size w w' := by
 have hu35 := Tryz.underlying35
 have hu46 := Tryz.underlying46
 have HR0_1 := Z0 hr0_1
 have HC0_1 := Z0 hc0_1
 clear hr0_1 hc0_1
 have HR0_2 := Z0 hr0_2
 have HC0_2 := Z0 hc0_2
 clear hr0_2 hc0_2
 have HB := Z0 (Below.refl w.heap.size w)
 unfold cabinetryref03_Bytes.f at h
 have H := h
 clear h
 replace H := Option.bind_eq_some_iff.mp H
 obtain ⟨t229, A20, H⟩ := H
 replace H : (if t229 = 0 then ((cabinetryref03_header.f k a0_0 l0_1 l0_2).bind fun t230 => (cabinetryref03_Bytes.l0 k t230 0 a0_0 l0_1 l0_2)) else (some (([] : List Int), t229))) = some (r1, r2) := H
 have A2 := Z0 A20
 clear A20
 by_cases c3 : t229 = 0
 rotate_left
 ·rw [if_neg c3] at H
  have c3b0 : (t229 == 0) = false := beq_eq_false_iff_ne.mpr c3
  have c3b1 : (t229 != 0) = true := bne_iff_ne.mpr c3
  simp only [Option.some.injEq, Prod.mk.injEq] at H
  obtain ⟨rfl, rfl⟩ := H
  go_enter Tryz.func18, Tryz.ntmps18
  go_wp2_with (first | ((with_reducible refine Z9 (N := 1) rfl ?_); refine box_event ?hg (N := 1) ?hd (cs := #[.int .i64 a0_0, .slice A0_1 l0_1.length c0_1, .slice A0_2 l0_2.length c0_2]) (t := 35) ?hr ?_; (case hd => rfl); (case hg => rfl); (case hr => go_simp; try rfl); intro gb228 hg w22 hbox hb; have BK228 := Z0 hbox; have GE228 := ge hg HB.out; replace HB := Z0 (Z1 HB.out hb); clear hb hbox hg; have hcz23_0 : w22.cell? ⟨gb228, 0, none⟩ = some (.int .i64 a0_0) := (Z4 BK228.out 0).trans rfl; have hcz23_1 : w22.cell? ⟨gb228, 1, none⟩ = some (.slice A0_1 l0_1.length c0_1) := (Z4 BK228.out 1).trans rfl; have hcz23_2 : w22.cell? ⟨gb228, 2, none⟩ = some (.slice A0_2 l0_2.length c0_2) := (Z4 BK228.out 2).trans rfl; have hfz23_0 := Z8 BK228.out 0; have hfz23_1 := Z8 BK228.out 1; have hfz23_2 := Z8 BK228.out 2) | ((with_reducible refine Z5 (f := 35) rfl ?_); refine gl Tryz.func35 (cabinetryref03_Validate.calls k a0_0 _ _ l0_1 _ _ l0_2 t229 _ (kc (Kd.C_below HR0_1.out HB.out)) HC0_1.out (kc (Kd.C_below HR0_2.out HB.out)) HC0_2.out A2.out) ?_; rintro e w24 ⟨rfl, hb⟩; refine ⟨_, rfl, ?_⟩; replace BK228 := Z0 (Z2 BK228.out hb); replace HB := Z0 (Z1 HB.out hb)))
  go_ret2
  exact ⟨_, rfl, by first | exact Kd.R_nil _ _ _ _ _ | exact Kd.N_nil _ _ _ _ _ | exact Kd.V_nil _ _ _ _ _ | exact Kd.Q_nil _ _ _ _ _ | exact Kd.S_nil _ _ _ _ _, V0⟩
 rw [if_pos c3] at H
 have c3b0 : (t229 == 0) = true := beq_iff_eq.mpr c3
 have c3b1 : (t229 != 0) = false := bne_eq_false_iff_eq.mpr c3
 clear c3
 replace H := Option.bind_eq_some_iff.mp H
 obtain ⟨t230, A40, H⟩ := H
 replace H : (cabinetryref03_Bytes.l0 k t230 0 a0_0 l0_1 l0_2) = some (r1, r2) := H
 have A4 := Z0 A40
 clear A40
 have H' := Z0 H
 clear H
 go_enter Tryz.func18, Tryz.ntmps18
 go_wp2_with (first | ((with_reducible refine Z9 (N := 1) rfl ?_); refine box_event ?hg (N := 1) ?hd (cs := #[.int .i64 a0_0, .slice A0_1 l0_1.length c0_1, .slice A0_2 l0_2.length c0_2]) (t := 35) ?hr ?_; (case hd => rfl); (case hg => rfl); (case hr => go_simp; try rfl); intro gb228 hg w5 hbox hb; have BK228 := Z0 hbox; have GE228 := ge hg HB.out; replace HB := Z0 (Z1 HB.out hb); clear hb hbox hg; have hcz6_0 : w5.cell? ⟨gb228, 0, none⟩ = some (.int .i64 a0_0) := (Z4 BK228.out 0).trans rfl; have hcz6_1 : w5.cell? ⟨gb228, 1, none⟩ = some (.slice A0_1 l0_1.length c0_1) := (Z4 BK228.out 1).trans rfl; have hcz6_2 : w5.cell? ⟨gb228, 2, none⟩ = some (.slice A0_2 l0_2.length c0_2) := (Z4 BK228.out 2).trans rfl; have hfz6_0 := Z8 BK228.out 0; have hfz6_1 := Z8 BK228.out 1; have hfz6_2 := Z8 BK228.out 2) | ((with_reducible refine Z5 (f := 35) rfl ?_); refine gl Tryz.func35 (cabinetryref03_Validate.calls k a0_0 _ _ l0_1 _ _ l0_2 t229 _ (kc (Kd.C_below HR0_1.out HB.out)) HC0_1.out (kc (Kd.C_below HR0_2.out HB.out)) HC0_2.out A2.out) ?_; rintro e w7 ⟨rfl, hb⟩; refine ⟨_, rfl, ?_⟩; replace BK228 := Z0 (Z2 BK228.out hb); replace HB := Z0 (Z1 HB.out hb); have hcz8_0 : w7.cell? ⟨gb228, 0, none⟩ = some (.int .i64 a0_0) := (Z4 BK228.out 0).trans rfl; have hcz8_1 : w7.cell? ⟨gb228, 1, none⟩ = some (.slice A0_1 l0_1.length c0_1) := (Z4 BK228.out 1).trans rfl; have hcz8_2 : w7.cell? ⟨gb228, 2, none⟩ = some (.slice A0_2 l0_2.length c0_2) := (Z4 BK228.out 2).trans rfl; have hfz8_0 := Z8 BK228.out 0; have hfz8_1 := Z8 BK228.out 1; have hfz8_2 := Z8 BK228.out 2) | ((with_reducible refine Z5 (f := 60) rfl ?_); refine gl Tryz.func60 (cabinetryref03_header.calls k a0_0 _ _ l0_1 _ _ l0_2 t230 _ (kc (Kd.C_below HR0_1.out HB.out)) HC0_1.out (kc (Kd.C_below HR0_2.out HB.out)) HC0_2.out A4.out) ?_; rintro e w9 ⟨v231, rfl, ho0, hb⟩; refine ⟨_, rfl, ?_⟩; have HO232 := Z0 (Kd.R_lower ho0 (below_size HB.out)); replace BK228 := Z0 (Z2 BK228.out hb); replace HB := Z0 (Z1 HB.out hb)))
 go_loopg [5, 6] k (fun kq v5 v6 w' => ∃ (x5_1 : List Int) (x6_1 : Int), v6 = .int .i64 x6_1 ∧ Aside0 (cabinetryref03_Bytes.l0 kq x5_1 x6_1 a0_0 l0_1 l0_2 = some (r1, r2)) ∧ Aside0 (kq ≤ k) ∧ Aside0 (Kd.R (Kd.int .u8) 5 w' w.heap.size (fun _ => True) v5 x5_1) ∧ Aside0 (w'.heap[gb228]? = some (.cells #[.int .i64 a0_0, (.slice A0_1 l0_1.length c0_1), (.slice A0_2 l0_2.length c0_2)] 35 (0, 0))) ∧ Aside0 (Below w.heap.size w w'))
 case atStart => exact ⟨(t230), (0), V2, H', ⟨Nat.le_refl _⟩, ⟨kr HO232.out⟩, ⟨bk⟩, ⟨V0⟩⟩
 case round =>
  clear H'
  obtain ⟨x5_1, x6_1, rfl, HA, HK1, HO_5, BK228, HB⟩ := hrel
  cases gk with
  | zero => exact absurd HA.out (by simp [cabinetryref03_Bytes.l0])
  | succ k1 =>
   have H := HA.out
   clear HA
   simp only [cabinetryref03_Bytes.l0] at H
   by_cases c10 : x6_1 < (l0_2.length : Int)
   rotate_left
   ·rw [if_neg c10] at H
    have c10b0 : decide (x6_1 < (l0_2.length : Int)) = false := decide_eq_false c10
    clear c10
    by_cases c19 : x5_1.length < 140737488355328
    rotate_left
    ·rw [if_neg c19] at H
     exact absurd H (by simp)
    rw [if_pos c19] at H
    have LMc19 := Z0 c19
    clear c19
    obtain ⟨y240, hy240⟩ : ∃ y_ : List Int, y_ = (x5_1 ++ [26]) := ⟨_, rfl⟩
    replace H : (some (y240, 0)) = some (r1, r2) := by rw [hy240]; exact H
    have Ny240 := Z0 hy240
    clear hy240
    simp only [Option.some.injEq, Prod.mk.injEq] at H
    obtain ⟨rfl, rfl⟩ := H
    have hcz20_0 : wr.cell? ⟨gb228, 0, none⟩ = some (.int .i64 a0_0) := (Z4 BK228.out 0).trans rfl
    have hcz20_1 : wr.cell? ⟨gb228, 1, none⟩ = some (.slice A0_1 l0_1.length c0_1) := (Z4 BK228.out 1).trans rfl
    have hcz20_2 : wr.cell? ⟨gb228, 2, none⟩ = some (.slice A0_2 l0_2.length c0_2) := (Z4 BK228.out 2).trans rfl
    have hfz20_0 := Z8 BK228.out 0
    have hfz20_1 := Z8 BK228.out 1
    have hfz20_2 := Z8 BK228.out 2
    go_wp2_with (first | ((with_reducible refine gate_builtin (b := .append) (xs := #[.tmp 31, .tmp 32]) rfl ?_); at_builtin; refine Kd.R_append (Kd.int .u8) (w0 := w) w.heap.size rfl (.tmp 31) (.tmp 32) 37 5 (.int .u8 0) 1 rfl Tryz.underlying37 info5 rfl (by decide) (by omega) u5 x5_1 26 [.int .u8 26] (fun _ => True) (fun _ => False) rfl rfl ?aP (fun _ hk => hk.elim) ?aF ?aO ?aB ?aS ?aL ?_; (case aP => exact rfl); (case aB => exact HB.out); (case aF => exact (fun _ _ => trivial)); (case aO => exact HO_5.out); (case aS => exact (below_size HB.out)); (case aL => have := LMc19.out; omega); intro v241 w21 ho hb hg hat; rw [← Ny240.out] at ho; replace BK228 := Z0 (blk_grown (g := gb228) (o := .cells #[.int .i64 a0_0, .slice A0_1 l0_1.length c0_1, .slice A0_2 l0_2.length c0_2] 35 (0, 0)) BK228.out hg (Kd.R_ne HO_5.out BK228.out (by decide))); replace HB := Z0 hb; have HO242 := Z0 (ho); clear HO_5; clear ho hb hg hat))
    go_ret2
    exact ⟨_, rfl, by (with_reducible repeat (first | apply Kd.R_alloc | apply Kd.R_drewN | apply Kd.R_drew)); exact HO242.out, V0⟩
   rw [if_pos c10] at H
   have c10b0 : decide (x6_1 < (l0_2.length : Int)) = true := decide_eq_true c10
   clear c10
   by_cases c11 : 0 ≤ x6_1
   rotate_left
   ·rw [if_neg c11] at H
    exact absurd H (by simp)
   rw [if_pos c11] at H
   have c11b0 : decide (0 ≤ x6_1) = true := decide_eq_true c11
   clear c11
   replace H := Option.bind_eq_some_iff.mp H
   obtain ⟨t234, A120, H⟩ := H
   replace H : (if x5_1.length + t234.length < 140737488355328 then (cabinetryref03_Bytes.l0 k1 (x5_1 ++ t234) (wrap64 (x6_1 + 1)) a0_0 l0_1 l0_2) else (none)) = some (r1, r2) := H
   have A12 := Z0 A120
   clear A120
   by_cases c13 : x5_1.length + t234.length < 140737488355328
   rotate_left
   ·rw [if_neg c13] at H
    exact absurd H (by simp)
   rw [if_pos c13] at H
   have LMc13 := Z0 c13
   clear c13
   obtain ⟨y237, hy237⟩ : ∃ y_ : List Int, y_ = (x5_1 ++ t234) := ⟨_, rfl⟩
   replace H : (cabinetryref03_Bytes.l0 k1 y237 (wrap64 (x6_1 + 1)) a0_0 l0_1 l0_2) = some (r1, r2) := by rw [hy237]; exact H
   have Ny237 := Z0 hy237
   clear hy237
   have H' := Z0 H
   clear H
   have hcz14_0 : wr.cell? ⟨gb228, 0, none⟩ = some (.int .i64 a0_0) := (Z4 BK228.out 0).trans rfl
   have hcz14_1 : wr.cell? ⟨gb228, 1, none⟩ = some (.slice A0_1 l0_1.length c0_1) := (Z4 BK228.out 1).trans rfl
   have hcz14_2 : wr.cell? ⟨gb228, 2, none⟩ = some (.slice A0_2 l0_2.length c0_2) := (Z4 BK228.out 2).trans rfl
   have hfz14_0 := Z8 BK228.out 0
   have hfz14_1 := Z8 BK228.out 1
   have hfz14_2 := Z8 BK228.out 2
   try go_wp2
   have n0_ := Z0 (Kd.R_drew HO_5.out)
   have n1_ := Z0 (Y5 BK228.out)
   have n2_ := Z0 (below_drew1 HB.out)
   clear HO_5
   clear BK228
   clear HB
   have HO_5 := n0_
   have BK228 := n1_
   have HB := n2_
   clear n0_ n1_ n2_
   have p233 : 0 ≤ (x6_1 : Int) := of_decide_eq_true V3
   have q233 : x6_1 < (l0_2.length : Int) := of_decide_eq_true V3
   obtain ⟨ad233, A233_1, c233_1, e233, hx233_0, hx233_1, hl233_1, hi233_1⟩ := at_T46 HR0_2.out x6_1 p233 q233
   have hw233_1 := hx233_1
   have hw233_0 := hx233_0
   cases e233
   replace hx233_0 := hz HB.out hx233_0
   replace hx233_1 := hz HB.out hx233_1
   have HR233_1 := Z0 hi233_1
   have HC233_1 := Z0 hl233_1
   clear hi233_1 hl233_1
   replace p233 := eq_true p233
   replace q233 := eq_true q233
   refine start_ (n := 11) (S := fun w' => w'.cell? ⟨gb228, 0, none⟩ = some (.int .i64 a0_0) ∧ w'.cell? ⟨gb228, 1, none⟩ = some (.slice A0_1 l0_1.length c0_1) ∧ w'.cell? ⟨gb228, 2, none⟩ = some (.slice (some ad233) l0_2.length c0_2) ∧ w'.cell? (ad233.add ((x6_1).toNat * 2)) = some (.bool ((rd_T46 l0_2 x6_1).f0)) ∧ w'.cell? ⟨(ad233.add ((x6_1).toNat * 2)).block, (ad233.add ((x6_1).toNat * 2)).off + 1, none⟩ = some (.slice A233_1 ((rd_T46 l0_2 x6_1).f1).length c233_1)) (ds := []) #[false, false, false, false, false, false, false, false, false, false, false] (by kernel_rfl) rfl rfl ⟨(Z4 BK228.out 0).trans rfl, (Z4 BK228.out 1).trans rfl, (Z4 BK228.out 2).trans rfl, (hz HB.out hw233_0), (hz HB.out hw233_1)⟩ (fun hHeld => ?_); refine with_tabW cabinetryref03_Bytes.tab8 cabinetryref03_Bytes.bits8 (fun HT_ HW_ => ?_)
   generalize wr.drew = w15 at HO_5 BK228 HB HR233_1 hx233_0 hx233_1 hHeld ⊢
   refine pz 0 21 #[true, false, false, false, false, false, false, false, false, false, false] HT_ ?_
   refine pz 1 22 #[true, true, false, false, false, false, false, false, false, false, false] HT_ ?_
   refine pz 3 24 #[true, true, false, true, false, false, false, false, false, false, false] HT_ ?_
   refine pz 5 26 #[true, true, false, true, false, true, false, false, false, false, false] HT_ ?_
   refine tz 2 23 #[true, true, true, true, false, true, false, false, false, false, false] HT_ HW_ hHeld ?_
   refine tz 4 25 #[true, true, true, true, true, true, false, false, false, false, false] HT_ HW_ hHeld ?_
   refine pz 6 27 #[true, true, true, true, true, true, true, false, false, false, false] HT_ ?_
   refine tz 7 28 #[true, true, true, true, true, true, true, true, false, false, false] HT_ HW_ hHeld ?_
   refine one_ (i := 8) (N := some 29) #[true, true, true, true, true, true, true, true, true, false, false] rfl rfl (one_of HT_.out (by kernel_rfl)) (by decide) (fun K hK => ?_)
   refine goes_ Tryz.func61 (by kernel_rfl) rfl #[.slice A0_1 l0_1.length c0_1, .agg #[.bool ((rd_T46 l0_2 x6_1).f0), .slice A233_1 ((rd_T46 l0_2 x6_1).f1).length c233_1]] (by rfl) rfl rfl V1 ?_
   with_reducible refine (cabinetryref03_row.calls k1 _ _ l0_1 ((rd_T46 l0_2 x6_1).f0) _ _ ((rd_T46 l0_2 x6_1).f1) t234 _ ?side1 ?side2 ?side3 ?side4 A12.out).mono ?_
   (case side1 => repeat (first | exact (Kd.C_below HR0_1.out HB.out) | (with_reducible refine Kd.C_alloc ?_ _) | (with_reducible refine Kd.C_drewN ?_ _) | (with_reducible refine Kd.C_drew ?_)))
   (case side2 => exact HC0_1.out)
   (case side3 => repeat (first | exact (Kd.C_below HR233_1.out HB.out) | (with_reducible refine Kd.C_alloc ?_ _) | (with_reducible refine Kd.C_drewN ?_ _) | (with_reducible refine Kd.C_drew ?_)))
   (case side4 => exact HC233_1.out)
   rintro e w16 ⟨v235, rfl, ho0, hb⟩
   refine ⟨_, rfl, ?_⟩
   have n0_ := Z0 (Kd.R_elder' HO_5.out (Kd.R_base ho0) hb)
   have n1_ := Z0 (Kd.R_lower (Kd.R_new' ho0 (Kd.R_lt HO_5.out)) (below_size HB.out))
   have n2_ := Z0 (Z2 BK228.out hb)
   have n3_ := Z0 (Z1 HB.out hb)
   clear HO_5
   clear BK228
   clear HB
   have HO_5 := n0_
   have HO236 := n1_
   have BK228 := n2_
   have HB := n3_
   clear n0_ n1_ n2_ n3_
   obtain ⟨Ao18, co18, eo18⟩ := Kd.R_slice HO236.out
   (first | subst eo18 | (injection eo18 with f1_ f2_ f3_; have f4_ := f1_.symm; have f5_ := f3_.symm; clear f1_ f2_ f3_; subst f4_; subst f5_))
   refine hK.out _ _ ⟨(Z4 BK228.out 0).trans rfl, (Z4 BK228.out 1).trans rfl, (Z4 BK228.out 2).trans rfl, (hz HB.out hw233_0), (hz HB.out hw233_1)⟩ (fun hHeld => ?_)
   clear hK K
   refine norm_ (a' := ?_) ?_ ?_
   rotate_left
   ·show Act.put _ (some 29) _ = _
    simp only [Act.put, Z3, Z6, Z7, i64_w, i32_w]
    rfl
   refine one_ (i := 9) (N := some 30) #[true, true, true, true, true, true, true, true, true, true, false] rfl rfl (one_of HT_.out (by kernel_rfl)) (by decide) (fun K hK => ?_)
   refine Kd.R_append_rows_step (Kd.int .u8) (w0 := w) w.heap.size (by rfl) (.tmp 21) (.tmp 29) 37 5 (.int .u8 0) 1 rfl Tryz.underlying37 info5 rfl (by decide) (by omega) u5 x5_1 t234 _ _ _ (fun k_ => some k_ ≠ (.slice Ao18 t234.length co18 : Value).ownBlock) (fun _ => False) rfl rfl ?aO ?aR (fun _ _ h => h) (fun _ h => h.elim) ?aF ?aB ?aS ?aL ?_
   (case aR => repeat (first | exact (Kd.R_reads' HO236.out).2.2 | (with_reducible refine Kd.C_alloc ?_ _) | (with_reducible refine Kd.C_drewN ?_ _) | (with_reducible refine Kd.C_drew ?_)))
   (case aB => exact HB.out)
   (case aF => exact (fun k_ hk => Kd.fresh' (Kd.R_lt HO236.out) k_ hk))
   (case aO => exact (kr (Kd.R_mono HO_5.out (fun _ hk => hk.2))))
   (case aS => exact (below_size HB.out))
   (case aL => have := LMc13.out; omega)
   intro v238 w17 ho hb hg hat
   rw [← Ny237.out] at ho
   have n0_ := Z0 (blk_grown (g := gb228) (o := .cells #[.int .i64 a0_0, .slice A0_1 l0_1.length c0_1, .slice (some ad233) l0_2.length c0_2] 35 (0, 0)) BK228.out hg (Kd.R_ne HO_5.out BK228.out (by decide)))
   have n1_ := Z0 (Kd.R_after (ok := (fun _ => True)) HO236.out hg hat)
   have n2_ := Z0 hb
   have n3_ := Z0 (ho)
   clear BK228
   clear HO236
   clear HB
   clear HO_5
   have BK228 := n0_
   have HO236 := n1_
   have HB := n2_
   have HO239 := n3_
   clear n0_ n1_ n2_ n3_
   clear ho hb hg hat
   refine hK.out _ _ ⟨(Z4 BK228.out 0).trans rfl, (Z4 BK228.out 1).trans rfl, (Z4 BK228.out 2).trans rfl, (hz HB.out hw233_0), (hz HB.out hw233_1)⟩ (fun hHeld => ?_)
   clear hK K
   refine norm_ (a' := ?_) ?_ ?_
   rotate_left
   ·show Act.put _ (some 30) _ = _
    simp only [Act.put, Z3, Z6, Z7, i64_w, i32_w]
    rfl
   refine pz 10 5 #[true, true, true, true, true, true, true, true, true, true, true] HT_ ?_
   refine done_ (done_of HT_.out (by kernel_rfl)) ?_
   try go_wp2
   go_roundg k1
   case measure => have := HK1.out; omega
   case rel => exact ⟨(y237), (wrap64 (x6_1 + 1)), V2, H', ⟨by have := HK1.out; omega⟩, ⟨kr (Kd.R_mono HO239.out (fun _ hk => trivial))⟩, ⟨bk⟩, ⟨V0⟩⟩
end
theorem recsV_cons {fs : List S23} {pg : Int} {x : S46} {r : List S46} (h : recsV fs pg (x :: r) = 0) : x.f1.length = fs.length ∧ recHolds pg fs x.f1 = true ∧ recsV fs pg r = 0 := by
 simp only [recsV] at h
 split at h
 rotate_left
 ·omega
 split at h
 rotate_left
 ·omega
 exact ⟨by assumption, by assumption, h⟩
theorem recs_go (pg p : Int) (fs : List S23) (rs : List S46) (hL : fs.length ≤ 16) (hne : fs ≠ []) (hf : fs.all fS = true) (hr3 : rs.length ≤ 300) : ∀ (r : List S46) (i : Nat), rs.drop i = r → recsV fs pg r = 0 →
  ∃ Z : List Int, Z.length ≤ 5000 * r.length ∧ ∃ K, ∀ k, K ≤ k → ∀ acc : List Int, acc.length + 5000 * r.length ≤ 100000000 → table_written.l0 k acc rs (rs.length : Int) (i : Int) p fs rs = some (acc ++ Z ++ [26]) ∧ cabinetryref03_Bytes.l0 k acc (i : Int) p fs rs = some (acc ++ Z ++ [26], 0)
 | [], i, h0, hv => by
  have hend : ¬ (i : Int) < (rs.length : Int) := rd_end h0
  refine ⟨[], Nat.zero_le _, 1, fun k hk acc ha => ?_⟩
  obtain ⟨m, rfl⟩ : ∃ m, k = m + 1 := ⟨k - 1, by omega⟩
  simp only [table_written.l0, cabinetryref03_Bytes.l0]
  simp at ha
  constructor
  ·rw [if_neg hend, if_pos (by omega)]
   simp
  ·rw [if_neg hend, if_pos (by omega)]
   simp
 | x :: r, i, h0, hv => by
  obtain ⟨a1, a2, a3⟩ := rd46_drop h0
  obtain ⟨v1, v2, v3⟩ := recsV_cons hv
  obtain ⟨R, r1, r2, K1, r3⟩ := row_is pg fs x.f1 x.f0 hL hne v1.symm hf v2
  obtain ⟨Z, z1, K2, z2⟩ := recs_go pg p fs rs hL hne hf hr3 r (i + 1) a3 v3
  refine ⟨R ++ Z, by rw [List.length_append, List.length_cons]; omega, K1 + K2 + 1, fun k hk acc ha => ?_⟩
  rw [List.length_cons] at ha
  obtain ⟨m, rfl⟩ : ∃ m, k = m + 1 := ⟨k - 1, by omega⟩
  have q : cabinetryref03_row.f m fs x.f0 x.f1 = some R := r3 m (by omega)
  obtain ⟨y1, y2⟩ := z2 m (by omega) (acc ++ R) (by rw [List.length_append]; omega)
  rw [show ((i + 1 : Nat) : Int) = (i : Int) + 1 from by omega] at y1 y2
  constructor
  ·simp only [table_written.l0]
   rw [if_pos (by omega), if_pos (by omega), if_pos (by omega), a2, r1]
   simp only [Option.bind_some]
   rw [if_pos (by omega), wr64 _ (by omega), y1]
   simp
  ·simp only [cabinetryref03_Bytes.l0]
   rw [if_pos (by omega), if_pos (by omega), a2, q]
   simp only [Option.bind_some]
   rw [if_pos (by omega), wr64 _ (by omega), y2]
   simp
section
attribute [local go_sem] max2_int min2_int max_two min_two max_three min_three max_four min_four
def cabinetrylaw03_over.f (k : Nat) (a0_0 : Int) (l0_1 : List (S23)) (l0_2 : List (S46)) : Option (Bool) := (cabinetryref03_Weight.f k a0_0 l0_1 l0_2).bind fun t168 => (some (decide (t168 > 2000000)))
theorem cabinetrylaw03_over.mono : ∀ a0 a1 a2 k, LeO (cabinetrylaw03_over.f k a0 a1 a2) (cabinetrylaw03_over.f (k + 1) a0 a1 a2) := by
 intro a0 a1 a2 k
 unfold cabinetrylaw03_over.f
 repeat' first
   | (with_reducible exact cabinetryref03_Weight.mono _ _ _ _)
   | (with_reducible exact LeO.refl _)
   | (with_reducible exact LeO.none _)
   | (with_reducible refine LeO.ite ?_ ?_)
   | (with_reducible refine LeO.bind ?_ (fun _ => ?_))
theorem cabinetrylaw03_over.calls (k : Nat) (a0_0 : Int) (A0_1 : Option Addr) (c0_1 : Nat) (l0_1 : List (S23)) (A0_2 : Option Addr) (c0_2 : Nat) (l0_2 : List (S46)) (r : Bool) (w : World) (hr0_1 : Kd.C k23 w A0_1 l0_1.length l0_1) (hc0_1 : l0_1.length ≤ c0_1) (hr0_2 : Kd.C k46 w A0_2 l0_2.length l0_2) (hc0_2 : l0_2.length ≤ c0_2) (h : cabinetrylaw03_over.f k a0_0 l0_1 l0_2 = some r) :
  Calls Tryz.prog 16 #[.agg #[.int .i64 a0_0, .slice A0_1 l0_1.length c0_1, .slice A0_2 l0_2.length c0_2]] w fun e w' => e = .returned (.bool r) ∧ Below w.heap.size w w' := by
 have hu35 := Tryz.underlying35
 have HR0_1 := Z0 hr0_1
 have HC0_1 := Z0 hc0_1
 clear hr0_1 hc0_1
 have HR0_2 := Z0 hr0_2
 have HC0_2 := Z0 hc0_2
 clear hr0_2 hc0_2
 have HB := Z0 (Below.refl w.heap.size w)
 unfold cabinetrylaw03_over.f at h
 have H := h
 clear h
 replace H := Option.bind_eq_some_iff.mp H
 obtain ⟨t168, A20, H⟩ := H
 replace H : (some (decide (t168 > 2000000))) = some r := H
 have A2 := Z0 A20
 clear A20
 obtain rfl := Option.some.inj H
 go_enter Tryz.func16, Tryz.ntmps16
 go_wp2_with (first | ((with_reducible refine Z9 (N := 1) rfl ?_); refine box_event ?hg (N := 1) ?hd (cs := #[.int .i64 a0_0, .slice A0_1 l0_1.length c0_1, .slice A0_2 l0_2.length c0_2]) (t := 35) ?hr ?_; (case hd => rfl); (case hg => rfl); (case hr => go_simp; try rfl); intro gb167 hg w3 hbox hb; have BK167 := Z0 hbox; have GE167 := ge hg HB.out; replace HB := Z0 (Z1 HB.out hb); clear hb hbox hg; have hcz4_0 : w3.cell? ⟨gb167, 0, none⟩ = some (.int .i64 a0_0) := (Z4 BK167.out 0).trans rfl; have hcz4_1 : w3.cell? ⟨gb167, 1, none⟩ = some (.slice A0_1 l0_1.length c0_1) := (Z4 BK167.out 1).trans rfl; have hcz4_2 : w3.cell? ⟨gb167, 2, none⟩ = some (.slice A0_2 l0_2.length c0_2) := (Z4 BK167.out 2).trans rfl; have hfz4_0 := Z8 BK167.out 0; have hfz4_1 := Z8 BK167.out 1; have hfz4_2 := Z8 BK167.out 2) | ((with_reducible refine Z5 (f := 24) rfl ?_); refine gl Tryz.func24 (cabinetryref03_Weight.calls k a0_0 _ _ l0_1 _ _ l0_2 t168 _ (kc (Kd.C_below HR0_1.out HB.out)) HC0_1.out (kc (Kd.C_below HR0_2.out HB.out)) HC0_2.out A2.out) ?_; rintro e w5 ⟨rfl, hb⟩; refine ⟨_, rfl, ?_⟩; replace BK167 := Z0 (Z2 BK167.out hb); replace HB := Z0 (Z1 HB.out hb)))
 go_ret
 exact ⟨rfl, V0⟩
end
end Go.Proofs.YtldpdidlfbphcaaGreatDoor.P
end
