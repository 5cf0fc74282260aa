/- Part 4 of this proof: what the last part leans on. -/
import Derived.Test.YtldpdidlfbphcaaGreatDoorBDiff3
set_option linter.unusedVariables false
set_option linter.unusedSimpArgs false
section
namespace Go.Proofs.YtldpdidlfbphcaaGreatDoor.P
open Go.RowKit Go.Proofs.YtldpdidlfbphcaaGreatDoorW.PrintWords Go.Proofs.YtldpdidlfbphcaaGreatDoorW.PrintLast Go.Proofs.YtldpdidlfbphcaaGreatDoorW.PrintMore
theorem rd_drop {l : List S23} {i : Nat} {x : S23} {r : List S23} (h : l.drop i = x :: r) : i < l.length ∧ rd_T23 l (i : Int) = x ∧ l.drop (i + 1) = r ∧ l.take (i + 1) = l.take i ++ [x] := by
 have hl : i < l.length := by
  rcases Nat.lt_or_ge i l.length with h1 | h1
  ·exact h1
  ·rw [List.drop_eq_nil_of_le h1] at h; cases h
 have e := List.drop_eq_getElem_cons hl
 rw [h] at e
 injection e with e1 e2
 refine ⟨hl, ?_, e2.symm, ?_⟩
 ·unfold rd_T23
  rw [Int.toNat_natCast, List.getD_eq_getElem?_getD, List.getElem?_eq_getElem hl, Option.getD_some, e1]
 ·rw [e1]; exact List.take_succ_eq_append_getElem hl
theorem rd_end {α : Type} {l : List α} {i : Nat} (h : l.drop i = []) : ¬ (i : Int) < (l.length : Int) := by
 have := List.drop_eq_nil_iff.1 h
 omega
theorem wrapL {i n : Nat} (h : i < n) (hn : n ≤ 1048576) : wrap64 ((i : Int) + 1) = ((i + 1 : Nat) : Int) := by
 unfold wrap64
 omega
def smallF (l : List S23) : Prop := l.length ≤ 1048576 ∧ ∀ x ∈ l, x.f0.size ≤ 1048576
theorem ref_nulls_go (l : List S23) (hL : l.length ≤ 1048576) : ∀ (r : List S23) (i k acc : Nat), l.drop i = r → r.length < k → acc ≤ i → i ≤ l.length → cabinetryref03_nulls.l0 k l (acc : Int) (i : Int) = some (((acc + nullsN r + 7) / 8 : Nat) : Int)
 | [], i, k, acc, hd, hk, ha, hi => by
  obtain ⟨m, rfl⟩ : ∃ m, k = m + 1 := ⟨k - 1, by simp at hk; omega⟩
  simp only [cabinetryref03_nulls.l0]
  rw [if_neg (rd_end hd)]
  have e : wrap64 ((acc : Int) + 7) = ((acc + 7 : Nat) : Int) := by unfold wrap64; omega
  have e2 : Int.tdiv ((acc + 7 : Nat) : Int) 8 = (((acc + 7) / 8 : Nat) : Int) := rfl
  rw [e, e2]
  refine congrArg some ?_
  unfold nullsN wrap64
  omega
 | x :: r, i, k, acc, hd, hk, ha, hi => by
  obtain ⟨m, rfl⟩ : ∃ m, k = m + 1 := ⟨k - 1, by simp at hk; omega⟩
  obtain ⟨hlt, hx, hr, _⟩ := rd_drop hd
  simp only [cabinetryref03_nulls.l0]
  have e2 : wrap64 ((acc : Int) + 1) = ((acc + 1 : Nat) : Int) := by unfold wrap64; omega
  rw [if_pos (by omega), if_pos (by omega), hx, wrapL hlt hL, e2]
  show _ = some (((acc + ((if x.f3 = true then 1 else 0) + nullsN r) + 7) / 8 : Nat) : Int)
  split
  ·rw [ref_nulls_go l hL r (i + 1) m (acc + 1) hr (by simp at hk; omega) (by omega) (by omega), Nat.add_assoc acc 1]
  ·rw [ref_nulls_go l hL r (i + 1) m acc hr (by simp at hk; omega) (by omega) (by omega), Nat.zero_add]
theorem ref_nulls_is (l : List S23) (hL : l.length ≤ 1048576) (k : Nat) (hk : l.length < k) : cabinetryref03_nulls.f k l = some (((nullsN l + 7) / 8 : Nat) : Int) := by
 have := ref_nulls_go l hL l 0 k 0 List.drop_zero hk (Nat.le_refl _) (Nat.zero_le _)
 rw [Nat.zero_add] at this
 exact this
theorem ref_wide_go (l : List S23) (hL : l.length ≤ 1048576) (hf : l.all fS = true) : ∀ (r : List S23) (i k : Nat) (acc : Int), l.drop i = r → r.length < k → 0 ≤ acc → acc ≤ 1000000000 + 254 * i → cabinetryref03_Wide.l0 k l acc (i : Int) = some (acc + wideN r)
 | [], i, k, acc, hd, hk, ha, hb => by
  obtain ⟨m, rfl⟩ : ∃ m, k = m + 1 := ⟨k - 1, by simp at hk; omega⟩
  simp only [cabinetryref03_Wide.l0]
  rw [if_neg (rd_end hd)]
  refine congrArg some ?_
  unfold wideN
  omega
 | x :: r, i, k, acc, hd, hk, ha, hb => by
  obtain ⟨m, rfl⟩ : ∃ m, k = m + 1 := ⟨k - 1, by simp at hk; omega⟩
  obtain ⟨hlt, hx, hr, _⟩ := rd_drop hd
  have hm : x ∈ l := by rw [← List.take_append_drop i l, hd]; simp
  have hw := fS_width (List.all_eq_true.1 hf _ hm)
  simp only [cabinetryref03_Wide.l0]
  have e2 : wrap64 (acc + x.f2) = acc + x.f2 := by unfold wrap64; omega
  rw [if_pos (by omega), if_pos (by omega), hx, wrapL hlt hL, e2, ref_wide_go l hL hf r (i + 1) m (acc + x.f2) hr (by simp at hk; omega) (by omega) (by omega)]
  refine congrArg some ?_
  show _ = acc + (x.f2 + wideN r)
  omega
theorem ref_wide_is (l : List S23) (hL : l.length ≤ 1048576) (hf : l.all fS = true) (k : Nat) (hk : l.length < k) : cabinetryref03_Wide.f k l = some (lenS l) := by
 unfold cabinetryref03_Wide.f lenS
 have hn := nullsN_le l
 rw [ref_nulls_is l hL k hk, Option.bind_some]
 have e : wrap64 (1 + (((nullsN l + 7) / 8 : Nat) : Int)) = 1 + (((nullsN l + 7) / 8 : Nat) : Int) := by unfold wrap64; omega
 rw [e]
 exact ref_wide_go l hL hf l 0 k _ List.drop_zero hk (by omega) (by omega)
theorem name_eq (a b : ByteArray) : (a.toList = b.toList) ↔ (a == b) = true := by
 rw [ba_toList, ba_toList, show (a == b) = (a.data == b.data) from rfl, beq_iff_eq]
 exact ⟨fun h => Array.ext' h, fun h => by rw [h]⟩
theorem has_snoc (l : List S23) (x : S23) (s : ByteArray) : hasName (l ++ [x]) s = (hasName l s || (s == x.f0)) := by
 unfold hasName
 rw [List.any_append]
 simp
def vfEnd (l : List S23) : Int := if l.length > 16 then 3 else if lenS l > 2000 then 3 else 0
theorem vf_l12 (l : List S23) (hL : l.length ≤ 1048576) (hf : l.all fS = true) (K : Nat) (hK : l.length + 2 < K) : ∀ (r : List S23) (i k : Nat), l.drop i = r → K + (l.length + 2) * r.length < k → cabinetryref03_ValidateFields.l1 k l (i : Int) = some (if dupA (l.take i) r = true then 5 else vfEnd l)
 | [], i, k, hd, hk => by
  obtain ⟨m, rfl⟩ : ∃ m, k = m + 1 := ⟨k - 1, by omega⟩
  simp only [cabinetryref03_ValidateFields.l1]
  rw [if_neg (rd_end hd), show dupA (l.take i) [] = false from rfl, if_neg (show ¬ false = true by decide)]
  unfold vfEnd
  simp only [List.length_nil, Nat.mul_zero] at hk
  by_cases h : l.length > 16
  ·rw [if_pos (by omega), if_pos h]
  ·rw [if_neg (by omega), if_neg h, ref_wide_is l hL hf m (by omega)]
   simp only [Option.bind_some]
   split <;> rfl
 | x :: r, i, k, hd, hk => by
  obtain ⟨m, rfl⟩ : ∃ m, k = m + 1 := ⟨k - 1, by omega⟩
  obtain ⟨hlt, hx, hr, ht⟩ := rd_drop hd
  rw [List.length_cons, Nat.mul_succ] at hk
  simp only [cabinetryref03_ValidateFields.l1]
  rw [if_pos (by omega)]
  have inner : ∀ (n j q : Nat), j + n = i → n + 1 + K + (l.length + 2) * r.length < q + 1 → hasName (l.take j) x.f0 = false → cabinetryref03_ValidateFields.l2 (q + 1) l (i : Int) (j : Int) = some (if dupA (l.take i) (x :: r) = true then 5 else vfEnd l) := by
   intro n
   induction n with
   | zero =>
    intro j q hj hq hn
    obtain rfl : j = i := by omega
    simp only [cabinetryref03_ValidateFields.l2]
    rw [if_neg (by omega), wrapL hlt hL, vf_l12 l hL hf K hK r (j + 1) q hr (by omega), ht]
    show _ = some (if (hasName (l.take j) x.f0 || dupA (l.take j ++ [x]) r) = true then 5 else vfEnd l)
    rw [hn, Bool.false_or]
   | succ n ih =>
    intro j q hj hq hn
    have hjl : j < l.length := by omega
    have hdj := List.drop_eq_getElem_cons hjl
    obtain ⟨_, hy, _, hty⟩ := rd_drop hdj
    simp only [cabinetryref03_ValidateFields.l2]
    rw [if_pos (by omega), if_pos (by omega), if_pos (by omega), if_pos (by omega), if_pos (by omega), hx, hy]
    by_cases he : x.f0.toList = (l[j]).f0.toList
    ·rw [if_pos he]
     have hb := (name_eq _ _).1 he
     have hin : hasName (l.take i) x.f0 = true := by
      unfold hasName
      rw [List.any_eq_true]
      refine ⟨l[j], ?_, hb⟩
      rw [List.mem_take_iff_getElem]
      exact ⟨j, by omega, rfl⟩
     show _ = some (if (hasName (l.take i) x.f0 || dupA (l.take i ++ [x]) r) = true then 5 else vfEnd l)
     rw [hin]
     rfl
    ·rw [if_neg he, wrapL hjl hL]
     obtain ⟨q', rfl⟩ : ∃ q', q = q' + 1 := ⟨q - 1, by omega⟩
     refine ih (j + 1) q' (by omega) (by omega) ?_
     rw [hty, has_snoc, hn, Bool.false_or]
     cases hb : (x.f0 == (l[j]).f0)
     ·rfl
     ·exact absurd ((name_eq _ _).2 hb) he
  obtain ⟨q, rfl⟩ : ∃ q, m = q + 1 := ⟨m - 1, by omega⟩
  exact inner i 0 q (by omega) (by omega) (by rw [List.take_zero]; rfl)
theorem vf_l0 (l : List S23) (h : smallF l) (hK : Nat) : ∀ (r : List S23) (i k : Nat), l.drop i = r → r.length + 1048580 < k → (r.all fS = false → cabinetryref03_ValidateFields.l0 k l (i : Int) = some 1) ∧ (r.all fS = true → ∃ m, m + r.length + 1 = k ∧ cabinetryref03_ValidateFields.l0 k l (i : Int) = cabinetryref03_ValidateFields.l1 m l 0)
 | [], i, k, hd, hk => by
  obtain ⟨m, rfl⟩ : ∃ m, k = m + 1 := ⟨k - 1, by omega⟩
  refine ⟨fun h => by simp at h, fun _ => ⟨m, rfl, ?_⟩⟩
  simp only [cabinetryref03_ValidateFields.l0]
  rw [if_neg (rd_end hd)]
 | x :: r, i, k, hd, hk => by
  obtain ⟨m, rfl⟩ : ∃ m, k = m + 1 := ⟨k - 1, by omega⟩
  obtain ⟨hlt, hx, hr, _⟩ := rd_drop hd
  have hm : x ∈ l := by rw [← List.take_append_drop i l, hd]; simp
  have hs := h.2 x hm
  simp only [List.length_cons] at hk
  have ih := vf_l0 l h hK r (i + 1) m hr (by omega)
  have e : cabinetryref03_ValidateFields.l0 (m + 1) l (i : Int) = if fS x = true then cabinetryref03_ValidateFields.l0 m l ((i + 1 : Nat) : Int) else some 1 := by
   conv => lhs; rw [cabinetryref03_ValidateFields.l0]
   rw [if_pos (by omega), if_pos (by omega), hx, refField_is x.f0 x.f1 x.f2 x.f3 m (by omega), wrapL hlt h.1]
   rfl
  rw [e, List.all_cons]
  by_cases hfx : fS x = true
  ·rw [hfx, if_pos rfl, Bool.true_and]
   refine ⟨ih.1, fun ha => ?_⟩
   obtain ⟨q, hq, he⟩ := ih.2 ha
   exact ⟨q, by simp; omega, he⟩
  ·have hfx' : fS x = false := by simpa using hfx
   rw [hfx', if_neg (by decide)]
   exact ⟨fun _ => rfl, fun ha => by simp at ha⟩
theorem refVF_is (l : List S23) (h : smallF l) : ∃ K, ∀ k, K ≤ k → cabinetryref03_ValidateFields.f k l = some (vfS l) := by
 refine ⟨l.length + 1048590 + (l.length + 3 + (l.length + 2) * l.length), fun k hk => ?_⟩
 unfold cabinetryref03_ValidateFields.f vfS
 by_cases h0 : l.length = 0
 ·rw [if_pos (by omega), if_pos h0]
 ·rw [if_neg (by omega), if_neg h0]
  have a := vf_l0 l h 0 l 0 k List.drop_zero (by omega)
  cases ha : l.all fS
  ·rw [if_pos rfl]
   exact a.1 ha
  ·rw [if_neg (by decide)]
   obtain ⟨m, hm, e⟩ := a.2 ha
   have b := vf_l12 l h.1 ha (l.length + 3) (by omega) l 0 m List.drop_zero (by omega)
   refine e.trans (b.trans ?_)
   rw [List.take_zero]
   unfold vfEnd
   rfl
theorem weightOf_some (l : List S25) (hL : l.length ≤ 1048576) : ∀ (n i k : Nat) (acc : Int), i + n = l.length → n < k → ∃ r, cabinetryref03_WeightOf.l0 k l acc (i : Int) = some r
 | 0, i, k, acc, h, hk => by
  obtain ⟨m, rfl⟩ : ∃ m, k = m + 1 := ⟨k - 1, by omega⟩
  simp only [cabinetryref03_WeightOf.l0]
  rw [if_neg (by omega)]
  exact ⟨_, rfl⟩
 | n + 1, i, k, acc, h, hk => by
  obtain ⟨m, rfl⟩ : ∃ m, k = m + 1 := ⟨k - 1, by omega⟩
  simp only [cabinetryref03_WeightOf.l0]
  rw [if_pos (by omega), if_pos (by omega), wrapL (show i < l.length by omega) hL]
  exact weightOf_some l hL n (i + 1) m _ (by omega) (by omega)
def smallR (l : List S46) : Prop := l.length ≤ 1048576 ∧ ∀ x ∈ l, x.f1.length ≤ 1048576
theorem weight1_some (pg : Int) (fs : List S23) (l : List S46) (hl : smallR l) : ∀ (n i k : Nat) (acc : Int), i + n = l.length → n + 1048577 < k → ∃ r, cabinetryref03_Weight.l1 k acc (i : Int) pg fs l = some r
 | 0, i, k, acc, h, hk => by
  obtain ⟨m, rfl⟩ : ∃ m, k = m + 1 := ⟨k - 1, by omega⟩
  simp only [cabinetryref03_Weight.l1]
  rw [if_neg (by omega)]
  exact ⟨_, rfl⟩
 | n + 1, i, k, acc, h, hk => by
  obtain ⟨m, rfl⟩ : ∃ m, k = m + 1 := ⟨k - 1, by omega⟩
  have hi : i < l.length := by omega
  have hx : rd_T46 l (i : Int) = l[i] := by
   unfold rd_T46
   rw [Int.toNat_natCast, List.getD_eq_getElem?_getD, List.getElem?_eq_getElem hi, Option.getD_some]
  have hs := hl.2 l[i] (List.getElem_mem _)
  obtain ⟨q, hq⟩ := weightOf_some (l[i]).f1 hs (l[i]).f1.length 0 m (wrap64 (8 * ((l[i]).f1.length : Int))) (by omega) (by omega)
  simp only [cabinetryref03_Weight.l1]
  rw [if_pos (by omega), if_pos (by omega), wrapL hi hl.1, hx]
  unfold cabinetryref03_WeightOf.f
  rw [show ((0 : Nat) : Int) = 0 from rfl] at hq
  rw [hq]
  exact weight1_some pg fs l hl n (i + 1) m _ (by omega) (by omega)
theorem weight0_some (pg : Int) (fs : List S23) (l : List S46) (hf : fs.length ≤ 1048576) (hl : smallR l) : ∀ (n i k : Nat) (acc : Int), i + n = fs.length → n + 1 + l.length + 1048577 < k → ∃ r, cabinetryref03_Weight.l0 k acc (i : Int) pg fs l = some r
 | 0, i, k, acc, h, hk => by
  obtain ⟨m, rfl⟩ : ∃ m, k = m + 1 := ⟨k - 1, by omega⟩
  simp only [cabinetryref03_Weight.l0]
  rw [if_neg (by omega)]
  exact weight1_some pg fs l hl l.length 0 m acc (by omega) (by omega)
 | n + 1, i, k, acc, h, hk => by
  obtain ⟨m, rfl⟩ : ∃ m, k = m + 1 := ⟨k - 1, by omega⟩
  simp only [cabinetryref03_Weight.l0]
  rw [if_pos (by omega), if_pos (by omega), wrapL (show i < fs.length by omega) hf]
  exact weight0_some pg fs l hf hl n (i + 1) m _ (by omega) (by omega)
theorem weight_some (pg : Int) (fs : List S23) (l : List S46) (hf : fs.length ≤ 1048576) (hl : smallR l) (k : Nat) (hk : 3200000 < k) : ∃ r, cabinetryref03_Weight.f k pg fs l = some r :=
 weight0_some pg fs l hf hl fs.length 0 k _ (by omega) (by have := hl.1; omega)
end Go.Proofs.YtldpdidlfbphcaaGreatDoor.P
end
section
namespace Go.Proofs.YtldpdidlfbphcaaGreatDoor.R
theorem small_fields {xs : List P.S23} (h : (xs.map g23).sum ≤ 1048576) : P.smallF xs := by
 refine ⟨?_, fun x hx => ?_⟩
 ·have := sum_len g23 1 (fun x => by unfold g23; omega) xs
  omega
 ·have h1 := sum_mem g23 hx
  have h2 : g23 x = x.f0.size + 5 := rfl
  omega
theorem small_recs {ys : List P.S46} (h : (ys.map g46).sum ≤ 1048576) : P.smallR ys ∧ ∀ y ∈ ys, ∀ v ∈ y.f1, v.f2.size ≤ 1048576 := by
 refine ⟨⟨?_, fun y hy => ?_⟩, fun y hy v hv => ?_⟩
 ·have := sum_len g46 1 (fun x => by unfold g46; omega) ys
  omega
 ·have a := sum_mem g46 hy
  have b := sum_len g25 1 (fun x => by unfold g25; omega) y.f1
  have c : g46 y = (y.f1.map g25).sum + 3 := rfl
  omega
 ·have a := sum_mem g46 hy
  have b := sum_mem g25 hv
  have c : g46 y = (y.f1.map g25).sum + 3 := rfl
  have d : g25 v = v.f2.size + 4 := rfl
  omega
end Go.Proofs.YtldpdidlfbphcaaGreatDoor.R
end
section
namespace Go.Proofs.YtldpdidlfbphcaaGreatDoor.P
open Go.RowKit Go.Proofs.YtldpdidlfbphcaaGreatDoorW.PrintWords Go.Proofs.YtldpdidlfbphcaaGreatDoorW.PrintLast Go.Proofs.YtldpdidlfbphcaaGreatDoorW.PrintMore
theorem blanks_size (s : ByteArray) : (blanksOff s).size ≤ s.size := by
 unfold blanksOff
 rw [ba_size, ← data_length s]
 exact trimRightS_len _ _
theorem extract_all (s : ByteArray) (n : Nat) (h : s.size ≤ n) : s.extract 0 (min s.size n) = s := by
 rw [Nat.min_eq_left h]
 apply ByteArray.ext
 rw [ByteArray.data_extract]
 exact Array.extract_size
end Go.Proofs.YtldpdidlfbphcaaGreatDoor.P
end
section
namespace Go.Proofs.YtldpdidlfbphcaaGreatDoor.P
open Go.RowKit Go.Proofs.YtldpdidlfbphcaaGreatDoorW.PrintWords Go.Proofs.YtldpdidlfbphcaaGreatDoorW.PrintLast Go.Proofs.YtldpdidlfbphcaaGreatDoorW.PrintMore
attribute [local go_sem] max2_int min2_int max_two min_two max_three min_three max_four min_four
theorem eqA25 (d : Nat) (w : World) (x0 y0 : Int) (x1 y1 : Int) (x2 y2 : ByteArray) :
  (Op.equalIn (d + 2) 25 (.agg #[.int .i64 x0, .int .i64 x1, .string x2]) (.agg #[.int .i64 y0, .int .i64 y1, .string y2])).run Tryz.prog w = .ok (x0 == y0 && (x1 == y1 && (x2.toList == y2.toList))) w := by
 refine eqA_of Tryz.underlying25 (by kernel_rfl) ?_
 refine eqf_cons (by rfl) (by go_simp; rfl) (by go_simp; rfl) (by go_simp) ?_
 refine eqf_cons (by rfl) (by go_simp; rfl) (by go_simp; rfl) (by go_simp) ?_
 exact eqf_last (by rfl) (by go_simp; rfl) (by go_simp; rfl) (by go_simp)
end Go.Proofs.YtldpdidlfbphcaaGreatDoor.P
end
section
namespace Go.Proofs.YtldpdidlfbphcaaGreatDoor.P
open Go.RowKit Go.Proofs.YtldpdidlfbphcaaGreatDoorW.PrintWords Go.Proofs.YtldpdidlfbphcaaGreatDoorW.PrintLast Go.Proofs.YtldpdidlfbphcaaGreatDoorW.PrintMore
attribute [local go_sem] max2_int min2_int max_two min_two max_three min_three max_four min_four
attribute [local go_sem high] eqA25
def table_holds.f (k : Nat) (a0_0 : ByteArray) (a0_1 : Int) (a0_2 : Int) (a0_3 : Bool) (a1 : Int) (a2_0 : Int) (a2_1 : Int) (a2_2 : ByteArray) : Option (Bool) := if a2_0 = 0 then (if a0_3 = true then (some (a2_0 == 0 && (a2_1 == 0 && (a2_2.toList == ([] : List UInt8))))) else (some false)) else ((val_Validate.f k a2_0 a2_1 a2_2).bind fun t176 => (if t176 = 0 then ((table_Fit.f a0_0 a0_1 a0_2 a0_3 a1 a2_0 a2_1 a2_2).bind fun bt177 => (if bt177.2.2.2 = 0 then (some (bt177.1 == a2_0 && (bt177.2.1 == a2_1 && (bt177.2.2.1.toList == a2_2.toList)))) else (some false))) else (some false)))
theorem table_holds.mono : ∀ a0 a1 a2 a3 a4 a5 a6 a7 k, LeO (table_holds.f k a0 a1 a2 a3 a4 a5 a6 a7) (table_holds.f (k + 1) a0 a1 a2 a3 a4 a5 a6 a7) := by
 intro a0 a1 a2 a3 a4 a5 a6 a7 k
 unfold table_holds.f
 repeat' first
   | (with_reducible exact val_Validate.mono _ _ _ _)
   | (with_reducible exact LeO.refl _)
   | (with_reducible exact LeO.none _)
   | (with_reducible refine LeO.ite ?_ ?_)
   | (with_reducible refine LeO.bind ?_ (fun _ => ?_))
set_option maxHeartbeats 8000000 in
set_option maxRecDepth 100000 in
theorem table_holds.calls (k : Nat) (a0_0 : ByteArray) (a0_1 : Int) (a0_2 : Int) (a0_3 : Bool) (a1 : Int) (a2_0 : Int) (a2_1 : Int) (a2_2 : ByteArray) (r : Bool) (w : World) (h : table_holds.f k a0_0 a0_1 a0_2 a0_3 a1 a2_0 a2_1 a2_2 = some r) :
  Calls Tryz.prog 73 #[.agg #[.string a0_0, .int .i64 a0_1, .int .i64 a0_2, .bool a0_3], .int .i64 a1, .agg #[.int .i64 a2_0, .int .i64 a2_1, .string a2_2]] w fun e w' => e = .returned (.bool r) ∧ Below w.heap.size w w' := by
 have hu23 := Tryz.underlying23
 have hu25 := Tryz.underlying25
 have HB := Z0 (Below.refl w.heap.size w)
 have H : (if a2_0 = 0 then (if a0_3 = true then (some (a2_0 == 0 && (a2_1 == 0 && (a2_2.toList == ([] : List UInt8))))) else (some false)) else ((val_Validate.f k a2_0 a2_1 a2_2).bind fun t176 => (if t176 = 0 then ((table_Fit.f a0_0 a0_1 a0_2 a0_3 a1 a2_0 a2_1 a2_2).bind fun bt177 => (if bt177.2.2.2 = 0 then (some (bt177.1 == a2_0 && (bt177.2.1 == a2_1 && (bt177.2.2.1.toList == a2_2.toList)))) else (some false))) else (some false)))) = some r := h
 clear h
 by_cases c4 : a2_0 = 0
 ·rw [if_pos c4] at H
  have c4b0 : (a2_0 == 0) = true := beq_iff_eq.mpr c4
  have c4b1 : (a2_0 != 0) = false := bne_eq_false_iff_eq.mpr c4
  clear c4
  by_cases c5 : a0_3 = true
  ·subst c5
   have H1 : (some (a2_0 == 0 && (a2_1 == 0 && (a2_2.toList == ([] : List UInt8))))) = some r := by rw [if_pos rfl] at H; exact H
   clear H
   have H := H1
   clear H1
   obtain rfl := Option.some.inj H
   go_enter Tryz.func73, Tryz.ntmps73
   go_wp2_with (first | ((with_reducible refine Y1 (N := 3) rfl ?_); refine bx (N := 3) (cs := #[.string a0_0, .int .i64 a0_1, .int .i64 a0_2, .bool true]) (t := 23) ?_; intro gb174 hg w6 hbox hb; have BK174 := Z0 (hbox); have GE174 := Z0 ((by rw [hg]; exact (Z9 HB.out) : w.heap.size ≤ gb174)); replace HB := Z0 (Z4 HB.out hb); clear hb hbox hg) | ((with_reducible refine Y1 (N := 5) rfl ?_); refine bx (N := 5) (cs := #[.int .i64 a2_0, .int .i64 a2_1, .string a2_2]) (t := 25) ?_; intro gb175 hg w7 hbox hb; have BK175 := Z0 (hbox); have GE175 := Z0 ((by rw [hg]; exact (Z9 HB.out) : w.heap.size ≤ gb175)); replace HB := Z0 (Z4 HB.out hb); have NB174_175 := Z0 ((by rw [hg]; exact Nat.ne_of_lt (blk_lt BK174.out) : gb174 ≠ gb175)); have NB175_174 := Z0 ((by rw [hg]; exact Nat.ne_of_gt (blk_lt BK174.out) : gb175 ≠ gb174)); replace BK174 := Z0 (Z5 BK174.out hb); clear hb hbox hg; have hnb8 := NB175_174.out; have hnc8 := NB174_175.out; obtain ⟨hcz9_0, hcz9_1, hcz9_2⟩ := bc3 BK175.out; obtain ⟨hfz9_0, hfz9_1, hfz9_2⟩ := bf3 BK175.out; obtain ⟨hcz10_0, hcz10_1, hcz10_2, hcz10_3⟩ := bc4 BK174.out; obtain ⟨hfz10_0, hfz10_1, hfz10_2, hfz10_3⟩ := bf4 BK174.out))
   go_ret
   exact ⟨rfl, V0⟩
  ·replace c5 := Bool.eq_false_iff.mpr c5
   subst c5
   have H1 : (some false) = some r := by rw [if_neg (show ¬ (false = true) by decide)] at H; exact H
   clear H
   have H := H1
   clear H1
   obtain rfl := Option.some.inj H
   go_enter Tryz.func73, Tryz.ntmps73
   go_wp2_with (first | ((with_reducible refine Y1 (N := 3) rfl ?_); refine bx (N := 3) (cs := #[.string a0_0, .int .i64 a0_1, .int .i64 a0_2, .bool false]) (t := 23) ?_; intro gb174 hg w11 hbox hb; have BK174 := Z0 (hbox); have GE174 := Z0 ((by rw [hg]; exact (Z9 HB.out) : w.heap.size ≤ gb174)); replace HB := Z0 (Z4 HB.out hb); clear hb hbox hg) | ((with_reducible refine Y1 (N := 5) rfl ?_); refine bx (N := 5) (cs := #[.int .i64 a2_0, .int .i64 a2_1, .string a2_2]) (t := 25) ?_; intro gb175 hg w12 hbox hb; have BK175 := Z0 (hbox); have GE175 := Z0 ((by rw [hg]; exact (Z9 HB.out) : w.heap.size ≤ gb175)); replace HB := Z0 (Z4 HB.out hb); have NB174_175 := Z0 ((by rw [hg]; exact Nat.ne_of_lt (blk_lt BK174.out) : gb174 ≠ gb175)); have NB175_174 := Z0 ((by rw [hg]; exact Nat.ne_of_gt (blk_lt BK174.out) : gb175 ≠ gb174)); replace BK174 := Z0 (Z5 BK174.out hb); clear hb hbox hg; have hnb13 := NB175_174.out; have hnc13 := NB174_175.out; obtain ⟨hcz14_0, hcz14_1, hcz14_2⟩ := bc3 BK175.out; obtain ⟨hfz14_0, hfz14_1, hfz14_2⟩ := bf3 BK175.out; obtain ⟨hcz15_0, hcz15_1, hcz15_2, hcz15_3⟩ := bc4 BK174.out; obtain ⟨hfz15_0, hfz15_1, hfz15_2, hfz15_3⟩ := bf4 BK174.out))
   go_ret
   exact ⟨rfl, V0⟩
 ·rw [if_neg c4] at H
  have c4b0 : (a2_0 == 0) = false := beq_eq_false_iff_ne.mpr c4
  have c4b1 : (a2_0 != 0) = true := bne_iff_ne.mpr c4
  replace H := Option.bind_eq_some_iff.mp H
  obtain ⟨t176, A160, H⟩ := H
  replace H : (if t176 = 0 then ((table_Fit.f a0_0 a0_1 a0_2 a0_3 a1 a2_0 a2_1 a2_2).bind fun bt177 => (if bt177.2.2.2 = 0 then (some (bt177.1 == a2_0 && (bt177.2.1 == a2_1 && (bt177.2.2.1.toList == a2_2.toList)))) else (some false))) else (some false)) = some r := H
  have A16 := Z0 A160
  clear A160
  by_cases c17 : t176 = 0
  ·rw [if_pos c17] at H
   have c17b0 : (t176 == 0) = true := beq_iff_eq.mpr c17
   have c17b1 : (t176 != 0) = false := bne_eq_false_iff_eq.mpr c17
   clear c17
   replace H := Option.bind_eq_some_iff.mp H
   obtain ⟨⟨t177, t178, t179, t180⟩, A180, H⟩ := H
   replace H : (if t180 = 0 then (some (t177 == a2_0 && (t178 == a2_1 && (t179.toList == a2_2.toList)))) else (some false)) = some r := H
   have A18 := Z0 A180
   clear A180
   by_cases c19 : t180 = 0
   ·rw [if_pos c19] at H
    have c19b0 : (t180 == 0) = true := beq_iff_eq.mpr c19
    have c19b1 : (t180 != 0) = false := bne_eq_false_iff_eq.mpr c19
    clear c19
    obtain rfl := Option.some.inj H
    go_enter Tryz.func73, Tryz.ntmps73
    go_wp2_with (first | ((with_reducible refine Y1 (N := 3) rfl ?_); refine bx (N := 3) (cs := #[.string a0_0, .int .i64 a0_1, .int .i64 a0_2, .bool a0_3]) (t := 23) ?_; intro gb174 hg w20 hbox hb; have BK174 := Z0 (hbox); have GE174 := Z0 ((by rw [hg]; exact (Z9 HB.out) : w.heap.size ≤ gb174)); replace HB := Z0 (Z4 HB.out hb); clear hb hbox hg) | ((with_reducible refine Y1 (N := 5) rfl ?_); refine bx (N := 5) (cs := #[.int .i64 a2_0, .int .i64 a2_1, .string a2_2]) (t := 25) ?_; intro gb175 hg w21 hbox hb; have BK175 := Z0 (hbox); have GE175 := Z0 ((by rw [hg]; exact (Z9 HB.out) : w.heap.size ≤ gb175)); replace HB := Z0 (Z4 HB.out hb); have NB174_175 := Z0 ((by rw [hg]; exact Nat.ne_of_lt (blk_lt BK174.out) : gb174 ≠ gb175)); have NB175_174 := Z0 ((by rw [hg]; exact Nat.ne_of_gt (blk_lt BK174.out) : gb175 ≠ gb174)); replace BK174 := Z0 (Z5 BK174.out hb); clear hb hbox hg; have hnb22 := NB175_174.out; have hnc22 := NB174_175.out; obtain ⟨hcz23_0, hcz23_1, hcz23_2⟩ := bc3 BK175.out; obtain ⟨hfz23_0, hfz23_1, hfz23_2⟩ := bf3 BK175.out) | ((with_reducible refine Y2 (f := 49) rfl ?_); refine goesL_ (some 20) rfl rfl Tryz.func49 (by kernel_rfl) rfl #[.agg #[.int .i64 a2_0, .int .i64 a2_1, .string a2_2]] rfl V1 ?_; (with_reducible refine (val_Validate.calls k a2_0 a2_1 a2_2 t176 _ A16.out).mono ?_); rintro e w24 ⟨rfl, hb⟩; refine ⟨_, rfl, ?_⟩; replace BK174 := Z0 (Z5 BK174.out hb); replace BK175 := Z0 (Z5 BK175.out hb); replace HB := Z0 (Z4 HB.out hb); (try clear hb); (try clear hb2); (try clear hk); (try clear hi); obtain ⟨hcz25_0, hcz25_1, hcz25_2, hcz25_3⟩ := bc4 BK174.out; obtain ⟨hfz25_0, hfz25_1, hfz25_2, hfz25_3⟩ := bf4 BK174.out; obtain ⟨hcz26_0, hcz26_1, hcz26_2⟩ := bc3 BK175.out; obtain ⟨hfz26_0, hfz26_1, hfz26_2⟩ := bf3 BK175.out) | ((with_reducible refine Y2 (f := 13) rfl ?_); refine goesL_ (some 26) rfl rfl Tryz.func13 (by kernel_rfl) rfl #[.agg #[.string a0_0, .int .i64 a0_1, .int .i64 a0_2, .bool a0_3], .int .i64 a1, .agg #[.int .i64 a2_0, .int .i64 a2_1, .string a2_2]] rfl V1 ?_; (with_reducible refine (table_Fit.calls a0_0 a0_1 a0_2 a0_3 a1 a2_0 a2_1 a2_2 t177 t178 t179 t180 _ A18.out).mono ?_); rintro e w27 ⟨rfl, hb⟩; refine ⟨_, rfl, ?_⟩; replace BK174 := Z0 (Z5 BK174.out hb); replace BK175 := Z0 (Z5 BK175.out hb); replace HB := Z0 (Z4 HB.out hb); (try clear hb); (try clear hb2); (try clear hk); (try clear hi)) | ((with_reducible refine Y1 (N := 7) rfl ?_); refine bx (N := 7) (cs := #[.int .i64 0, .int .i64 0, .string (⟨#[]⟩ : ByteArray)]) (t := 25) ?_; intro gb181 hg w28 hbox hb; have BK181 := Z0 (hbox); have GE181 := Z0 ((by rw [hg]; exact (Z9 HB.out) : w.heap.size ≤ gb181)); replace HB := Z0 (Z4 HB.out hb); have NB174_181 := Z0 ((by rw [hg]; exact Nat.ne_of_lt (blk_lt BK174.out) : gb174 ≠ gb181)); have NB181_174 := Z0 ((by rw [hg]; exact Nat.ne_of_gt (blk_lt BK174.out) : gb181 ≠ gb174)); replace BK174 := Z0 (Z5 BK174.out hb); have NB175_181 := Z0 ((by rw [hg]; exact Nat.ne_of_lt (blk_lt BK175.out) : gb175 ≠ gb181)); have NB181_175 := Z0 ((by rw [hg]; exact Nat.ne_of_gt (blk_lt BK175.out) : gb181 ≠ gb175)); replace BK175 := Z0 (Z5 BK175.out hb); clear hb hbox hg; have hnb29 := NB181_174.out; have hnc29 := NB174_181.out; have hnb30 := NB181_175.out; have hnc30 := NB175_181.out; obtain ⟨hcz31_0, hcz31_1, hcz31_2⟩ := bc3 BK181.out; obtain ⟨hfz31_0, hfz31_1, hfz31_2⟩ := bf3 BK181.out; obtain ⟨hcz32_0, hcz32_1, hcz32_2⟩ := bc3 BK175.out; obtain ⟨hfz32_0, hfz32_1, hfz32_2⟩ := bf3 BK175.out))
    go_ret
    exact ⟨rfl, V0⟩
   ·rw [if_neg c19] at H
    have c19b0 : (t180 == 0) = false := beq_eq_false_iff_ne.mpr c19
    have c19b1 : (t180 != 0) = true := bne_iff_ne.mpr c19
    obtain rfl := Option.some.inj H
    go_enter Tryz.func73, Tryz.ntmps73
    go_wp2_with (first | ((with_reducible refine Y1 (N := 3) rfl ?_); refine bx (N := 3) (cs := #[.string a0_0, .int .i64 a0_1, .int .i64 a0_2, .bool a0_3]) (t := 23) ?_; intro gb174 hg w33 hbox hb; have BK174 := Z0 (hbox); have GE174 := Z0 ((by rw [hg]; exact (Z9 HB.out) : w.heap.size ≤ gb174)); replace HB := Z0 (Z4 HB.out hb); clear hb hbox hg) | ((with_reducible refine Y1 (N := 5) rfl ?_); refine bx (N := 5) (cs := #[.int .i64 a2_0, .int .i64 a2_1, .string a2_2]) (t := 25) ?_; intro gb175 hg w34 hbox hb; have BK175 := Z0 (hbox); have GE175 := Z0 ((by rw [hg]; exact (Z9 HB.out) : w.heap.size ≤ gb175)); replace HB := Z0 (Z4 HB.out hb); have NB174_175 := Z0 ((by rw [hg]; exact Nat.ne_of_lt (blk_lt BK174.out) : gb174 ≠ gb175)); have NB175_174 := Z0 ((by rw [hg]; exact Nat.ne_of_gt (blk_lt BK174.out) : gb175 ≠ gb174)); replace BK174 := Z0 (Z5 BK174.out hb); clear hb hbox hg; have hnb35 := NB175_174.out; have hnc35 := NB174_175.out; obtain ⟨hcz36_0, hcz36_1, hcz36_2⟩ := bc3 BK175.out; obtain ⟨hfz36_0, hfz36_1, hfz36_2⟩ := bf3 BK175.out) | ((with_reducible refine Y2 (f := 49) rfl ?_); refine goesL_ (some 20) rfl rfl Tryz.func49 (by kernel_rfl) rfl #[.agg #[.int .i64 a2_0, .int .i64 a2_1, .string a2_2]] rfl V1 ?_; (with_reducible refine (val_Validate.calls k a2_0 a2_1 a2_2 t176 _ A16.out).mono ?_); rintro e w37 ⟨rfl, hb⟩; refine ⟨_, rfl, ?_⟩; replace BK174 := Z0 (Z5 BK174.out hb); replace BK175 := Z0 (Z5 BK175.out hb); replace HB := Z0 (Z4 HB.out hb); (try clear hb); (try clear hb2); (try clear hk); (try clear hi); obtain ⟨hcz38_0, hcz38_1, hcz38_2, hcz38_3⟩ := bc4 BK174.out; obtain ⟨hfz38_0, hfz38_1, hfz38_2, hfz38_3⟩ := bf4 BK174.out; obtain ⟨hcz39_0, hcz39_1, hcz39_2⟩ := bc3 BK175.out; obtain ⟨hfz39_0, hfz39_1, hfz39_2⟩ := bf3 BK175.out) | ((with_reducible refine Y2 (f := 13) rfl ?_); refine goesL_ (some 26) rfl rfl Tryz.func13 (by kernel_rfl) rfl #[.agg #[.string a0_0, .int .i64 a0_1, .int .i64 a0_2, .bool a0_3], .int .i64 a1, .agg #[.int .i64 a2_0, .int .i64 a2_1, .string a2_2]] rfl V1 ?_; (with_reducible refine (table_Fit.calls a0_0 a0_1 a0_2 a0_3 a1 a2_0 a2_1 a2_2 t177 t178 t179 t180 _ A18.out).mono ?_); rintro e w40 ⟨rfl, hb⟩; refine ⟨_, rfl, ?_⟩; replace BK174 := Z0 (Z5 BK174.out hb); replace BK175 := Z0 (Z5 BK175.out hb); replace HB := Z0 (Z4 HB.out hb); (try clear hb); (try clear hb2); (try clear hk); (try clear hi)) | ((with_reducible refine Y1 (N := 7) rfl ?_); refine bx (N := 7) (cs := #[.int .i64 0, .int .i64 0, .string (⟨#[]⟩ : ByteArray)]) (t := 25) ?_; intro gb181 hg w41 hbox hb; have BK181 := Z0 (hbox); have GE181 := Z0 ((by rw [hg]; exact (Z9 HB.out) : w.heap.size ≤ gb181)); replace HB := Z0 (Z4 HB.out hb); have NB174_181 := Z0 ((by rw [hg]; exact Nat.ne_of_lt (blk_lt BK174.out) : gb174 ≠ gb181)); have NB181_174 := Z0 ((by rw [hg]; exact Nat.ne_of_gt (blk_lt BK174.out) : gb181 ≠ gb174)); replace BK174 := Z0 (Z5 BK174.out hb); have NB175_181 := Z0 ((by rw [hg]; exact Nat.ne_of_lt (blk_lt BK175.out) : gb175 ≠ gb181)); have NB181_175 := Z0 ((by rw [hg]; exact Nat.ne_of_gt (blk_lt BK175.out) : gb181 ≠ gb175)); replace BK175 := Z0 (Z5 BK175.out hb); clear hb hbox hg; have hnb42 := NB181_174.out; have hnc42 := NB174_181.out; have hnb43 := NB181_175.out; have hnc43 := NB175_181.out; obtain ⟨hcz44_0, hcz44_1, hcz44_2⟩ := bc3 BK181.out; obtain ⟨hfz44_0, hfz44_1, hfz44_2⟩ := bf3 BK181.out))
    go_ret
    exact ⟨rfl, V0⟩
  ·rw [if_neg c17] at H
   have c17b0 : (t176 == 0) = false := beq_eq_false_iff_ne.mpr c17
   have c17b1 : (t176 != 0) = true := bne_iff_ne.mpr c17
   obtain rfl := Option.some.inj H
   go_enter Tryz.func73, Tryz.ntmps73
   go_wp2_with (first | ((with_reducible refine Y1 (N := 3) rfl ?_); refine bx (N := 3) (cs := #[.string a0_0, .int .i64 a0_1, .int .i64 a0_2, .bool a0_3]) (t := 23) ?_; intro gb174 hg w45 hbox hb; have BK174 := Z0 (hbox); have GE174 := Z0 ((by rw [hg]; exact (Z9 HB.out) : w.heap.size ≤ gb174)); replace HB := Z0 (Z4 HB.out hb); clear hb hbox hg) | ((with_reducible refine Y1 (N := 5) rfl ?_); refine bx (N := 5) (cs := #[.int .i64 a2_0, .int .i64 a2_1, .string a2_2]) (t := 25) ?_; intro gb175 hg w46 hbox hb; have BK175 := Z0 (hbox); have GE175 := Z0 ((by rw [hg]; exact (Z9 HB.out) : w.heap.size ≤ gb175)); replace HB := Z0 (Z4 HB.out hb); have NB174_175 := Z0 ((by rw [hg]; exact Nat.ne_of_lt (blk_lt BK174.out) : gb174 ≠ gb175)); have NB175_174 := Z0 ((by rw [hg]; exact Nat.ne_of_gt (blk_lt BK174.out) : gb175 ≠ gb174)); replace BK174 := Z0 (Z5 BK174.out hb); clear hb hbox hg; have hnb47 := NB175_174.out; have hnc47 := NB174_175.out; obtain ⟨hcz48_0, hcz48_1, hcz48_2⟩ := bc3 BK175.out; obtain ⟨hfz48_0, hfz48_1, hfz48_2⟩ := bf3 BK175.out) | ((with_reducible refine Y2 (f := 49) rfl ?_); refine goesL_ (some 20) rfl rfl Tryz.func49 (by kernel_rfl) rfl #[.agg #[.int .i64 a2_0, .int .i64 a2_1, .string a2_2]] rfl V1 ?_; (with_reducible refine (val_Validate.calls k a2_0 a2_1 a2_2 t176 _ A16.out).mono ?_); rintro e w49 ⟨rfl, hb⟩; refine ⟨_, rfl, ?_⟩; replace BK174 := Z0 (Z5 BK174.out hb); replace BK175 := Z0 (Z5 BK175.out hb); replace HB := Z0 (Z4 HB.out hb); (try clear hb); (try clear hb2); (try clear hk); (try clear hi)))
   go_ret
   exact ⟨rfl, V0⟩
end Go.Proofs.YtldpdidlfbphcaaGreatDoor.P
end
section
namespace Go.Proofs.YtldpdidlfbphcaaGreatDoor.P
open Go.RowKit Go.Proofs.YtldpdidlfbphcaaGreatDoorW.PrintWords Go.Proofs.YtldpdidlfbphcaaGreatDoorW.PrintLast Go.Proofs.YtldpdidlfbphcaaGreatDoorW.PrintMore
attribute [local go_sem] max2_int min2_int max_two min_two max_three min_three max_four min_four
mutual
def table_Validate.l0 : Nat → List (S46) → Int → Int → Int → List (S23) → List (S46) → Option (Int)
 | 0, _, _, _, _, _, _ => none
 | k + 1, x23, x24, x25, x183000, x183001, x183002 => if x25 < x24 then (if 0 ≤ x25 then (if x25 < (x23.length : Int) then (if (((rd_T46 x23 x25).f1).length : Int) = (x183001.length : Int) then (table_Validate.l1 k x23 x24 x25 x183001 (x183001.length : Int) 0 x183000 x183001 x183002 ((rd_T46 x23 x25).f0) ((rd_T46 x23 x25).f1)) else (some 10)) else (none)) else (none)) else (some 0)
def table_Validate.l1 : Nat → List (S46) → Int → Int → List (S23) → Int → Int → Int → List (S23) → List (S46) → Bool → List (S25) → Option (Int)
 | 0, _, _, _, _, _, _, _, _, _, _, _ => none
 | k + 1, x23, x24, x25, x37, x38, x39, x183000, x183001, x183002, x187000, x187001 => if x39 < x38 then (if 0 ≤ x39 then (if x39 < (x37.length : Int) then (if x39 < (x187001.length : Int) then ((table_holds.f k ((rd_T23 x37 x39).f0) ((rd_T23 x37 x39).f1) ((rd_T23 x37 x39).f2) ((rd_T23 x37 x39).f3) x183000 ((rd_T25 x187001 x39).f0) ((rd_T25 x187001 x39).f1) ((rd_T25 x187001 x39).f2)).bind fun t190 => (if t190 = true then (table_Validate.l1 k x23 x24 x25 x37 x38 (wrap64 (x39 + 1)) x183000 x183001 x183002 x187000 x187001) else (some 1))) else (none)) else (none)) else (none)) else (table_Validate.l0 k x23 x24 (wrap64 (x25 + 1)) x183000 x183001 x183002)
end
def table_Validate.f (k : Nat) (a0_0 : Int) (l0_1 : List (S23)) (l0_2 : List (S46)) : Option (Int) := (table_isPage.f a0_0).bind fun t183 => (if t183 = true then ((table_ValidateFields.f l0_1).bind fun t184 => (if t184 = 0 then (if (l0_2.length : Int) > 300 then (some 3) else (table_Validate.l0 k l0_2 (l0_2.length : Int) 0 a0_0 l0_1 l0_2)) else (some t184))) else (some 1))
theorem table_Validate.mono_l : ∀ k, (∀ y0 y1 y2 y3 y4 y5, LeO (table_Validate.l0 k y0 y1 y2 y3 y4 y5) (table_Validate.l0 (k + 1) y0 y1 y2 y3 y4 y5)) ∧ (∀ y0 y1 y2 y3 y4 y5 y6 y7 y8 y9 y10, LeO (table_Validate.l1 k y0 y1 y2 y3 y4 y5 y6 y7 y8 y9 y10) (table_Validate.l1 (k + 1) y0 y1 y2 y3 y4 y5 y6 y7 y8 y9 y10))
 | 0 => ⟨fun _ _ _ _ _ _ r h => by simp [table_Validate.l0] at h, fun _ _ _ _ _ _ _ _ _ _ _ r h => by simp [table_Validate.l1] at h⟩
 | k + 1 => by
  obtain ⟨ih0, ih1⟩ := table_Validate.mono_l k
  refine ⟨?_, ?_⟩
  ·intro y0 y1 y2 y3 y4 y5
   unfold table_Validate.l0
   repeat' first
   | (with_reducible exact ih0 _ _ _ _ _ _)
   | (with_reducible exact ih1 _ _ _ _ _ _ _ _ _ _ _)
   | (with_reducible exact table_holds.mono _ _ _ _ _ _ _ _ _)
   | (with_reducible exact LeO.refl _)
   | (with_reducible exact LeO.none _)
   | (with_reducible refine LeO.ite ?_ ?_)
   | (with_reducible refine LeO.bind ?_ (fun _ => ?_))
  ·intro y0 y1 y2 y3 y4 y5 y6 y7 y8 y9 y10
   unfold table_Validate.l1
   repeat' first
   | (with_reducible exact ih0 _ _ _ _ _ _)
   | (with_reducible exact ih1 _ _ _ _ _ _ _ _ _ _ _)
   | (with_reducible exact table_holds.mono _ _ _ _ _ _ _ _ _)
   | (with_reducible exact LeO.refl _)
   | (with_reducible exact LeO.none _)
   | (with_reducible refine LeO.ite ?_ ?_)
   | (with_reducible refine LeO.bind ?_ (fun _ => ?_))
theorem table_Validate.mono : ∀ a0 a1 a2 k, LeO (table_Validate.f k a0 a1 a2) (table_Validate.f (k + 1) a0 a1 a2) := by
 intro a0 a1 a2 k
 obtain ⟨ih0, ih1⟩ := table_Validate.mono_l k
 unfold table_Validate.f
 repeat' first
   | (with_reducible exact ih0 _ _ _ _ _ _)
   | (with_reducible exact ih1 _ _ _ _ _ _ _ _ _ _ _)
   | (with_reducible exact table_holds.mono _ _ _ _ _ _ _ _ _)
   | (with_reducible exact LeO.refl _)
   | (with_reducible exact LeO.none _)
   | (with_reducible refine LeO.ite ?_ ?_)
   | (with_reducible refine LeO.bind ?_ (fun _ => ?_))
def table_Validate.T16 : Bool × List (List Nat × List Nat) := (true, [([], []), ([], []), ([1], [1]), ([], []), ([3], [3]), ([], []), ([4, 5], [4, 5]), ([6], [6]), ([0, 2, 7], [0, 2, 7]), ([8], [8])])
def table_Validate.B16 : List Nat := [0, 0, 2, 0, 8, 0, 56, 120, 255, 511]
theorem table_Validate.tab16 : rtab .any (opsOf Tryz.f34 16) = table_Validate.T16 := by kernel_rfl
theorem table_Validate.bits16 : waitsOk table_Validate.T16.2 table_Validate.B16 = true := by kernel_rfl
set_option maxHeartbeats 8000000 in
set_option maxRecDepth 100000 in
theorem table_Validate.calls (k : Nat) (a0_0 : Int) (A0_1 : Option Addr) (c0_1 : Nat) (l0_1 : List (S23)) (A0_2 : Option Addr) (c0_2 : Nat) (l0_2 : List (S46)) (r : Int) (w : World) (hr0_1 : Kd.C k23 w A0_1 l0_1.length l0_1) (hc0_1 : l0_1.length ≤ c0_1) (hr0_2 : Kd.C k46 w A0_2 l0_2.length l0_2) (hc0_2 : l0_2.length ≤ c0_2) (h : table_Validate.f k a0_0 l0_1 l0_2 = some r) :
  Calls Tryz.prog 34 #[.agg #[.int .i64 a0_0, .slice A0_1 l0_1.length c0_1, .slice A0_2 l0_2.length c0_2]] w fun e w' => e = .returned (.int .i64 r) ∧ Below w.heap.size w w' := by
 have hu35 := Tryz.underlying35
 have hu46 := Tryz.underlying46
 have hu23 := Tryz.underlying23
 have hu25 := Tryz.underlying25
 have HR0_1 := Z0 hr0_1
 have HC0_1 := Z0 hc0_1
 clear hr0_1 hc0_1
 have HR0_2 := Z0 hr0_2
 have HC0_2 := Z0 hc0_2
 clear hr0_2 hc0_2
 have HB := Z0 (Below.refl w.heap.size w)
 have H : ((table_isPage.f a0_0).bind fun t183 => (if t183 = true then ((table_ValidateFields.f l0_1).bind fun t184 => (if t184 = 0 then (if (l0_2.length : Int) > 300 then (some 3) else (table_Validate.l0 k l0_2 (l0_2.length : Int) 0 a0_0 l0_1 l0_2)) else (some t184))) else (some 1))) = some r := h
 clear h
 replace H := Option.bind_eq_some_iff.mp H
 obtain ⟨t183, A20, H⟩ := H
 replace H : (if t183 = true then ((table_ValidateFields.f l0_1).bind fun t184 => (if t184 = 0 then (if (l0_2.length : Int) > 300 then (some 3) else (table_Validate.l0 k l0_2 (l0_2.length : Int) 0 a0_0 l0_1 l0_2)) else (some t184))) else (some 1)) = some r := H
 have A2 := Z0 A20
 clear A20
 by_cases c3 : t183 = true
 ·subst c3
  have H1 : ((table_ValidateFields.f l0_1).bind fun t184 => (if t184 = 0 then (if (l0_2.length : Int) > 300 then (some 3) else (table_Validate.l0 k l0_2 (l0_2.length : Int) 0 a0_0 l0_1 l0_2)) else (some t184))) = some r := by rw [if_pos rfl] at H; exact H
  clear H
  have H := H1
  clear H1
  replace H := Option.bind_eq_some_iff.mp H
  obtain ⟨t184, A40, H⟩ := H
  replace H : (if t184 = 0 then (if (l0_2.length : Int) > 300 then (some 3) else (table_Validate.l0 k l0_2 (l0_2.length : Int) 0 a0_0 l0_1 l0_2)) else (some t184)) = some r := H
  have A4 := Z0 A40
  clear A40
  by_cases c5 : t184 = 0
  ·rw [if_pos c5] at H
   have c5b0 : (t184 == 0) = true := beq_iff_eq.mpr c5
   have c5b1 : (t184 != 0) = false := bne_eq_false_iff_eq.mpr c5
   clear c5
   by_cases c6 : (l0_2.length : Int) > 300
   ·rw [if_pos c6] at H
    have c6b0 : decide (300 < (l0_2.length : Int)) = true := decide_eq_true c6
    have c6b1 : decide (300 < l0_2.length) = true := decide_eq_true (by omega)
    clear c6
    obtain rfl := Option.some.inj H
    go_enter Tryz.func34, Tryz.ntmps34
    go_wp2_with (first | ((with_reducible refine Y1 (N := 1) rfl ?_); refine bx (N := 1) (cs := #[.int .i64 a0_0, .slice A0_1 l0_1.length c0_1, .slice A0_2 l0_2.length c0_2]) (t := 35) ?_; intro gb182 hg w7 hbox hb; have BK182 := Z0 (hbox); have GE182 := Z0 ((by rw [hg]; exact (Z9 V0) : w.heap.size ≤ gb182)); replace HB := Z0 (Z4 V0 hb); clear hb hbox hg; obtain ⟨hcz8_0, hcz8_1, hcz8_2⟩ := bc3 BK182.out; obtain ⟨hfz8_0, hfz8_1, hfz8_2⟩ := bf3 BK182.out) | ((with_reducible refine Y2 (f := 48) rfl ?_); refine goesL_ (some 10) rfl rfl Tryz.func48 (by kernel_rfl) rfl #[.int .i64 a0_0] rfl V1 ?_; (with_reducible refine (table_isPage.calls a0_0 true _ A2.out).mono ?_); rintro e w' ⟨rfl, ⟨nd, rfl⟩⟩; refine ⟨_, rfl, ?_⟩) | ((with_reducible refine Y2 (f := 36) rfl ?_); refine goesL_ (some 14) rfl rfl Tryz.func36 (by kernel_rfl) rfl #[.slice A0_1 l0_1.length c0_1] rfl V1 ?_; (with_reducible refine (table_ValidateFields.calls _ _ l0_1 t184 _ ?side1 ?side2 A4.out).mono ?_); (case side1 => repeat (first | exact (Kd.C_below HR0_1.out V0) | (with_reducible refine Kd.C_alloc ?_ _) | (with_reducible refine Kd.C_drewN ?_ _) | (with_reducible refine Kd.C_drew ?_))); (case side2 => exact HC0_1.out); rintro e w9 ⟨rfl, hb⟩; refine ⟨_, rfl, ?_⟩; replace BK182 := Z0 (Z5 (g := gb182) (o := .cells #[.int .i64 a0_0, .slice A0_1 l0_1.length c0_1, .slice A0_2 l0_2.length c0_2] 35 (0, 0)) (by (with_reducible repeat (first | refine Z6 ?_ _ | refine Z8 ?_ | refine Z7 ?_ _)); exact BK182.out) hb); replace HB := Z0 (Z4 V0 hb); (try clear hb); (try clear hb2); (try clear hk); (try clear hi); obtain ⟨hcz10_0, hcz10_1, hcz10_2⟩ := bc3 BK182.out; obtain ⟨hfz10_0, hfz10_1, hfz10_2⟩ := bf3 BK182.out))
    go_ret
    exact ⟨rfl, V0⟩
   ·rw [if_neg c6] at H
    have c6b0 : decide (300 < (l0_2.length : Int)) = false := decide_eq_false c6
    have c6b1 : decide (300 < l0_2.length) = false := decide_eq_false (by omega)
    clear c6
    have H' := Z0 H
    clear H
    go_enter Tryz.func34, Tryz.ntmps34
    go_wp2_with (first | ((with_reducible refine Y1 (N := 1) rfl ?_); refine bx (N := 1) (cs := #[.int .i64 a0_0, .slice A0_1 l0_1.length c0_1, .slice A0_2 l0_2.length c0_2]) (t := 35) ?_; intro gb182 hg w11 hbox hb; have BK182 := Z0 (hbox); have GE182 := Z0 ((by rw [hg]; exact (Z9 V0) : w.heap.size ≤ gb182)); replace HB := Z0 (Z4 V0 hb); clear hb hbox hg; obtain ⟨hcz12_0, hcz12_1, hcz12_2⟩ := bc3 BK182.out; obtain ⟨hfz12_0, hfz12_1, hfz12_2⟩ := bf3 BK182.out) | ((with_reducible refine Y2 (f := 48) rfl ?_); refine goesL_ (some 10) rfl rfl Tryz.func48 (by kernel_rfl) rfl #[.int .i64 a0_0] rfl V1 ?_; (with_reducible refine (table_isPage.calls a0_0 true _ A2.out).mono ?_); rintro e w' ⟨rfl, ⟨nd, rfl⟩⟩; refine ⟨_, rfl, ?_⟩) | ((with_reducible refine Y2 (f := 36) rfl ?_); refine goesL_ (some 14) rfl rfl Tryz.func36 (by kernel_rfl) rfl #[.slice A0_1 l0_1.length c0_1] rfl V1 ?_; (with_reducible refine (table_ValidateFields.calls _ _ l0_1 t184 _ ?side1 ?side2 A4.out).mono ?_); (case side1 => repeat (first | exact (Kd.C_below HR0_1.out V0) | (with_reducible refine Kd.C_alloc ?_ _) | (with_reducible refine Kd.C_drewN ?_ _) | (with_reducible refine Kd.C_drew ?_))); (case side2 => exact HC0_1.out); rintro e w13 ⟨rfl, hb⟩; refine ⟨_, rfl, ?_⟩; replace BK182 := Z0 (Z5 (g := gb182) (o := .cells #[.int .i64 a0_0, .slice A0_1 l0_1.length c0_1, .slice A0_2 l0_2.length c0_2] 35 (0, 0)) (by (with_reducible repeat (first | refine Z6 ?_ _ | refine Z8 ?_ | refine Z7 ?_ _)); exact BK182.out) hb); replace HB := Z0 (Z4 V0 hb); (try clear hb); (try clear hb2); (try clear hk); (try clear hi); obtain ⟨hcz14_0, hcz14_1, hcz14_2⟩ := bc3 BK182.out; obtain ⟨hfz14_0, hfz14_1, hfz14_2⟩ := bf3 BK182.out))
    go_loopg [25] k (fun kq v25 w' => ∃ (x25_1 : Int), v25 = .int .i64 x25_1 ∧ Aside0 (table_Validate.l0 kq l0_2 (l0_2.length : Int) x25_1 a0_0 l0_1 l0_2 = some r) ∧ Aside0 (kq ≤ k) ∧ Aside0 (w'.heap[gb182]? = some (.cells #[.int .i64 a0_0, (.slice A0_1 l0_1.length c0_1), (.slice A0_2 l0_2.length c0_2)] 35 (0, 0))) ∧ Aside0 (Below w.heap.size w w'))
    case atStart => exact ⟨(0), V2, H', ⟨Nat.le_refl _⟩, ⟨by (with_reducible repeat (first | refine Z6 ?_ _ | refine Z8 ?_ | refine Z7 ?_ _)); exact BK182.out⟩, ⟨V0⟩⟩
    case round =>
     clear H'
     (try clear p2);(try clear c3);(try clear c4);(try clear c5);(try clear c5b0);(try clear c5b1);(try clear c6);(try clear c6b0);(try clear c6b1);(try clear hcz10_0);(try clear hcz10_1);(try clear hcz10_2);(try clear hcz12_0);(try clear hcz12_1);(try clear hcz12_2);(try clear hcz14_0);(try clear hcz14_1);(try clear hcz14_2);(try clear hcz8_0);(try clear hcz8_1);(try clear hcz8_2);(try clear hfz10_0);(try clear hfz10_1);(try clear hfz10_2);(try clear hfz12_0);(try clear hfz12_1);(try clear hfz12_2);(try clear hfz14_0);(try clear hfz14_1);(try clear hfz14_2);(try clear hfz8_0);(try clear hfz8_1);(try clear hfz8_2)
     obtain ⟨x25_1, rfl, HA, HK1, BK182, HB⟩ := hrel
     cases gk with
     | zero => exact absurd HA.out (by simp [table_Validate.l0])
     | succ k1 =>
      have H := HA.out
      clear HA
      simp only [table_Validate.l0] at H
      by_cases c15 : x25_1 < (l0_2.length : Int)
      ·rw [if_pos c15] at H
       have c15b0 : decide (x25_1 < (l0_2.length : Int)) = true := decide_eq_true c15
       clear c15
       by_cases c16 : 0 ≤ x25_1
       ·rw [if_pos c16] at H
        have c16b0 : decide (0 ≤ x25_1) = true := decide_eq_true c16
        clear c16
        by_cases c17 : x25_1 < (l0_2.length : Int)
        ·rw [if_pos c17] at H
         have c17b0 : decide (x25_1 < (l0_2.length : Int)) = true := decide_eq_true c17
         clear c17
         by_cases c18 : (((rd_T46 l0_2 x25_1).f1).length : Int) = (l0_1.length : Int)
         ·rw [if_pos c18] at H
          have c18b0 : ((((rd_T46 l0_2 x25_1).f1).length : Int) == (l0_1.length : Int)) = true := beq_iff_eq.mpr c18
          have c18b1 : ((((rd_T46 l0_2 x25_1).f1).length : Int) != (l0_1.length : Int)) = false := bne_eq_false_iff_eq.mpr c18
          have c18b2 : (((rd_T46 l0_2 x25_1).f1).length == l0_1.length) = true := by first | simpa using c18 | (simp at c18 ⊢; omega)
          clear c18
          have H' := Z0 H
          clear H
          have p185 : 0 ≤ (x25_1 : Int) := of_decide_eq_true V3
          have q185 : x25_1 < (l0_2.length : Int) := of_decide_eq_true V3
          obtain ⟨ad185, A185_1, c185_1, e185, hx185_0, hx185_1, hl185_1, hi185_1⟩ := at_T46 HR0_2.out x25_1 p185 q185
          cases e185
          replace hx185_0 := (HB.out.cell (World.block_lt_of_cell? w _ hx185_0)).trans hx185_0
          replace hx185_1 := (HB.out.cell (World.block_lt_of_cell? w _ hx185_1)).trans hx185_1
          have HR185_1 := Z0 hi185_1
          have HC185_1 := Z0 hl185_1
          clear hi185_1 hl185_1
          replace p185 := eq_true p185
          replace q185 := eq_true q185
          go_wp2_with (first | ((with_reducible refine Y1 (N := 5) rfl ?_); refine bx (N := 5) (cs := #[.bool false, .slice none 0 0]) (t := 46) ?_; intro gb186 hg w19 hbox hb; have BK186 := Z0 (hbox); have GE186 := Z0 ((by rw [hg]; exact (Z9 V0) : w.heap.size ≤ gb186)); replace HB := Z0 (Z4 V0 hb); have NB182_186 := Z0 ((by rw [hg]; exact Nat.ne_of_lt (blk_lt (g := gb182) (o := .cells #[.int .i64 a0_0, .slice A0_1 l0_1.length c0_1, .slice (some ad185) l0_2.length c0_2] 35 (0, 0)) (by (with_reducible repeat (first | refine Z6 ?_ _ | refine Z8 ?_ | refine Z7 ?_ _)); exact BK182.out)) : gb182 ≠ gb186)); have NB186_182 := Z0 ((by rw [hg]; exact Nat.ne_of_gt (blk_lt (g := gb182) (o := .cells #[.int .i64 a0_0, .slice A0_1 l0_1.length c0_1, .slice (some ad185) l0_2.length c0_2] 35 (0, 0)) (by (with_reducible repeat (first | refine Z6 ?_ _ | refine Z8 ?_ | refine Z7 ?_ _)); exact BK182.out)) : gb186 ≠ gb182)); replace BK182 := Z0 (Z5 (g := gb182) (o := .cells #[.int .i64 a0_0, .slice A0_1 l0_1.length c0_1, .slice (some ad185) l0_2.length c0_2] 35 (0, 0)) (by (with_reducible repeat (first | refine Z6 ?_ _ | refine Z8 ?_ | refine Z7 ?_ _)); exact BK182.out) hb); clear hb hbox hg; have hnb20 := NB186_182.out; have hnc20 := NB182_186.out; obtain ⟨hcz21_0, hcz21_1⟩ := bc2 BK186.out; obtain ⟨hfz21_0, hfz21_1⟩ := bf2 BK186.out; obtain ⟨hcz22_0, hcz22_1, hcz22_2⟩ := bc3 BK182.out; obtain ⟨hfz22_0, hfz22_1, hfz22_2⟩ := bf3 BK182.out))
          go_loopg [39] k1 (fun kq v39 w' => ∃ (x39_2 : Int), v39 = .int .i64 x39_2 ∧ Aside0 (table_Validate.l1 kq l0_2 (l0_2.length : Int) x25_1 l0_1 (l0_1.length : Int) x39_2 a0_0 l0_1 l0_2 ((rd_T46 l0_2 x25_1).f0) ((rd_T46 l0_2 x25_1).f1) = some r) ∧ Aside0 (kq ≤ k1) ∧ Aside0 (w'.heap[gb182]? = some (.cells #[.int .i64 a0_0, (.slice A0_1 l0_1.length c0_1), (.slice (some ad185) l0_2.length c0_2)] 35 (0, 0))) ∧ Aside0 (w'.heap[gb186]? = some (.cells #[.bool ((rd_T46 l0_2 x25_1).f0), (.slice A185_1 ((rd_T46 l0_2 x25_1).f1).length c185_1)] 46 (0, 0))) ∧ Aside0 (Below w.heap.size w w'))
          case atStart => exact ⟨(0), V2, H', ⟨Nat.le_refl _⟩, ⟨by (with_reducible repeat (first | refine Z6 ?_ _ | refine Z8 ?_ | refine Z7 ?_ _)); refine blk_far ?_ NB182_186.out _; (with_reducible repeat (first | refine Z6 ?_ _ | refine Z8 ?_ | refine Z7 ?_ _)); refine blk_far ?_ NB182_186.out _; (with_reducible repeat (first | refine Z6 ?_ _ | refine Z8 ?_ | refine Z7 ?_ _)); exact BK182.out⟩, ⟨by (with_reducible repeat (first | refine Z6 ?_ _ | refine Z8 ?_ | refine Z7 ?_ _)); refine blk_put (cs := #[.bool ((rd_T46 l0_2 x25_1).f0), .slice none 0 0]) ?_ 1 _ rfl; (with_reducible repeat (first | refine Z6 ?_ _ | refine Z8 ?_ | refine Z7 ?_ _)); refine blk_put (cs := #[.bool false, .slice none 0 0]) ?_ 0 _ rfl; (with_reducible repeat (first | refine Z6 ?_ _ | refine Z8 ?_ | refine Z7 ?_ _)); exact BK186.out⟩, ⟨V0⟩⟩
          case round =>
           clear H'
           (try clear c1);(try clear p1);(try clear q1);(try clear hx1);(try clear c2);(try clear p2);(try clear c3);(try clear c4);(try clear c5);(try clear c5b0);(try clear c5b1);(try clear c6);(try clear c6b0);(try clear c6b1);(try clear c15);(try clear c15b0);(try clear c16);(try clear c16b0);(try clear c17);(try clear c17b0);(try clear c18);(try clear c18b0);(try clear c18b1);(try clear c18b2);(try clear p18);(try clear q18);(try clear hx18);(try clear c20);(try clear hcz10_0);(try clear hcz10_1);(try clear hcz10_2);(try clear hcz12_0);(try clear hcz12_1);(try clear hcz12_2);(try clear hcz14_0);(try clear hcz14_1);(try clear hcz14_2);(try clear hcz21_0);(try clear hcz21_1);(try clear hcz22_0);(try clear hcz22_1);(try clear hcz22_2);(try clear hcz8_0);(try clear hcz8_1);(try clear hcz8_2);(try clear hfz10_0);(try clear hfz10_1);(try clear hfz10_2);(try clear hfz12_0);(try clear hfz12_1);(try clear hfz12_2);(try clear hfz14_0);(try clear hfz14_1);(try clear hfz14_2);(try clear hfz21_0);(try clear hfz21_1);(try clear hfz22_0);(try clear hfz22_1);(try clear hfz22_2);(try clear hfz8_0);(try clear hfz8_1);(try clear hfz8_2);(try clear hx185_0);(try clear hx185_1);(try clear p185);(try clear p2);(try clear q185)
           obtain ⟨x39_2, rfl, HA, HK2, BK182, BK186, HB⟩ := hrel
           cases gk with
           | zero => exact absurd HA.out (by simp [table_Validate.l1])
           | succ k2 =>
            have H := HA.out
            clear HA
            simp only [table_Validate.l1] at H
            by_cases c23 : x39_2 < (l0_1.length : Int)
            ·rw [if_pos c23] at H
             have c23b0 : decide (x39_2 < (l0_1.length : Int)) = true := decide_eq_true c23
             clear c23
             by_cases c24 : 0 ≤ x39_2
             ·rw [if_pos c24] at H
              have c24b0 : decide (0 ≤ x39_2) = true := decide_eq_true c24
              clear c24
              by_cases c25 : x39_2 < (l0_1.length : Int)
              ·rw [if_pos c25] at H
               have c25b0 : decide (x39_2 < (l0_1.length : Int)) = true := decide_eq_true c25
               clear c25
               by_cases c26 : x39_2 < (((rd_T46 l0_2 x25_1).f1).length : Int)
               ·rw [if_pos c26] at H
                have c26b0 : decide (x39_2 < (((rd_T46 l0_2 x25_1).f1).length : Int)) = true := decide_eq_true c26
                clear c26
                replace H := Option.bind_eq_some_iff.mp H
                obtain ⟨t190, A270, H⟩ := H
                replace H : (if t190 = true then (table_Validate.l1 k2 l0_2 (l0_2.length : Int) x25_1 l0_1 (l0_1.length : Int) (wrap64 (x39_2 + 1)) a0_0 l0_1 l0_2 ((rd_T46 l0_2 x25_1).f0) ((rd_T46 l0_2 x25_1).f1)) else (some 1)) = some r := H
                have A27 := Z0 A270
                clear A270
                by_cases c28 : t190 = true
                ·subst c28
                 have H1 : (table_Validate.l1 k2 l0_2 (l0_2.length : Int) x25_1 l0_1 (l0_1.length : Int) (wrap64 (x39_2 + 1)) a0_0 l0_1 l0_2 ((rd_T46 l0_2 x25_1).f0) ((rd_T46 l0_2 x25_1).f1)) = some r := by rw [if_pos rfl] at H; exact H
                 clear H
                 have H := H1
                 clear H1
                 have H' := Z0 H
                 clear H
                 have p187 : 0 ≤ (x39_2 : Int) := of_decide_eq_true V3
                 have q187 : x39_2 < (l0_1.length : Int) := of_decide_eq_true V3
                 obtain ⟨ad187, e187, hx187_0, hx187_1, hx187_2, hx187_3⟩ := at_T23 HR0_1.out x39_2 p187 q187
                 cases e187
                 replace hx187_0 := (HB.out.cell (World.block_lt_of_cell? w _ hx187_0)).trans hx187_0
                 replace hx187_1 := (HB.out.cell (World.block_lt_of_cell? w _ hx187_1)).trans hx187_1
                 replace hx187_2 := (HB.out.cell (World.block_lt_of_cell? w _ hx187_2)).trans hx187_2
                 replace hx187_3 := (HB.out.cell (World.block_lt_of_cell? w _ hx187_3)).trans hx187_3
                 replace p187 := eq_true p187
                 replace q187 := eq_true q187
                 try go_wp2_with (first | ((with_reducible refine Y1 (N := 7) rfl ?_); refine bx (N := 7) (cs := #[.string (⟨#[]⟩ : ByteArray), .int .i64 0, .int .i64 0, .bool false]) (t := 23) ?_; intro gb188 hg w29 hbox hb; have BK188 := Z0 (hbox); have GE188 := Z0 ((by rw [hg]; exact (Z9 V0) : w.heap.size ≤ gb188)); replace HB := Z0 (Z4 V0 hb); have NB182_188 := Z0 ((by rw [hg]; exact Nat.ne_of_lt (blk_lt (g := gb182) (o := .cells #[.int .i64 a0_0, .slice (some ad187) l0_1.length c0_1, .slice (some ad185) l0_2.length c0_2] 35 (0, 0)) (by (with_reducible repeat (first | refine Z6 ?_ _ | refine Z8 ?_ | refine Z7 ?_ _)); exact BK182.out)) : gb182 ≠ gb188)); have NB188_182 := Z0 ((by rw [hg]; exact Nat.ne_of_gt (blk_lt (g := gb182) (o := .cells #[.int .i64 a0_0, .slice (some ad187) l0_1.length c0_1, .slice (some ad185) l0_2.length c0_2] 35 (0, 0)) (by (with_reducible repeat (first | refine Z6 ?_ _ | refine Z8 ?_ | refine Z7 ?_ _)); exact BK182.out)) : gb188 ≠ gb182)); replace BK182 := Z0 (Z5 (g := gb182) (o := .cells #[.int .i64 a0_0, .slice (some ad187) l0_1.length c0_1, .slice (some ad185) l0_2.length c0_2] 35 (0, 0)) (by (with_reducible repeat (first | refine Z6 ?_ _ | refine Z8 ?_ | refine Z7 ?_ _)); exact BK182.out) hb); have NB186_188 := Z0 ((by rw [hg]; exact Nat.ne_of_lt (blk_lt (g := gb186) (o := .cells #[.bool ((rd_T46 l0_2 x25_1).f0), .slice A185_1 ((rd_T46 l0_2 x25_1).f1).length c185_1] 46 (0, 0)) (by (with_reducible repeat (first | refine Z6 ?_ _ | refine Z8 ?_ | refine Z7 ?_ _)); exact BK186.out)) : gb186 ≠ gb188)); have NB188_186 := Z0 ((by rw [hg]; exact Nat.ne_of_gt (blk_lt (g := gb186) (o := .cells #[.bool ((rd_T46 l0_2 x25_1).f0), .slice A185_1 ((rd_T46 l0_2 x25_1).f1).length c185_1] 46 (0, 0)) (by (with_reducible repeat (first | refine Z6 ?_ _ | refine Z8 ?_ | refine Z7 ?_ _)); exact BK186.out)) : gb188 ≠ gb186)); replace BK186 := Z0 (Z5 (g := gb186) (o := .cells #[.bool ((rd_T46 l0_2 x25_1).f0), .slice A185_1 ((rd_T46 l0_2 x25_1).f1).length c185_1] 46 (0, 0)) (by (with_reducible repeat (first | refine Z6 ?_ _ | refine Z8 ?_ | refine Z7 ?_ _)); exact BK186.out) hb); clear hb hbox hg; have hnb30 := NB188_182.out; have hnc30 := NB182_188.out; have hnb31 := NB188_186.out; have hnc31 := NB186_188.out; obtain ⟨hcz32_0, hcz32_1, hcz32_2, hcz32_3⟩ := bc4 BK188.out; obtain ⟨hfz32_0, hfz32_1, hfz32_2, hfz32_3⟩ := bf4 BK188.out))
                 have n0_ : Aside0 (((((w29.setCell ⟨gb188, 0, none⟩ (.string ((rd_T23 l0_1 x39_2).f0))).setCell ⟨gb188, 1, none⟩ (.int .i64 ((rd_T23 l0_1 x39_2).f1))).setCell ⟨gb188, 2, none⟩ (.int .i64 ((rd_T23 l0_1 x39_2).f2))).setCell ⟨gb188, 3, none⟩ (.bool ((rd_T23 l0_1 x39_2).f3))).heap[gb182]? = some (.cells #[.int .i64 a0_0, .slice (some ad187) l0_1.length c0_1, .slice (some ad185) l0_2.length c0_2] 35 (0, 0))) := ⟨by (with_reducible repeat (first | refine Z6 ?_ _ | refine Z8 ?_ | refine Z7 ?_ _)); refine blk_far ?_ NB182_188.out _; (with_reducible repeat (first | refine Z6 ?_ _ | refine Z8 ?_ | refine Z7 ?_ _)); refine blk_far ?_ NB182_188.out _; (with_reducible repeat (first | refine Z6 ?_ _ | refine Z8 ?_ | refine Z7 ?_ _)); refine blk_far ?_ NB182_188.out _; (with_reducible repeat (first | refine Z6 ?_ _ | refine Z8 ?_ | refine Z7 ?_ _)); refine blk_far ?_ NB182_188.out _; (with_reducible repeat (first | refine Z6 ?_ _ | refine Z8 ?_ | refine Z7 ?_ _)); exact BK182.out⟩
                 have n1_ : Aside0 (((((w29.setCell ⟨gb188, 0, none⟩ (.string ((rd_T23 l0_1 x39_2).f0))).setCell ⟨gb188, 1, none⟩ (.int .i64 ((rd_T23 l0_1 x39_2).f1))).setCell ⟨gb188, 2, none⟩ (.int .i64 ((rd_T23 l0_1 x39_2).f2))).setCell ⟨gb188, 3, none⟩ (.bool ((rd_T23 l0_1 x39_2).f3))).heap[gb186]? = some (.cells #[.bool ((rd_T46 l0_2 x25_1).f0), .slice A185_1 ((rd_T46 l0_2 x25_1).f1).length c185_1] 46 (0, 0))) := ⟨by (with_reducible repeat (first | refine Z6 ?_ _ | refine Z8 ?_ | refine Z7 ?_ _)); refine blk_far ?_ NB186_188.out _; (with_reducible repeat (first | refine Z6 ?_ _ | refine Z8 ?_ | refine Z7 ?_ _)); refine blk_far ?_ NB186_188.out _; (with_reducible repeat (first | refine Z6 ?_ _ | refine Z8 ?_ | refine Z7 ?_ _)); refine blk_far ?_ NB186_188.out _; (with_reducible repeat (first | refine Z6 ?_ _ | refine Z8 ?_ | refine Z7 ?_ _)); refine blk_far ?_ NB186_188.out _; (with_reducible repeat (first | refine Z6 ?_ _ | refine Z8 ?_ | refine Z7 ?_ _)); exact BK186.out⟩
                 have n2_ : Aside0 (((((w29.setCell ⟨gb188, 0, none⟩ (.string ((rd_T23 l0_1 x39_2).f0))).setCell ⟨gb188, 1, none⟩ (.int .i64 ((rd_T23 l0_1 x39_2).f1))).setCell ⟨gb188, 2, none⟩ (.int .i64 ((rd_T23 l0_1 x39_2).f2))).setCell ⟨gb188, 3, none⟩ (.bool ((rd_T23 l0_1 x39_2).f3))).heap[gb188]? = some (.cells #[.string ((rd_T23 l0_1 x39_2).f0), .int .i64 ((rd_T23 l0_1 x39_2).f1), .int .i64 ((rd_T23 l0_1 x39_2).f2), .bool ((rd_T23 l0_1 x39_2).f3)] 23 (0, 0))) := ⟨by (with_reducible repeat (first | refine Z6 ?_ _ | refine Z8 ?_ | refine Z7 ?_ _)); refine blk_put (cs := #[.string ((rd_T23 l0_1 x39_2).f0), .int .i64 ((rd_T23 l0_1 x39_2).f1), .int .i64 ((rd_T23 l0_1 x39_2).f2), .bool false]) ?_ 3 _ rfl; (with_reducible repeat (first | refine Z6 ?_ _ | refine Z8 ?_ | refine Z7 ?_ _)); refine blk_put (cs := #[.string ((rd_T23 l0_1 x39_2).f0), .int .i64 ((rd_T23 l0_1 x39_2).f1), .int .i64 0, .bool false]) ?_ 2 _ rfl; (with_reducible repeat (first | refine Z6 ?_ _ | refine Z8 ?_ | refine Z7 ?_ _)); refine blk_put (cs := #[.string ((rd_T23 l0_1 x39_2).f0), .int .i64 0, .int .i64 0, .bool false]) ?_ 1 _ rfl; (with_reducible repeat (first | refine Z6 ?_ _ | refine Z8 ?_ | refine Z7 ?_ _)); refine blk_put (cs := #[.string (⟨#[]⟩ : ByteArray), .int .i64 0, .int .i64 0, .bool false]) ?_ 0 _ rfl; (with_reducible repeat (first | refine Z6 ?_ _ | refine Z8 ?_ | refine Z7 ?_ _)); exact BK188.out⟩
                 have n3_ : Aside0 (Below w.heap.size w ((((w29.setCell ⟨gb188, 0, none⟩ (.string ((rd_T23 l0_1 x39_2).f0))).setCell ⟨gb188, 1, none⟩ (.int .i64 ((rd_T23 l0_1 x39_2).f1))).setCell ⟨gb188, 2, none⟩ (.int .i64 ((rd_T23 l0_1 x39_2).f2))).setCell ⟨gb188, 3, none⟩ (.bool ((rd_T23 l0_1 x39_2).f3)))) := ⟨V0⟩
                 (try clear BK182)
                 (try clear BK186)
                 (try clear BK188)
                 (try clear HB)
                 generalize ((((w29.setCell ⟨gb188, 0, none⟩ (.string ((rd_T23 l0_1 x39_2).f0))).setCell ⟨gb188, 1, none⟩ (.int .i64 ((rd_T23 l0_1 x39_2).f1))).setCell ⟨gb188, 2, none⟩ (.int .i64 ((rd_T23 l0_1 x39_2).f2))).setCell ⟨gb188, 3, none⟩ (.bool ((rd_T23 l0_1 x39_2).f3))) = w33 at n0_ n1_ n2_ n3_ ⊢
                 have BK182 := n0_
                 have BK186 := n1_
                 have BK188 := n2_
                 have HB := n3_
                 clear n0_ n1_ n2_ n3_
                 have n0_ := Z0 (Z8 BK182.out)
                 have n1_ := Z0 (Z8 BK186.out)
                 have n2_ := Z0 (Z8 BK188.out)
                 have n3_ := Z0 (below_drew1 HB.out)
                 clear BK182
                 clear BK186
                 clear BK188
                 clear HB
                 have BK182 := n0_
                 have BK186 := n1_
                 have BK188 := n2_
                 have HB := n3_
                 clear n0_ n1_ n2_ n3_
                 have p189 : 0 ≤ (x39_2 : Int) := of_decide_eq_true V3
                 have q189 : x39_2 < (((rd_T46 l0_2 x25_1).f1).length : Int) := of_decide_eq_true V3
                 obtain ⟨ad189, e189, hx189_0, hx189_1, hx189_2⟩ := at_T25 HR185_1.out x39_2 p189 q189
                 have hw189_2 := hx189_2
                 have hw189_1 := hx189_1
                 have hw189_0 := hx189_0
                 cases e189
                 replace hx189_0 := (HB.out.cell (World.block_lt_of_cell? w _ hx189_0)).trans hx189_0
                 replace hx189_1 := (HB.out.cell (World.block_lt_of_cell? w _ hx189_1)).trans hx189_1
                 replace hx189_2 := (HB.out.cell (World.block_lt_of_cell? w _ hx189_2)).trans hx189_2
                 replace p189 := eq_true p189
                 replace q189 := eq_true q189
                 refine start_ (n := 10) (S := fun w' => w'.cell? ⟨gb188, 0, none⟩ = some (.string ((rd_T23 l0_1 x39_2).f0)) ∧ w'.cell? ⟨gb188, 1, none⟩ = some (.int .i64 ((rd_T23 l0_1 x39_2).f1)) ∧ w'.cell? ⟨gb188, 2, none⟩ = some (.int .i64 ((rd_T23 l0_1 x39_2).f2)) ∧ w'.cell? ⟨gb188, 3, none⟩ = some (.bool ((rd_T23 l0_1 x39_2).f3)) ∧ w'.cell? ⟨gb182, 0, none⟩ = some (.int .i64 a0_0) ∧ w'.cell? ⟨gb182, 1, none⟩ = some (.slice (some ad187) l0_1.length c0_1) ∧ w'.cell? ⟨gb182, 2, none⟩ = some (.slice (some ad185) l0_2.length c0_2) ∧ w'.cell? ⟨gb186, 0, none⟩ = some (.bool ((rd_T46 l0_2 x25_1).f0)) ∧ w'.cell? ⟨gb186, 1, none⟩ = some (.slice (some ad189) ((rd_T46 l0_2 x25_1).f1).length c185_1) ∧ w'.cell? (ad189.add ((x39_2).toNat * 3)) = some (.int .i64 ((rd_T25 ((rd_T46 l0_2 x25_1).f1) x39_2).f0)) ∧ w'.cell? ⟨(ad189.add ((x39_2).toNat * 3)).block, (ad189.add ((x39_2).toNat * 3)).off + 1, none⟩ = some (.int .i64 ((rd_T25 ((rd_T46 l0_2 x25_1).f1) x39_2).f1)) ∧ w'.cell? ⟨(ad189.add ((x39_2).toNat * 3)).block, (ad189.add ((x39_2).toNat * 3)).off + 2, none⟩ = some (.string ((rd_T25 ((rd_T46 l0_2 x25_1).f1) x39_2).f2))) (ds := []) (bs 10 0) (by kernel_rfl) rfl rfl ⟨(Y0 BK188.out 0).trans rfl, (Y0 BK188.out 1).trans rfl, (Y0 BK188.out 2).trans rfl, (Y0 BK188.out 3).trans rfl, (Y0 BK182.out 0).trans rfl, (Y0 BK182.out 1).trans rfl, (Y0 BK182.out 2).trans rfl, (Y0 BK186.out 0).trans rfl, (Y0 BK186.out 1).trans rfl, ((HB.out.cell (World.block_lt_of_cell? w _ hw189_0)).trans hw189_0), ((HB.out.cell (World.block_lt_of_cell? w _ hw189_1)).trans hw189_1), ((HB.out.cell (World.block_lt_of_cell? w _ hw189_2)).trans hw189_2)⟩ (fun hHeld => ?_); refine with_tabW table_Validate.tab16 table_Validate.bits16 (fun HT_ HW_ => ?_)
                 generalize w33.drew = w34 at BK182 BK186 BK188 HB hx189_0 hx189_1 hx189_2 hHeld ⊢
                 refine Y8 (i := 1) (N := some 45) (v := ?_) (a' := ?_) (bs 10 2) rfl rfl (Y3 HT_.out (by kernel_rfl)) (fun _ _ _ h => h) (Or.inl ⟨by rfl, ?_⟩) ?_ ?_
                 rotate_left
                 ·intro w'
                  go_simp
                  with_reducible rfl
                 rotate_left
                 ·simp only [Act.put, Z1, Z2, Z3, Y4, Y5]
                  rfl
                 refine Y8 (i := 3) (N := some 47) (v := ?_) (a' := ?_) (bs 10 10) rfl rfl (Y3 HT_.out (by kernel_rfl)) (fun _ _ _ h => h) (Or.inl ⟨by rfl, ?_⟩) ?_ ?_
                 rotate_left
                 ·intro w'
                  go_simp
                  with_reducible rfl
                 rotate_left
                 ·simp only [Act.put, Z1, Z2, Z3, Y4, Y5]
                  rfl
                 refine Y8 (i := 5) (N := some 49) (v := ?_) (a' := ?_) (bs 10 42) rfl rfl (Y3 HT_.out (by kernel_rfl)) (fun _ _ _ h => h) (Or.inl ⟨by rfl, ?_⟩) ?_ ?_
                 rotate_left
                 ·intro w'
                  go_simp
                  with_reducible rfl
                 rotate_left
                 ·simp only [Act.put, Z1, Z2, Z3, Y4, Y5]
                  rfl
                 refine take_ (i := 0) (N := some 44) (v := ?_) (a' := ?_) (bs 10 43) rfl rfl (take_ofW HT_.out HW_.out (by kernel_rfl)) (fun _ _ _ h => h) (Or.inl ⟨by rfl, ?_⟩) hHeld ?_ ?_
                 rotate_left
                 ·rintro w' ⟨s0, s1, s2, s3, s4, s5, s6, s7, s8, s9, s10, s11⟩
                  go_simp
                  with_reducible rfl
                 rotate_left
                 ·simp only [Act.put, Z1, Z2, Z3, Y4, Y5]
                  rfl
                 refine take_ (i := 2) (N := some 46) (v := ?_) (a' := ?_) (bs 10 47) rfl rfl (take_ofW HT_.out HW_.out (by kernel_rfl)) (fun _ _ _ h => h) (Or.inl ⟨by rfl, ?_⟩) hHeld ?_ ?_
                 rotate_left
                 ·rintro w' ⟨s0, s1, s2, s3, s4, s5, s6, s7, s8, s9, s10, s11⟩
                  go_simp
                  with_reducible rfl
                 rotate_left
                 ·simp only [Act.put, Z1, Z2, Z3, Y4, Y5]
                  rfl
                 refine take_ (i := 4) (N := some 48) (v := ?_) (a' := ?_) (bs 10 63) rfl rfl (take_ofW HT_.out HW_.out (by kernel_rfl)) (fun _ _ _ h => h) (Or.inl ⟨by rfl, ?_⟩) hHeld ?_ ?_
                 rotate_left
                 ·rintro w' ⟨s0, s1, s2, s3, s4, s5, s6, s7, s8, s9, s10, s11⟩
                  go_simp
                  with_reducible rfl
                 rotate_left
                 ·simp only [Act.put, Z1, Z2, Z3, Y4, Y5]
                  rfl
                 refine Y8 (i := 6) (N := some 50) (v := ?_) (a' := ?_) (bs 10 127) rfl rfl (Y3 HT_.out (by kernel_rfl)) (fun _ _ _ h => h) (Or.inl ⟨by rfl, ?_⟩) ?_ ?_
                 rotate_left
                 ·intro w'
                  go_simp
                  with_reducible rfl
                 rotate_left
                 ·simp only [Act.put, Z1, Z2, Z3, Y4, Y5]
                  rfl
                 refine take_ (i := 7) (N := some 51) (v := ?_) (a' := ?_) (bs 10 255) rfl rfl (take_ofW HT_.out HW_.out (by kernel_rfl)) (fun _ _ _ h => h) (Or.inl ⟨by rfl, ?_⟩) hHeld ?_ ?_
                 rotate_left
                 ·rintro w' ⟨s0, s1, s2, s3, s4, s5, s6, s7, s8, s9, s10, s11⟩
                  go_simp
                  with_reducible rfl
                 rotate_left
                 ·simp only [Act.put, Z1, Z2, Z3, Y4, Y5]
                  rfl
                 refine one_ (i := 8) (N := some 52) (bs 10 511) rfl rfl (one_of HT_.out (by kernel_rfl)) (by decide) (fun K hK => ?_)
                 refine goes_ Tryz.func73 (by kernel_rfl) rfl #[.agg #[.string ((rd_T23 l0_1 x39_2).f0), .int .i64 ((rd_T23 l0_1 x39_2).f1), .int .i64 ((rd_T23 l0_1 x39_2).f2), .bool ((rd_T23 l0_1 x39_2).f3)], .int .i64 a0_0, .agg #[.int .i64 ((rd_T25 ((rd_T46 l0_2 x25_1).f1) x39_2).f0), .int .i64 ((rd_T25 ((rd_T46 l0_2 x25_1).f1) x39_2).f1), .string ((rd_T25 ((rd_T46 l0_2 x25_1).f1) x39_2).f2)]] (by rfl) rfl rfl V1 ?_
                 with_reducible refine (table_holds.calls k2 ((rd_T23 l0_1 x39_2).f0) ((rd_T23 l0_1 x39_2).f1) ((rd_T23 l0_1 x39_2).f2) ((rd_T23 l0_1 x39_2).f3) a0_0 ((rd_T25 ((rd_T46 l0_2 x25_1).f1) x39_2).f0) ((rd_T25 ((rd_T46 l0_2 x25_1).f1) x39_2).f1) ((rd_T25 ((rd_T46 l0_2 x25_1).f1) x39_2).f2) true _ A27.out).mono ?_
                 rintro e w35 ⟨rfl, hb⟩
                 refine ⟨_, rfl, ?_⟩
                 have n0_ := Z0 (Z5 (g := gb182) (o := .cells #[.int .i64 a0_0, .slice (some ad187) l0_1.length c0_1, .slice (some ad185) l0_2.length c0_2] 35 (0, 0)) (by (with_reducible repeat (first | refine Z6 ?_ _ | refine Z8 ?_ | refine Z7 ?_ _)); exact BK182.out) hb)
                 have n1_ := Z0 (Z5 (g := gb186) (o := .cells #[.bool ((rd_T46 l0_2 x25_1).f0), .slice (some ad189) ((rd_T46 l0_2 x25_1).f1).length c185_1] 46 (0, 0)) (by (with_reducible repeat (first | refine Z6 ?_ _ | refine Z8 ?_ | refine Z7 ?_ _)); exact BK186.out) hb)
                 have n2_ := Z0 (Z5 (g := gb188) (o := .cells #[.string ((rd_T23 l0_1 x39_2).f0), .int .i64 ((rd_T23 l0_1 x39_2).f1), .int .i64 ((rd_T23 l0_1 x39_2).f2), .bool ((rd_T23 l0_1 x39_2).f3)] 23 (0, 0)) (by (with_reducible repeat (first | refine Z6 ?_ _ | refine Z8 ?_ | refine Z7 ?_ _)); exact BK188.out) hb)
                 have n3_ := Z0 (Z4 V0 hb)
                 clear BK182
                 clear BK186
                 clear BK188
                 clear HB
                 have BK182 := n0_
                 have BK186 := n1_
                 have BK188 := n2_
                 have HB := n3_
                 clear n0_ n1_ n2_ n3_
                 (try clear hb)
                 (try clear hb2)
                 (try clear hk)
                 (try clear hi)
                 refine hK.out _ _ ⟨(Y0 BK188.out 0).trans rfl, (Y0 BK188.out 1).trans rfl, (Y0 BK188.out 2).trans rfl, (Y0 BK188.out 3).trans rfl, (Y0 BK182.out 0).trans rfl, (Y0 BK182.out 1).trans rfl, (Y0 BK182.out 2).trans rfl, (Y0 BK186.out 0).trans rfl, (Y0 BK186.out 1).trans rfl, ((HB.out.cell (World.block_lt_of_cell? w _ hw189_0)).trans hw189_0), ((HB.out.cell (World.block_lt_of_cell? w _ hw189_1)).trans hw189_1), ((HB.out.cell (World.block_lt_of_cell? w _ hw189_2)).trans hw189_2)⟩ (fun hHeld => ?_)
                 clear hK K
                 refine norm_ (a' := ?_) ?_ ?_
                 rotate_left
                 ·show Act.put _ (some 52) _ = _
                  simp only [Act.put, Z1, Z2, Z3, Y4, Y5]
                  rfl
                 refine Y8 (i := 9) (N := some 53) (v := ?_) (a' := ?_) (bs 10 1023) rfl rfl (Y3 HT_.out (by kernel_rfl)) (fun _ _ _ h => h) (Or.inl ⟨by rfl, ?_⟩) ?_ ?_
                 rotate_left
                 ·intro w'
                  go_simp
                  with_reducible rfl
                 rotate_left
                 ·simp only [Act.put, Z1, Z2, Z3, Y4, Y5]
                  rfl
                 refine done_ (done_of HT_.out (by kernel_rfl)) ?_
                 try go_wp2
                 go_roundg k2
                 case measure => have := HK1.out; have := HK2.out; omega
                 case rel => exact ⟨(wrap64 (x39_2 + 1)), V2, H', ⟨by have := HK1.out; have := HK2.out; omega⟩, ⟨by (with_reducible repeat (first | refine Z6 ?_ _ | refine Z8 ?_ | refine Z7 ?_ _)); exact BK182.out⟩, ⟨by (with_reducible repeat (first | refine Z6 ?_ _ | refine Z8 ?_ | refine Z7 ?_ _)); exact BK186.out⟩, ⟨V0⟩⟩
                ·replace c28 := Bool.eq_false_iff.mpr c28
                 subst c28
                 have H1 : (some 1) = some r := by rw [if_neg (show ¬ (false = true) by decide)] at H; exact H
                 clear H
                 have H := H1
                 clear H1
                 obtain rfl := Option.some.inj H
                 have p187 : 0 ≤ (x39_2 : Int) := of_decide_eq_true V3
                 have q187 : x39_2 < (l0_1.length : Int) := of_decide_eq_true V3
                 obtain ⟨ad187, e187, hx187_0, hx187_1, hx187_2, hx187_3⟩ := at_T23 HR0_1.out x39_2 p187 q187
                 cases e187
                 replace hx187_0 := (HB.out.cell (World.block_lt_of_cell? w _ hx187_0)).trans hx187_0
                 replace hx187_1 := (HB.out.cell (World.block_lt_of_cell? w _ hx187_1)).trans hx187_1
                 replace hx187_2 := (HB.out.cell (World.block_lt_of_cell? w _ hx187_2)).trans hx187_2
                 replace hx187_3 := (HB.out.cell (World.block_lt_of_cell? w _ hx187_3)).trans hx187_3
                 replace p187 := eq_true p187
                 replace q187 := eq_true q187
                 try go_wp2_with (first | ((with_reducible refine Y1 (N := 7) rfl ?_); refine bx (N := 7) (cs := #[.string (⟨#[]⟩ : ByteArray), .int .i64 0, .int .i64 0, .bool false]) (t := 23) ?_; intro gb188 hg w36 hbox hb; have BK188 := Z0 (hbox); have GE188 := Z0 ((by rw [hg]; exact (Z9 V0) : w.heap.size ≤ gb188)); replace HB := Z0 (Z4 V0 hb); have NB182_188 := Z0 ((by rw [hg]; exact Nat.ne_of_lt (blk_lt (g := gb182) (o := .cells #[.int .i64 a0_0, .slice (some ad187) l0_1.length c0_1, .slice (some ad185) l0_2.length c0_2] 35 (0, 0)) (by (with_reducible repeat (first | refine Z6 ?_ _ | refine Z8 ?_ | refine Z7 ?_ _)); exact BK182.out)) : gb182 ≠ gb188)); have NB188_182 := Z0 ((by rw [hg]; exact Nat.ne_of_gt (blk_lt (g := gb182) (o := .cells #[.int .i64 a0_0, .slice (some ad187) l0_1.length c0_1, .slice (some ad185) l0_2.length c0_2] 35 (0, 0)) (by (with_reducible repeat (first | refine Z6 ?_ _ | refine Z8 ?_ | refine Z7 ?_ _)); exact BK182.out)) : gb188 ≠ gb182)); replace BK182 := Z0 (Z5 (g := gb182) (o := .cells #[.int .i64 a0_0, .slice (some ad187) l0_1.length c0_1, .slice (some ad185) l0_2.length c0_2] 35 (0, 0)) (by (with_reducible repeat (first | refine Z6 ?_ _ | refine Z8 ?_ | refine Z7 ?_ _)); exact BK182.out) hb); have NB186_188 := Z0 ((by rw [hg]; exact Nat.ne_of_lt (blk_lt (g := gb186) (o := .cells #[.bool ((rd_T46 l0_2 x25_1).f0), .slice A185_1 ((rd_T46 l0_2 x25_1).f1).length c185_1] 46 (0, 0)) (by (with_reducible repeat (first | refine Z6 ?_ _ | refine Z8 ?_ | refine Z7 ?_ _)); exact BK186.out)) : gb186 ≠ gb188)); have NB188_186 := Z0 ((by rw [hg]; exact Nat.ne_of_gt (blk_lt (g := gb186) (o := .cells #[.bool ((rd_T46 l0_2 x25_1).f0), .slice A185_1 ((rd_T46 l0_2 x25_1).f1).length c185_1] 46 (0, 0)) (by (with_reducible repeat (first | refine Z6 ?_ _ | refine Z8 ?_ | refine Z7 ?_ _)); exact BK186.out)) : gb188 ≠ gb186)); replace BK186 := Z0 (Z5 (g := gb186) (o := .cells #[.bool ((rd_T46 l0_2 x25_1).f0), .slice A185_1 ((rd_T46 l0_2 x25_1).f1).length c185_1] 46 (0, 0)) (by (with_reducible repeat (first | refine Z6 ?_ _ | refine Z8 ?_ | refine Z7 ?_ _)); exact BK186.out) hb); clear hb hbox hg; have hnb37 := NB188_182.out; have hnc37 := NB182_188.out; have hnb38 := NB188_186.out; have hnc38 := NB186_188.out; obtain ⟨hcz39_0, hcz39_1, hcz39_2, hcz39_3⟩ := bc4 BK188.out; obtain ⟨hfz39_0, hfz39_1, hfz39_2, hfz39_3⟩ := bf4 BK188.out))
                 have n0_ : Aside0 (((((w36.setCell ⟨gb188, 0, none⟩ (.string ((rd_T23 l0_1 x39_2).f0))).setCell ⟨gb188, 1, none⟩ (.int .i64 ((rd_T23 l0_1 x39_2).f1))).setCell ⟨gb188, 2, none⟩ (.int .i64 ((rd_T23 l0_1 x39_2).f2))).setCell ⟨gb188, 3, none⟩ (.bool ((rd_T23 l0_1 x39_2).f3))).heap[gb182]? = some (.cells #[.int .i64 a0_0, .slice (some ad187) l0_1.length c0_1, .slice (some ad185) l0_2.length c0_2] 35 (0, 0))) := ⟨by (with_reducible repeat (first | refine Z6 ?_ _ | refine Z8 ?_ | refine Z7 ?_ _)); refine blk_far ?_ NB182_188.out _; (with_reducible repeat (first | refine Z6 ?_ _ | refine Z8 ?_ | refine Z7 ?_ _)); refine blk_far ?_ NB182_188.out _; (with_reducible repeat (first | refine Z6 ?_ _ | refine Z8 ?_ | refine Z7 ?_ _)); refine blk_far ?_ NB182_188.out _; (with_reducible repeat (first | refine Z6 ?_ _ | refine Z8 ?_ | refine Z7 ?_ _)); refine blk_far ?_ NB182_188.out _; (with_reducible repeat (first | refine Z6 ?_ _ | refine Z8 ?_ | refine Z7 ?_ _)); exact BK182.out⟩
                 have n1_ : Aside0 (((((w36.setCell ⟨gb188, 0, none⟩ (.string ((rd_T23 l0_1 x39_2).f0))).setCell ⟨gb188, 1, none⟩ (.int .i64 ((rd_T23 l0_1 x39_2).f1))).setCell ⟨gb188, 2, none⟩ (.int .i64 ((rd_T23 l0_1 x39_2).f2))).setCell ⟨gb188, 3, none⟩ (.bool ((rd_T23 l0_1 x39_2).f3))).heap[gb186]? = some (.cells #[.bool ((rd_T46 l0_2 x25_1).f0), .slice A185_1 ((rd_T46 l0_2 x25_1).f1).length c185_1] 46 (0, 0))) := ⟨by (with_reducible repeat (first | refine Z6 ?_ _ | refine Z8 ?_ | refine Z7 ?_ _)); refine blk_far ?_ NB186_188.out _; (with_reducible repeat (first | refine Z6 ?_ _ | refine Z8 ?_ | refine Z7 ?_ _)); refine blk_far ?_ NB186_188.out _; (with_reducible repeat (first | refine Z6 ?_ _ | refine Z8 ?_ | refine Z7 ?_ _)); refine blk_far ?_ NB186_188.out _; (with_reducible repeat (first | refine Z6 ?_ _ | refine Z8 ?_ | refine Z7 ?_ _)); refine blk_far ?_ NB186_188.out _; (with_reducible repeat (first | refine Z6 ?_ _ | refine Z8 ?_ | refine Z7 ?_ _)); exact BK186.out⟩
                 have n2_ : Aside0 (((((w36.setCell ⟨gb188, 0, none⟩ (.string ((rd_T23 l0_1 x39_2).f0))).setCell ⟨gb188, 1, none⟩ (.int .i64 ((rd_T23 l0_1 x39_2).f1))).setCell ⟨gb188, 2, none⟩ (.int .i64 ((rd_T23 l0_1 x39_2).f2))).setCell ⟨gb188, 3, none⟩ (.bool ((rd_T23 l0_1 x39_2).f3))).heap[gb188]? = some (.cells #[.string ((rd_T23 l0_1 x39_2).f0), .int .i64 ((rd_T23 l0_1 x39_2).f1), .int .i64 ((rd_T23 l0_1 x39_2).f2), .bool ((rd_T23 l0_1 x39_2).f3)] 23 (0, 0))) := ⟨by (with_reducible repeat (first | refine Z6 ?_ _ | refine Z8 ?_ | refine Z7 ?_ _)); refine blk_put (cs := #[.string ((rd_T23 l0_1 x39_2).f0), .int .i64 ((rd_T23 l0_1 x39_2).f1), .int .i64 ((rd_T23 l0_1 x39_2).f2), .bool false]) ?_ 3 _ rfl; (with_reducible repeat (first | refine Z6 ?_ _ | refine Z8 ?_ | refine Z7 ?_ _)); refine blk_put (cs := #[.string ((rd_T23 l0_1 x39_2).f0), .int .i64 ((rd_T23 l0_1 x39_2).f1), .int .i64 0, .bool false]) ?_ 2 _ rfl; (with_reducible repeat (first | refine Z6 ?_ _ | refine Z8 ?_ | refine Z7 ?_ _)); refine blk_put (cs := #[.string ((rd_T23 l0_1 x39_2).f0), .int .i64 0, .int .i64 0, .bool false]) ?_ 1 _ rfl; (with_reducible repeat (first | refine Z6 ?_ _ | refine Z8 ?_ | refine Z7 ?_ _)); refine blk_put (cs := #[.string (⟨#[]⟩ : ByteArray), .int .i64 0, .int .i64 0, .bool false]) ?_ 0 _ rfl; (with_reducible repeat (first | refine Z6 ?_ _ | refine Z8 ?_ | refine Z7 ?_ _)); exact BK188.out⟩
                 have n3_ : Aside0 (Below w.heap.size w ((((w36.setCell ⟨gb188, 0, none⟩ (.string ((rd_T23 l0_1 x39_2).f0))).setCell ⟨gb188, 1, none⟩ (.int .i64 ((rd_T23 l0_1 x39_2).f1))).setCell ⟨gb188, 2, none⟩ (.int .i64 ((rd_T23 l0_1 x39_2).f2))).setCell ⟨gb188, 3, none⟩ (.bool ((rd_T23 l0_1 x39_2).f3)))) := ⟨V0⟩
                 (try clear BK182)
                 (try clear BK186)
                 (try clear BK188)
                 (try clear HB)
                 generalize ((((w36.setCell ⟨gb188, 0, none⟩ (.string ((rd_T23 l0_1 x39_2).f0))).setCell ⟨gb188, 1, none⟩ (.int .i64 ((rd_T23 l0_1 x39_2).f1))).setCell ⟨gb188, 2, none⟩ (.int .i64 ((rd_T23 l0_1 x39_2).f2))).setCell ⟨gb188, 3, none⟩ (.bool ((rd_T23 l0_1 x39_2).f3))) = w40 at n0_ n1_ n2_ n3_ ⊢
                 have BK182 := n0_
                 have BK186 := n1_
                 have BK188 := n2_
                 have HB := n3_
                 clear n0_ n1_ n2_ n3_
                 have n0_ := Z0 (Z8 BK182.out)
                 have n1_ := Z0 (Z8 BK186.out)
                 have n2_ := Z0 (Z8 BK188.out)
                 have n3_ := Z0 (below_drew1 HB.out)
                 clear BK182
                 clear BK186
                 clear BK188
                 clear HB
                 have BK182 := n0_
                 have BK186 := n1_
                 have BK188 := n2_
                 have HB := n3_
                 clear n0_ n1_ n2_ n3_
                 have p189 : 0 ≤ (x39_2 : Int) := of_decide_eq_true V3
                 have q189 : x39_2 < (((rd_T46 l0_2 x25_1).f1).length : Int) := of_decide_eq_true V3
                 obtain ⟨ad189, e189, hx189_0, hx189_1, hx189_2⟩ := at_T25 HR185_1.out x39_2 p189 q189
                 have hw189_2 := hx189_2
                 have hw189_1 := hx189_1
                 have hw189_0 := hx189_0
                 cases e189
                 replace hx189_0 := (HB.out.cell (World.block_lt_of_cell? w _ hx189_0)).trans hx189_0
                 replace hx189_1 := (HB.out.cell (World.block_lt_of_cell? w _ hx189_1)).trans hx189_1
                 replace hx189_2 := (HB.out.cell (World.block_lt_of_cell? w _ hx189_2)).trans hx189_2
                 replace p189 := eq_true p189
                 replace q189 := eq_true q189
                 refine start_ (n := 10) (S := fun w' => w'.cell? ⟨gb188, 0, none⟩ = some (.string ((rd_T23 l0_1 x39_2).f0)) ∧ w'.cell? ⟨gb188, 1, none⟩ = some (.int .i64 ((rd_T23 l0_1 x39_2).f1)) ∧ w'.cell? ⟨gb188, 2, none⟩ = some (.int .i64 ((rd_T23 l0_1 x39_2).f2)) ∧ w'.cell? ⟨gb188, 3, none⟩ = some (.bool ((rd_T23 l0_1 x39_2).f3)) ∧ w'.cell? ⟨gb182, 0, none⟩ = some (.int .i64 a0_0) ∧ w'.cell? ⟨gb182, 1, none⟩ = some (.slice (some ad187) l0_1.length c0_1) ∧ w'.cell? ⟨gb182, 2, none⟩ = some (.slice (some ad185) l0_2.length c0_2) ∧ w'.cell? ⟨gb186, 0, none⟩ = some (.bool ((rd_T46 l0_2 x25_1).f0)) ∧ w'.cell? ⟨gb186, 1, none⟩ = some (.slice (some ad189) ((rd_T46 l0_2 x25_1).f1).length c185_1) ∧ w'.cell? (ad189.add ((x39_2).toNat * 3)) = some (.int .i64 ((rd_T25 ((rd_T46 l0_2 x25_1).f1) x39_2).f0)) ∧ w'.cell? ⟨(ad189.add ((x39_2).toNat * 3)).block, (ad189.add ((x39_2).toNat * 3)).off + 1, none⟩ = some (.int .i64 ((rd_T25 ((rd_T46 l0_2 x25_1).f1) x39_2).f1)) ∧ w'.cell? ⟨(ad189.add ((x39_2).toNat * 3)).block, (ad189.add ((x39_2).toNat * 3)).off + 2, none⟩ = some (.string ((rd_T25 ((rd_T46 l0_2 x25_1).f1) x39_2).f2))) (ds := []) (bs 10 0) (by kernel_rfl) rfl rfl ⟨(Y0 BK188.out 0).trans rfl, (Y0 BK188.out 1).trans rfl, (Y0 BK188.out 2).trans rfl, (Y0 BK188.out 3).trans rfl, (Y0 BK182.out 0).trans rfl, (Y0 BK182.out 1).trans rfl, (Y0 BK182.out 2).trans rfl, (Y0 BK186.out 0).trans rfl, (Y0 BK186.out 1).trans rfl, ((HB.out.cell (World.block_lt_of_cell? w _ hw189_0)).trans hw189_0), ((HB.out.cell (World.block_lt_of_cell? w _ hw189_1)).trans hw189_1), ((HB.out.cell (World.block_lt_of_cell? w _ hw189_2)).trans hw189_2)⟩ (fun hHeld => ?_); refine with_tabW table_Validate.tab16 table_Validate.bits16 (fun HT_ HW_ => ?_)
                 generalize w40.drew = w41 at BK182 BK186 BK188 HB hx189_0 hx189_1 hx189_2 hHeld ⊢
                 refine Y8 (i := 1) (N := some 45) (v := ?_) (a' := ?_) (bs 10 2) rfl rfl (Y3 HT_.out (by kernel_rfl)) (fun _ _ _ h => h) (Or.inl ⟨by rfl, ?_⟩) ?_ ?_
                 rotate_left
                 ·intro w'
                  go_simp
                  with_reducible rfl
                 rotate_left
                 ·simp only [Act.put, Z1, Z2, Z3, Y4, Y5]
                  rfl
                 refine Y8 (i := 3) (N := some 47) (v := ?_) (a' := ?_) (bs 10 10) rfl rfl (Y3 HT_.out (by kernel_rfl)) (fun _ _ _ h => h) (Or.inl ⟨by rfl, ?_⟩) ?_ ?_
                 rotate_left
                 ·intro w'
                  go_simp
                  with_reducible rfl
                 rotate_left
                 ·simp only [Act.put, Z1, Z2, Z3, Y4, Y5]
                  rfl
                 refine Y8 (i := 5) (N := some 49) (v := ?_) (a' := ?_) (bs 10 42) rfl rfl (Y3 HT_.out (by kernel_rfl)) (fun _ _ _ h => h) (Or.inl ⟨by rfl, ?_⟩) ?_ ?_
                 rotate_left
                 ·intro w'
                  go_simp
                  with_reducible rfl
                 rotate_left
                 ·simp only [Act.put, Z1, Z2, Z3, Y4, Y5]
                  rfl
                 refine take_ (i := 0) (N := some 44) (v := ?_) (a' := ?_) (bs 10 43) rfl rfl (take_ofW HT_.out HW_.out (by kernel_rfl)) (fun _ _ _ h => h) (Or.inl ⟨by rfl, ?_⟩) hHeld ?_ ?_
                 rotate_left
                 ·rintro w' ⟨s0, s1, s2, s3, s4, s5, s6, s7, s8, s9, s10, s11⟩
                  go_simp
                  with_reducible rfl
                 rotate_left
                 ·simp only [Act.put, Z1, Z2, Z3, Y4, Y5]
                  rfl
                 refine take_ (i := 2) (N := some 46) (v := ?_) (a' := ?_) (bs 10 47) rfl rfl (take_ofW HT_.out HW_.out (by kernel_rfl)) (fun _ _ _ h => h) (Or.inl ⟨by rfl, ?_⟩) hHeld ?_ ?_
                 rotate_left
                 ·rintro w' ⟨s0, s1, s2, s3, s4, s5, s6, s7, s8, s9, s10, s11⟩
                  go_simp
                  with_reducible rfl
                 rotate_left
                 ·simp only [Act.put, Z1, Z2, Z3, Y4, Y5]
                  rfl
                 refine take_ (i := 4) (N := some 48) (v := ?_) (a' := ?_) (bs 10 63) rfl rfl (take_ofW HT_.out HW_.out (by kernel_rfl)) (fun _ _ _ h => h) (Or.inl ⟨by rfl, ?_⟩) hHeld ?_ ?_
                 rotate_left
                 ·rintro w' ⟨s0, s1, s2, s3, s4, s5, s6, s7, s8, s9, s10, s11⟩
                  go_simp
                  with_reducible rfl
                 rotate_left
                 ·simp only [Act.put, Z1, Z2, Z3, Y4, Y5]
                  rfl
                 refine Y8 (i := 6) (N := some 50) (v := ?_) (a' := ?_) (bs 10 127) rfl rfl (Y3 HT_.out (by kernel_rfl)) (fun _ _ _ h => h) (Or.inl ⟨by rfl, ?_⟩) ?_ ?_
                 rotate_left
                 ·intro w'
                  go_simp
                  with_reducible rfl
                 rotate_left
                 ·simp only [Act.put, Z1, Z2, Z3, Y4, Y5]
                  rfl
                 refine take_ (i := 7) (N := some 51) (v := ?_) (a' := ?_) (bs 10 255) rfl rfl (take_ofW HT_.out HW_.out (by kernel_rfl)) (fun _ _ _ h => h) (Or.inl ⟨by rfl, ?_⟩) hHeld ?_ ?_
                 rotate_left
                 ·rintro w' ⟨s0, s1, s2, s3, s4, s5, s6, s7, s8, s9, s10, s11⟩
                  go_simp
                  with_reducible rfl
                 rotate_left
                 ·simp only [Act.put, Z1, Z2, Z3, Y4, Y5]
                  rfl
                 refine one_ (i := 8) (N := some 52) (bs 10 511) rfl rfl (one_of HT_.out (by kernel_rfl)) (by decide) (fun K hK => ?_)
                 refine goes_ Tryz.func73 (by kernel_rfl) rfl #[.agg #[.string ((rd_T23 l0_1 x39_2).f0), .int .i64 ((rd_T23 l0_1 x39_2).f1), .int .i64 ((rd_T23 l0_1 x39_2).f2), .bool ((rd_T23 l0_1 x39_2).f3)], .int .i64 a0_0, .agg #[.int .i64 ((rd_T25 ((rd_T46 l0_2 x25_1).f1) x39_2).f0), .int .i64 ((rd_T25 ((rd_T46 l0_2 x25_1).f1) x39_2).f1), .string ((rd_T25 ((rd_T46 l0_2 x25_1).f1) x39_2).f2)]] (by rfl) rfl rfl V1 ?_
                 with_reducible refine (table_holds.calls k2 ((rd_T23 l0_1 x39_2).f0) ((rd_T23 l0_1 x39_2).f1) ((rd_T23 l0_1 x39_2).f2) ((rd_T23 l0_1 x39_2).f3) a0_0 ((rd_T25 ((rd_T46 l0_2 x25_1).f1) x39_2).f0) ((rd_T25 ((rd_T46 l0_2 x25_1).f1) x39_2).f1) ((rd_T25 ((rd_T46 l0_2 x25_1).f1) x39_2).f2) false _ A27.out).mono ?_
                 rintro e w42 ⟨rfl, hb⟩
                 refine ⟨_, rfl, ?_⟩
                 have n0_ := Z0 (Z5 (g := gb182) (o := .cells #[.int .i64 a0_0, .slice (some ad187) l0_1.length c0_1, .slice (some ad185) l0_2.length c0_2] 35 (0, 0)) (by (with_reducible repeat (first | refine Z6 ?_ _ | refine Z8 ?_ | refine Z7 ?_ _)); exact BK182.out) hb)
                 have n1_ := Z0 (Z5 (g := gb186) (o := .cells #[.bool ((rd_T46 l0_2 x25_1).f0), .slice (some ad189) ((rd_T46 l0_2 x25_1).f1).length c185_1] 46 (0, 0)) (by (with_reducible repeat (first | refine Z6 ?_ _ | refine Z8 ?_ | refine Z7 ?_ _)); exact BK186.out) hb)
                 have n2_ := Z0 (Z5 (g := gb188) (o := .cells #[.string ((rd_T23 l0_1 x39_2).f0), .int .i64 ((rd_T23 l0_1 x39_2).f1), .int .i64 ((rd_T23 l0_1 x39_2).f2), .bool ((rd_T23 l0_1 x39_2).f3)] 23 (0, 0)) (by (with_reducible repeat (first | refine Z6 ?_ _ | refine Z8 ?_ | refine Z7 ?_ _)); exact BK188.out) hb)
                 have n3_ := Z0 (Z4 V0 hb)
                 clear BK182
                 clear BK186
                 clear BK188
                 clear HB
                 have BK182 := n0_
                 have BK186 := n1_
                 have BK188 := n2_
                 have HB := n3_
                 clear n0_ n1_ n2_ n3_
                 (try clear hb)
                 (try clear hb2)
                 (try clear hk)
                 (try clear hi)
                 refine hK.out _ _ ⟨(Y0 BK188.out 0).trans rfl, (Y0 BK188.out 1).trans rfl, (Y0 BK188.out 2).trans rfl, (Y0 BK188.out 3).trans rfl, (Y0 BK182.out 0).trans rfl, (Y0 BK182.out 1).trans rfl, (Y0 BK182.out 2).trans rfl, (Y0 BK186.out 0).trans rfl, (Y0 BK186.out 1).trans rfl, ((HB.out.cell (World.block_lt_of_cell? w _ hw189_0)).trans hw189_0), ((HB.out.cell (World.block_lt_of_cell? w _ hw189_1)).trans hw189_1), ((HB.out.cell (World.block_lt_of_cell? w _ hw189_2)).trans hw189_2)⟩ (fun hHeld => ?_)
                 clear hK K
                 refine norm_ (a' := ?_) ?_ ?_
                 rotate_left
                 ·show Act.put _ (some 52) _ = _
                  simp only [Act.put, Z1, Z2, Z3, Y4, Y5]
                  rfl
                 refine Y8 (i := 9) (N := some 53) (v := ?_) (a' := ?_) (bs 10 1023) rfl rfl (Y3 HT_.out (by kernel_rfl)) (fun _ _ _ h => h) (Or.inl ⟨by rfl, ?_⟩) ?_ ?_
                 rotate_left
                 ·intro w'
                  go_simp
                  with_reducible rfl
                 rotate_left
                 ·simp only [Act.put, Z1, Z2, Z3, Y4, Y5]
                  rfl
                 refine done_ (done_of HT_.out (by kernel_rfl)) ?_
                 try go_wp2
                 go_ret
                 exact ⟨rfl, V0⟩
               ·rw [if_neg c26] at H
                exact absurd H (by simp)
              ·rw [if_neg c25] at H
               exact absurd H (by simp)
             ·rw [if_neg c24] at H
              exact absurd H (by simp)
            ·rw [if_neg c23] at H
             have c23b0 : decide (x39_2 < (l0_1.length : Int)) = false := decide_eq_false c23
             clear c23
             have H' := Z0 H
             clear H
             go_wp2
             go_roundg k2
             case measure => have := HK1.out; have := HK2.out; omega
             case rel => exact ⟨(wrap64 (x25_1 + 1)), V2, H', ⟨by have := HK1.out; have := HK2.out; omega⟩, ⟨by (with_reducible repeat (first | refine Z6 ?_ _ | refine Z8 ?_ | refine Z7 ?_ _)); exact BK182.out⟩, ⟨V0⟩⟩
         ·rw [if_neg c18] at H
          have c18b0 : ((((rd_T46 l0_2 x25_1).f1).length : Int) == (l0_1.length : Int)) = false := beq_eq_false_iff_ne.mpr c18
          have c18b1 : ((((rd_T46 l0_2 x25_1).f1).length : Int) != (l0_1.length : Int)) = true := bne_iff_ne.mpr c18
          have c18b2 : (((rd_T46 l0_2 x25_1).f1).length == l0_1.length) = false := by first | simpa using c18 | (simp at c18 ⊢; omega)
          obtain rfl := Option.some.inj H
          have p185 : 0 ≤ (x25_1 : Int) := of_decide_eq_true V3
          have q185 : x25_1 < (l0_2.length : Int) := of_decide_eq_true V3
          obtain ⟨ad185, A185_1, c185_1, e185, hx185_0, hx185_1, hl185_1, hi185_1⟩ := at_T46 HR0_2.out x25_1 p185 q185
          cases e185
          replace hx185_0 := (HB.out.cell (World.block_lt_of_cell? w _ hx185_0)).trans hx185_0
          replace hx185_1 := (HB.out.cell (World.block_lt_of_cell? w _ hx185_1)).trans hx185_1
          have HR185_1 := Z0 hi185_1
          have HC185_1 := Z0 hl185_1
          clear hi185_1 hl185_1
          replace p185 := eq_true p185
          replace q185 := eq_true q185
          go_wp2_with (first | ((with_reducible refine Y1 (N := 5) rfl ?_); refine bx (N := 5) (cs := #[.bool false, .slice none 0 0]) (t := 46) ?_; intro gb186 hg w43 hbox hb; have BK186 := Z0 (hbox); have GE186 := Z0 ((by rw [hg]; exact (Z9 V0) : w.heap.size ≤ gb186)); replace HB := Z0 (Z4 V0 hb); have NB182_186 := Z0 ((by rw [hg]; exact Nat.ne_of_lt (blk_lt (g := gb182) (o := .cells #[.int .i64 a0_0, .slice A0_1 l0_1.length c0_1, .slice (some ad185) l0_2.length c0_2] 35 (0, 0)) (by (with_reducible repeat (first | refine Z6 ?_ _ | refine Z8 ?_ | refine Z7 ?_ _)); exact BK182.out)) : gb182 ≠ gb186)); have NB186_182 := Z0 ((by rw [hg]; exact Nat.ne_of_gt (blk_lt (g := gb182) (o := .cells #[.int .i64 a0_0, .slice A0_1 l0_1.length c0_1, .slice (some ad185) l0_2.length c0_2] 35 (0, 0)) (by (with_reducible repeat (first | refine Z6 ?_ _ | refine Z8 ?_ | refine Z7 ?_ _)); exact BK182.out)) : gb186 ≠ gb182)); replace BK182 := Z0 (Z5 (g := gb182) (o := .cells #[.int .i64 a0_0, .slice A0_1 l0_1.length c0_1, .slice (some ad185) l0_2.length c0_2] 35 (0, 0)) (by (with_reducible repeat (first | refine Z6 ?_ _ | refine Z8 ?_ | refine Z7 ?_ _)); exact BK182.out) hb); clear hb hbox hg; have hnb44 := NB186_182.out; have hnc44 := NB182_186.out; obtain ⟨hcz45_0, hcz45_1⟩ := bc2 BK186.out; obtain ⟨hfz45_0, hfz45_1⟩ := bf2 BK186.out; obtain ⟨hcz46_0, hcz46_1, hcz46_2⟩ := bc3 BK182.out; obtain ⟨hfz46_0, hfz46_1, hfz46_2⟩ := bf3 BK182.out))
          go_ret
          exact ⟨rfl, V0⟩
        ·rw [if_neg c17] at H
         exact absurd H (by simp)
       ·rw [if_neg c16] at H
        exact absurd H (by simp)
      ·rw [if_neg c15] at H
       have c15b0 : decide (x25_1 < (l0_2.length : Int)) = false := decide_eq_false c15
       clear c15
       obtain rfl := Option.some.inj H
       go_wp2
       go_ret
       exact ⟨rfl, V0⟩
  ·rw [if_neg c5] at H
   have c5b0 : (t184 == 0) = false := beq_eq_false_iff_ne.mpr c5
   have c5b1 : (t184 != 0) = true := bne_iff_ne.mpr c5
   obtain rfl := Option.some.inj H
   go_enter Tryz.func34, Tryz.ntmps34
   go_wp2_with (first | ((with_reducible refine Y1 (N := 1) rfl ?_); refine bx (N := 1) (cs := #[.int .i64 a0_0, .slice A0_1 l0_1.length c0_1, .slice A0_2 l0_2.length c0_2]) (t := 35) ?_; intro gb182 hg w47 hbox hb; have BK182 := Z0 (hbox); have GE182 := Z0 ((by rw [hg]; exact (Z9 V0) : w.heap.size ≤ gb182)); replace HB := Z0 (Z4 V0 hb); clear hb hbox hg; obtain ⟨hcz48_0, hcz48_1, hcz48_2⟩ := bc3 BK182.out; obtain ⟨hfz48_0, hfz48_1, hfz48_2⟩ := bf3 BK182.out) | ((with_reducible refine Y2 (f := 48) rfl ?_); refine goesL_ (some 10) rfl rfl Tryz.func48 (by kernel_rfl) rfl #[.int .i64 a0_0] rfl V1 ?_; (with_reducible refine (table_isPage.calls a0_0 true _ A2.out).mono ?_); rintro e w' ⟨rfl, ⟨nd, rfl⟩⟩; refine ⟨_, rfl, ?_⟩) | ((with_reducible refine Y2 (f := 36) rfl ?_); refine goesL_ (some 14) rfl rfl Tryz.func36 (by kernel_rfl) rfl #[.slice A0_1 l0_1.length c0_1] rfl V1 ?_; (with_reducible refine (table_ValidateFields.calls _ _ l0_1 t184 _ ?side1 ?side2 A4.out).mono ?_); (case side1 => repeat (first | exact (Kd.C_below HR0_1.out V0) | (with_reducible refine Kd.C_alloc ?_ _) | (with_reducible refine Kd.C_drewN ?_ _) | (with_reducible refine Kd.C_drew ?_))); (case side2 => exact HC0_1.out); rintro e w49 ⟨rfl, hb⟩; refine ⟨_, rfl, ?_⟩; replace BK182 := Z0 (Z5 (g := gb182) (o := .cells #[.int .i64 a0_0, .slice A0_1 l0_1.length c0_1, .slice A0_2 l0_2.length c0_2] 35 (0, 0)) (by (with_reducible repeat (first | refine Z6 ?_ _ | refine Z8 ?_ | refine Z7 ?_ _)); exact BK182.out) hb); replace HB := Z0 (Z4 V0 hb); (try clear hb); (try clear hb2); (try clear hk); (try clear hi)))
   go_ret
   exact ⟨rfl, V0⟩
 ·replace c3 := Bool.eq_false_iff.mpr c3
  subst c3
  have H1 : (some 1) = some r := by rw [if_neg (show ¬ (false = true) by decide)] at H; exact H
  clear H
  have H := H1
  clear H1
  obtain rfl := Option.some.inj H
  go_enter Tryz.func34, Tryz.ntmps34
  go_wp2_with (first | ((with_reducible refine Y1 (N := 1) rfl ?_); refine bx (N := 1) (cs := #[.int .i64 a0_0, .slice A0_1 l0_1.length c0_1, .slice A0_2 l0_2.length c0_2]) (t := 35) ?_; intro gb182 hg w50 hbox hb; have BK182 := Z0 (hbox); have GE182 := Z0 ((by rw [hg]; exact (Z9 V0) : w.heap.size ≤ gb182)); replace HB := Z0 (Z4 V0 hb); clear hb hbox hg; obtain ⟨hcz51_0, hcz51_1, hcz51_2⟩ := bc3 BK182.out; obtain ⟨hfz51_0, hfz51_1, hfz51_2⟩ := bf3 BK182.out) | ((with_reducible refine Y2 (f := 48) rfl ?_); refine goesL_ (some 10) rfl rfl Tryz.func48 (by kernel_rfl) rfl #[.int .i64 a0_0] rfl V1 ?_; (with_reducible refine (table_isPage.calls a0_0 false _ A2.out).mono ?_); rintro e w' ⟨rfl, ⟨nd, rfl⟩⟩; refine ⟨_, rfl, ?_⟩))
  go_ret
  exact ⟨rfl, V0⟩
def cabinetryref03_ValidateRecord.l0 : Nat → List (S23) → Int → Int → Bool → List (S25) → Option (Int)
 | 0, _, _, _, _, _ => none
 | k + 1, x0, x1, x7, x220000, x220001 => if x7 < (x0.length : Int) then (if 0 ≤ x7 then (if x7 < (x220001.length : Int) then ((cabinetryref03_fits.f k ((rd_T23 x0 x7).f0) ((rd_T23 x0 x7).f1) ((rd_T23 x0 x7).f2) ((rd_T23 x0 x7).f3) x1 ((rd_T25 x220001 x7).f0) ((rd_T25 x220001 x7).f1) ((rd_T25 x220001 x7).f2)).bind fun t222 => (if t222 = true then (cabinetryref03_ValidateRecord.l0 k x0 x1 (wrap64 (x7 + 1)) x220000 x220001) else (some 1))) else (none)) else (none)) else (some 0)
def cabinetryref03_ValidateRecord.f (k : Nat) (l0 : List (S23)) (a1 : Int) (a2_0 : Bool) (l2_1 : List (S25)) : Option (Int) := if (l2_1.length : Int) = (l0.length : Int) then (cabinetryref03_ValidateRecord.l0 k l0 a1 0 a2_0 l2_1) else (some 10)
theorem cabinetryref03_ValidateRecord.mono_l : ∀ k, (∀ y0 y1 y2 y3 y4, LeO (cabinetryref03_ValidateRecord.l0 k y0 y1 y2 y3 y4) (cabinetryref03_ValidateRecord.l0 (k + 1) y0 y1 y2 y3 y4))
 | 0 => fun _ _ _ _ _ r h => by simp [cabinetryref03_ValidateRecord.l0] at h
 | k + 1 => by
  have ih0 := cabinetryref03_ValidateRecord.mono_l k
  ·intro y0 y1 y2 y3 y4
   unfold cabinetryref03_ValidateRecord.l0
   repeat' first
   | (with_reducible exact ih0 _ _ _ _ _)
   | (with_reducible exact cabinetryref03_fits.mono _ _ _ _ _ _ _ _ _)
   | (with_reducible exact LeO.refl _)
   | (with_reducible exact LeO.none _)
   | (with_reducible refine LeO.ite ?_ ?_)
   | (with_reducible refine LeO.bind ?_ (fun _ => ?_))
theorem cabinetryref03_ValidateRecord.mono : ∀ a0 a1 a2 a3 k, LeO (cabinetryref03_ValidateRecord.f k a0 a1 a2 a3) (cabinetryref03_ValidateRecord.f (k + 1) a0 a1 a2 a3) := by
 intro a0 a1 a2 a3 k
 have ih0 := cabinetryref03_ValidateRecord.mono_l k
 unfold cabinetryref03_ValidateRecord.f
 repeat' first
   | (with_reducible exact ih0 _ _ _ _ _)
   | (with_reducible exact cabinetryref03_fits.mono _ _ _ _ _ _ _ _ _)
   | (with_reducible exact LeO.refl _)
   | (with_reducible exact LeO.none _)
   | (with_reducible refine LeO.ite ?_ ?_)
   | (with_reducible refine LeO.bind ?_ (fun _ => ?_))
def cabinetryref03_ValidateRecord.T6 : Bool × List (List Nat × List Nat) := (true, [([], []), ([], []), ([0, 1], [0, 1]), ([2], [2]), ([], []), ([], []), ([5], [5]), ([], []), ([6, 7], [6, 7]), ([8], [8]), ([3, 4, 9], [3, 4, 9]), ([10], [10])])
def cabinetryref03_ValidateRecord.B6 : List Nat := [0, 0, 3, 7, 0, 0, 32, 0, 224, 480, 1023, 2047]
theorem cabinetryref03_ValidateRecord.tab6 : rtab .any (opsOf Tryz.f74 6) = cabinetryref03_ValidateRecord.T6 := by kernel_rfl
theorem cabinetryref03_ValidateRecord.bits6 : waitsOk cabinetryref03_ValidateRecord.T6.2 cabinetryref03_ValidateRecord.B6 = true := by kernel_rfl
set_option maxHeartbeats 8000000 in
set_option maxRecDepth 100000 in
theorem cabinetryref03_ValidateRecord.calls (k : Nat) (A0 : Option Addr) (c0 : Nat) (l0 : List (S23)) (a1 : Int) (a2_0 : Bool) (A2_1 : Option Addr) (c2_1 : Nat) (l2_1 : List (S25)) (r : Int) (w : World) (hr0 : Kd.C k23 w A0 l0.length l0) (hc0 : l0.length ≤ c0) (hr2_1 : Kd.C k25 w A2_1 l2_1.length l2_1) (hc2_1 : l2_1.length ≤ c2_1) (h : cabinetryref03_ValidateRecord.f k l0 a1 a2_0 l2_1 = some r) :
  Calls Tryz.prog 74 #[.slice A0 l0.length c0, .int .i64 a1, .agg #[.bool a2_0, .slice A2_1 l2_1.length c2_1]] w fun e w' => e = .returned (.int .i64 r) ∧ Below w.heap.size w w' := by
 have hu46 := Tryz.underlying46
 have hu23 := Tryz.underlying23
 have hu25 := Tryz.underlying25
 have HR0 := Z0 hr0
 have HC0 := Z0 hc0
 clear hr0 hc0
 have HR2_1 := Z0 hr2_1
 have HC2_1 := Z0 hc2_1
 clear hr2_1 hc2_1
 have HB := Z0 (Below.refl w.heap.size w)
 have H : (if (l2_1.length : Int) = (l0.length : Int) then (cabinetryref03_ValidateRecord.l0 k l0 a1 0 a2_0 l2_1) else (some 10)) = some r := h
 clear h
 by_cases c4 : (l2_1.length : Int) = (l0.length : Int)
 ·rw [if_pos c4] at H
  have c4b0 : ((l2_1.length : Int) == (l0.length : Int)) = true := beq_iff_eq.mpr c4
  have c4b1 : ((l2_1.length : Int) != (l0.length : Int)) = false := bne_eq_false_iff_eq.mpr c4
  have c4b2 : (l2_1.length == l0.length) = true := by first | simpa using c4 | (simp at c4 ⊢; omega)
  clear c4
  have H' := Z0 H
  clear H
  go_enter Tryz.func74, Tryz.ntmps74
  go_wp2_with (first | ((with_reducible refine Y1 (N := 5) rfl ?_); refine bx (N := 5) (cs := #[.bool a2_0, .slice A2_1 l2_1.length c2_1]) (t := 46) ?_; intro gb219 hg w5 hbox hb; have BK219 := Z0 (hbox); have GE219 := Z0 ((by rw [hg]; exact (Z9 HB.out) : w.heap.size ≤ gb219)); replace HB := Z0 (Z4 HB.out hb); clear hb hbox hg; obtain ⟨hcz6_0, hcz6_1⟩ := bc2 BK219.out; obtain ⟨hfz6_0, hfz6_1⟩ := bf2 BK219.out))
  go_loopg [7] k (fun kq v7 w' => ∃ (x7_1 : Int), v7 = .int .i64 x7_1 ∧ Aside0 (cabinetryref03_ValidateRecord.l0 kq l0 a1 x7_1 a2_0 l2_1 = some r) ∧ Aside0 (kq ≤ k) ∧ Aside0 (w'.heap[gb219]? = some (.cells #[.bool a2_0, (.slice A2_1 l2_1.length c2_1)] 46 (0, 0))) ∧ Aside0 (Below w.heap.size w w'))
  case atStart => exact ⟨(0), V2, H', ⟨Nat.le_refl _⟩, ⟨by (with_reducible repeat (first | refine Z6 ?_ _ | refine Z8 ?_ | refine Z7 ?_ _)); exact BK219.out⟩, ⟨V0⟩⟩
  case round =>
   clear H'
   (try clear c2);(try clear p2);(try clear c4);(try clear c4b0);(try clear c4b1);(try clear c4b2);(try clear hcz6_0);(try clear hcz6_1);(try clear hfz6_0);(try clear hfz6_1)
   obtain ⟨x7_1, rfl, HA, HK1, BK219, HB⟩ := hrel
   cases gk with
   | zero => exact absurd HA.out (by simp [cabinetryref03_ValidateRecord.l0])
   | succ k1 =>
    have H := HA.out
    clear HA
    simp only [cabinetryref03_ValidateRecord.l0] at H
    by_cases c7 : x7_1 < (l0.length : Int)
    ·rw [if_pos c7] at H
     have c7b0 : decide (x7_1 < (l0.length : Int)) = true := decide_eq_true c7
     clear c7
     by_cases c8 : 0 ≤ x7_1
     ·rw [if_pos c8] at H
      have c8b0 : decide (0 ≤ x7_1) = true := decide_eq_true c8
      clear c8
      by_cases c9 : x7_1 < (l2_1.length : Int)
      ·rw [if_pos c9] at H
       have c9b0 : decide (x7_1 < (l2_1.length : Int)) = true := decide_eq_true c9
       clear c9
       replace H := Option.bind_eq_some_iff.mp H
       obtain ⟨t222, A100, H⟩ := H
       replace H : (if t222 = true then (cabinetryref03_ValidateRecord.l0 k1 l0 a1 (wrap64 (x7_1 + 1)) a2_0 l2_1) else (some 1)) = some r := H
       have A10 := Z0 A100
       clear A100
       by_cases c11 : t222 = true
       ·subst c11
        have H1 : (cabinetryref03_ValidateRecord.l0 k1 l0 a1 (wrap64 (x7_1 + 1)) a2_0 l2_1) = some r := by rw [if_pos rfl] at H; exact H
        clear H
        have H := H1
        clear H1
        have H' := Z0 H
        clear H
        try go_wp2
        have n0_ := Z0 (Z8 BK219.out)
        have n1_ := Z0 (below_drew1 HB.out)
        clear BK219
        clear HB
        have BK219 := n0_
        have HB := n1_
        clear n0_ n1_
        have p220 : 0 ≤ (x7_1 : Int) := of_decide_eq_true V3
        have q220 : x7_1 < (l0.length : Int) := of_decide_eq_true V3
        obtain ⟨ad220, e220, hx220_0, hx220_1, hx220_2, hx220_3⟩ := at_T23 HR0.out x7_1 p220 q220
        have hw220_3 := hx220_3
        have hw220_2 := hx220_2
        have hw220_1 := hx220_1
        have hw220_0 := hx220_0
        cases e220
        replace hx220_0 := (HB.out.cell (World.block_lt_of_cell? w _ hx220_0)).trans hx220_0
        replace hx220_1 := (HB.out.cell (World.block_lt_of_cell? w _ hx220_1)).trans hx220_1
        replace hx220_2 := (HB.out.cell (World.block_lt_of_cell? w _ hx220_2)).trans hx220_2
        replace hx220_3 := (HB.out.cell (World.block_lt_of_cell? w _ hx220_3)).trans hx220_3
        replace p220 := eq_true p220
        replace q220 := eq_true q220
        have p221 : 0 ≤ (x7_1 : Int) := of_decide_eq_true V3
        have q221 : x7_1 < (l2_1.length : Int) := of_decide_eq_true V3
        obtain ⟨ad221, e221, hx221_0, hx221_1, hx221_2⟩ := at_T25 HR2_1.out x7_1 p221 q221
        have hw221_2 := hx221_2
        have hw221_1 := hx221_1
        have hw221_0 := hx221_0
        cases e221
        replace hx221_0 := (HB.out.cell (World.block_lt_of_cell? w _ hx221_0)).trans hx221_0
        replace hx221_1 := (HB.out.cell (World.block_lt_of_cell? w _ hx221_1)).trans hx221_1
        replace hx221_2 := (HB.out.cell (World.block_lt_of_cell? w _ hx221_2)).trans hx221_2
        replace p221 := eq_true p221
        replace q221 := eq_true q221
        refine start_ (n := 12) (S := fun w' => w'.cell? ⟨gb219, 0, none⟩ = some (.bool a2_0) ∧ w'.cell? ⟨gb219, 1, none⟩ = some (.slice (some ad221) l2_1.length c2_1) ∧ w'.cell? (ad220.add ((x7_1).toNat * 4)) = some (.string ((rd_T23 l0 x7_1).f0)) ∧ w'.cell? ⟨(ad220.add ((x7_1).toNat * 4)).block, (ad220.add ((x7_1).toNat * 4)).off + 1, none⟩ = some (.int .i64 ((rd_T23 l0 x7_1).f1)) ∧ w'.cell? ⟨(ad220.add ((x7_1).toNat * 4)).block, (ad220.add ((x7_1).toNat * 4)).off + 2, none⟩ = some (.int .i64 ((rd_T23 l0 x7_1).f2)) ∧ w'.cell? ⟨(ad220.add ((x7_1).toNat * 4)).block, (ad220.add ((x7_1).toNat * 4)).off + 3, none⟩ = some (.bool ((rd_T23 l0 x7_1).f3)) ∧ w'.cell? (ad221.add ((x7_1).toNat * 3)) = some (.int .i64 ((rd_T25 l2_1 x7_1).f0)) ∧ w'.cell? ⟨(ad221.add ((x7_1).toNat * 3)).block, (ad221.add ((x7_1).toNat * 3)).off + 1, none⟩ = some (.int .i64 ((rd_T25 l2_1 x7_1).f1)) ∧ w'.cell? ⟨(ad221.add ((x7_1).toNat * 3)).block, (ad221.add ((x7_1).toNat * 3)).off + 2, none⟩ = some (.string ((rd_T25 l2_1 x7_1).f2))) (ds := []) (bs 12 0) (by kernel_rfl) rfl rfl ⟨(Y0 BK219.out 0).trans rfl, (Y0 BK219.out 1).trans rfl, ((HB.out.cell (World.block_lt_of_cell? w _ hw220_0)).trans hw220_0), ((HB.out.cell (World.block_lt_of_cell? w _ hw220_1)).trans hw220_1), ((HB.out.cell (World.block_lt_of_cell? w _ hw220_2)).trans hw220_2), ((HB.out.cell (World.block_lt_of_cell? w _ hw220_3)).trans hw220_3), ((HB.out.cell (World.block_lt_of_cell? w _ hw221_0)).trans hw221_0), ((HB.out.cell (World.block_lt_of_cell? w _ hw221_1)).trans hw221_1), ((HB.out.cell (World.block_lt_of_cell? w _ hw221_2)).trans hw221_2)⟩ (fun hHeld => ?_); refine with_tabW cabinetryref03_ValidateRecord.tab6 cabinetryref03_ValidateRecord.bits6 (fun HT_ HW_ => ?_)
        generalize wr.drew = w12 at BK219 HB hx220_0 hx220_1 hx220_2 hx220_3 hx221_0 hx221_1 hx221_2 hHeld ⊢
        refine Y8 (i := 0) (N := some 20) (v := ?_) (a' := ?_) (bs 12 1) rfl rfl (Y3 HT_.out (by kernel_rfl)) (fun _ _ _ h => h) (Or.inl ⟨by rfl, ?_⟩) ?_ ?_
        rotate_left
        ·intro w'
         go_simp
         with_reducible rfl
        rotate_left
        ·simp only [Act.put, Z1, Z2, Z3, Y4, Y5]
         rfl
        refine Y8 (i := 1) (N := some 21) (v := ?_) (a' := ?_) (bs 12 3) rfl rfl (Y3 HT_.out (by kernel_rfl)) (fun _ _ _ h => h) (Or.inl ⟨by rfl, ?_⟩) ?_ ?_
        rotate_left
        ·intro w'
         go_simp
         with_reducible rfl
        rotate_left
        ·simp only [Act.put, Z1, Z2, Z3, Y4, Y5]
         rfl
        refine Y8 (i := 2) (N := some 22) (v := ?_) (a' := ?_) (bs 12 7) rfl rfl (Y3 HT_.out (by kernel_rfl)) (fun _ _ _ h => h) (Or.inl ⟨by rfl, ?_⟩) ?_ ?_
        rotate_left
        ·intro w'
         go_simp
         with_reducible rfl
        rotate_left
        ·simp only [Act.put, Z1, Z2, Z3, Y4, Y5]
         rfl
        refine Y8 (i := 4) (N := some 24) (v := ?_) (a' := ?_) (bs 12 23) rfl rfl (Y3 HT_.out (by kernel_rfl)) (fun _ _ _ h => h) (Or.inl ⟨by rfl, ?_⟩) ?_ ?_
        rotate_left
        ·intro w'
         go_simp
         with_reducible rfl
        rotate_left
        ·simp only [Act.put, Z1, Z2, Z3, Y4, Y5]
         rfl
        refine Y8 (i := 5) (N := some 25) (v := ?_) (a' := ?_) (bs 12 55) rfl rfl (Y3 HT_.out (by kernel_rfl)) (fun _ _ _ h => h) (Or.inl ⟨by rfl, ?_⟩) ?_ ?_
        rotate_left
        ·intro w'
         go_simp
         with_reducible rfl
        rotate_left
        ·simp only [Act.put, Z1, Z2, Z3, Y4, Y5]
         rfl
        refine Y8 (i := 7) (N := some 27) (v := ?_) (a' := ?_) (bs 12 183) rfl rfl (Y3 HT_.out (by kernel_rfl)) (fun _ _ _ h => h) (Or.inl ⟨by rfl, ?_⟩) ?_ ?_
        rotate_left
        ·intro w'
         go_simp
         with_reducible rfl
        rotate_left
        ·simp only [Act.put, Z1, Z2, Z3, Y4, Y5]
         rfl
        refine take_ (i := 3) (N := some 23) (v := ?_) (a' := ?_) (bs 12 191) rfl rfl (take_ofW HT_.out HW_.out (by kernel_rfl)) (fun _ _ _ h => h) (Or.inl ⟨by rfl, ?_⟩) hHeld ?_ ?_
        rotate_left
        ·rintro w' ⟨s0, s1, s2, s3, s4, s5, s6, s7, s8⟩
         go_simp
         with_reducible rfl
        rotate_left
        ·simp only [Act.put, Z1, Z2, Z3, Y4, Y5]
         rfl
        refine take_ (i := 6) (N := some 26) (v := ?_) (a' := ?_) (bs 12 255) rfl rfl (take_ofW HT_.out HW_.out (by kernel_rfl)) (fun _ _ _ h => h) (Or.inl ⟨by rfl, ?_⟩) hHeld ?_ ?_
        rotate_left
        ·rintro w' ⟨s0, s1, s2, s3, s4, s5, s6, s7, s8⟩
         go_simp
         with_reducible rfl
        rotate_left
        ·simp only [Act.put, Z1, Z2, Z3, Y4, Y5]
         rfl
        refine Y8 (i := 8) (N := some 28) (v := ?_) (a' := ?_) (bs 12 511) rfl rfl (Y3 HT_.out (by kernel_rfl)) (fun _ _ _ h => h) (Or.inl ⟨by rfl, ?_⟩) ?_ ?_
        rotate_left
        ·intro w'
         go_simp
         with_reducible rfl
        rotate_left
        ·simp only [Act.put, Z1, Z2, Z3, Y4, Y5]
         rfl
        refine take_ (i := 9) (N := some 29) (v := ?_) (a' := ?_) (bs 12 1023) rfl rfl (take_ofW HT_.out HW_.out (by kernel_rfl)) (fun _ _ _ h => h) (Or.inl ⟨by rfl, ?_⟩) hHeld ?_ ?_
        rotate_left
        ·rintro w' ⟨s0, s1, s2, s3, s4, s5, s6, s7, s8⟩
         go_simp
         with_reducible rfl
        rotate_left
        ·simp only [Act.put, Z1, Z2, Z3, Y4, Y5]
         rfl
        refine one_ (i := 10) (N := some 30) (bs 12 2047) rfl rfl (one_of HT_.out (by kernel_rfl)) (by decide) (fun K hK => ?_)
        refine goes_ Tryz.func105 (by kernel_rfl) rfl #[.agg #[.string ((rd_T23 l0 x7_1).f0), .int .i64 ((rd_T23 l0 x7_1).f1), .int .i64 ((rd_T23 l0 x7_1).f2), .bool ((rd_T23 l0 x7_1).f3)], .int .i64 a1, .agg #[.int .i64 ((rd_T25 l2_1 x7_1).f0), .int .i64 ((rd_T25 l2_1 x7_1).f1), .string ((rd_T25 l2_1 x7_1).f2)]] (by rfl) rfl rfl V1 ?_
        with_reducible refine (cabinetryref03_fits.calls k1 ((rd_T23 l0 x7_1).f0) ((rd_T23 l0 x7_1).f1) ((rd_T23 l0 x7_1).f2) ((rd_T23 l0 x7_1).f3) a1 ((rd_T25 l2_1 x7_1).f0) ((rd_T25 l2_1 x7_1).f1) ((rd_T25 l2_1 x7_1).f2) true _ A10.out).mono ?_
        rintro e w13 ⟨rfl, hb⟩
        refine ⟨_, rfl, ?_⟩
        have n0_ := Z0 (Z5 BK219.out hb)
        have n1_ := Z0 (Z4 HB.out hb)
        clear BK219
        clear HB
        have BK219 := n0_
        have HB := n1_
        clear n0_ n1_
        (try clear hb)
        (try clear hb2)
        (try clear hk)
        (try clear hi)
        refine hK.out _ _ ⟨(Y0 BK219.out 0).trans rfl, (Y0 BK219.out 1).trans rfl, ((HB.out.cell (World.block_lt_of_cell? w _ hw220_0)).trans hw220_0), ((HB.out.cell (World.block_lt_of_cell? w _ hw220_1)).trans hw220_1), ((HB.out.cell (World.block_lt_of_cell? w _ hw220_2)).trans hw220_2), ((HB.out.cell (World.block_lt_of_cell? w _ hw220_3)).trans hw220_3), ((HB.out.cell (World.block_lt_of_cell? w _ hw221_0)).trans hw221_0), ((HB.out.cell (World.block_lt_of_cell? w _ hw221_1)).trans hw221_1), ((HB.out.cell (World.block_lt_of_cell? w _ hw221_2)).trans hw221_2)⟩ (fun hHeld => ?_)
        clear hK K
        refine norm_ (a' := ?_) ?_ ?_
        rotate_left
        ·show Act.put _ (some 30) _ = _
         simp only [Act.put, Z1, Z2, Z3, Y4, Y5]
         rfl
        refine Y8 (i := 11) (N := some 31) (v := ?_) (a' := ?_) (bs 12 4095) rfl rfl (Y3 HT_.out (by kernel_rfl)) (fun _ _ _ h => h) (Or.inl ⟨by rfl, ?_⟩) ?_ ?_
        rotate_left
        ·intro w'
         go_simp
         with_reducible rfl
        rotate_left
        ·simp only [Act.put, Z1, Z2, Z3, Y4, Y5]
         rfl
        refine done_ (done_of HT_.out (by kernel_rfl)) ?_
        try go_wp2
        go_roundg k1
        case measure => have := HK1.out; omega
        case rel => exact ⟨(wrap64 (x7_1 + 1)), V2, H', ⟨by have := HK1.out; omega⟩, ⟨by (with_reducible repeat (first | refine Z6 ?_ _ | refine Z8 ?_ | refine Z7 ?_ _)); exact BK219.out⟩, ⟨V0⟩⟩
       ·replace c11 := Bool.eq_false_iff.mpr c11
        subst c11
        have H1 : (some 1) = some r := by rw [if_neg (show ¬ (false = true) by decide)] at H; exact H
        clear H
        have H := H1
        clear H1
        obtain rfl := Option.some.inj H
        try go_wp2
        have n0_ := Z0 (Z8 BK219.out)
        have n1_ := Z0 (below_drew1 HB.out)
        clear BK219
        clear HB
        have BK219 := n0_
        have HB := n1_
        clear n0_ n1_
        have p220 : 0 ≤ (x7_1 : Int) := of_decide_eq_true V3
        have q220 : x7_1 < (l0.length : Int) := of_decide_eq_true V3
        obtain ⟨ad220, e220, hx220_0, hx220_1, hx220_2, hx220_3⟩ := at_T23 HR0.out x7_1 p220 q220
        have hw220_3 := hx220_3
        have hw220_2 := hx220_2
        have hw220_1 := hx220_1
        have hw220_0 := hx220_0
        cases e220
        replace hx220_0 := (HB.out.cell (World.block_lt_of_cell? w _ hx220_0)).trans hx220_0
        replace hx220_1 := (HB.out.cell (World.block_lt_of_cell? w _ hx220_1)).trans hx220_1
        replace hx220_2 := (HB.out.cell (World.block_lt_of_cell? w _ hx220_2)).trans hx220_2
        replace hx220_3 := (HB.out.cell (World.block_lt_of_cell? w _ hx220_3)).trans hx220_3
        replace p220 := eq_true p220
        replace q220 := eq_true q220
        have p221 : 0 ≤ (x7_1 : Int) := of_decide_eq_true V3
        have q221 : x7_1 < (l2_1.length : Int) := of_decide_eq_true V3
        obtain ⟨ad221, e221, hx221_0, hx221_1, hx221_2⟩ := at_T25 HR2_1.out x7_1 p221 q221
        have hw221_2 := hx221_2
        have hw221_1 := hx221_1
        have hw221_0 := hx221_0
        cases e221
        replace hx221_0 := (HB.out.cell (World.block_lt_of_cell? w _ hx221_0)).trans hx221_0
        replace hx221_1 := (HB.out.cell (World.block_lt_of_cell? w _ hx221_1)).trans hx221_1
        replace hx221_2 := (HB.out.cell (World.block_lt_of_cell? w _ hx221_2)).trans hx221_2
        replace p221 := eq_true p221
        replace q221 := eq_true q221
        refine start_ (n := 12) (S := fun w' => w'.cell? ⟨gb219, 0, none⟩ = some (.bool a2_0) ∧ w'.cell? ⟨gb219, 1, none⟩ = some (.slice (some ad221) l2_1.length c2_1) ∧ w'.cell? (ad220.add ((x7_1).toNat * 4)) = some (.string ((rd_T23 l0 x7_1).f0)) ∧ w'.cell? ⟨(ad220.add ((x7_1).toNat * 4)).block, (ad220.add ((x7_1).toNat * 4)).off + 1, none⟩ = some (.int .i64 ((rd_T23 l0 x7_1).f1)) ∧ w'.cell? ⟨(ad220.add ((x7_1).toNat * 4)).block, (ad220.add ((x7_1).toNat * 4)).off + 2, none⟩ = some (.int .i64 ((rd_T23 l0 x7_1).f2)) ∧ w'.cell? ⟨(ad220.add ((x7_1).toNat * 4)).block, (ad220.add ((x7_1).toNat * 4)).off + 3, none⟩ = some (.bool ((rd_T23 l0 x7_1).f3)) ∧ w'.cell? (ad221.add ((x7_1).toNat * 3)) = some (.int .i64 ((rd_T25 l2_1 x7_1).f0)) ∧ w'.cell? ⟨(ad221.add ((x7_1).toNat * 3)).block, (ad221.add ((x7_1).toNat * 3)).off + 1, none⟩ = some (.int .i64 ((rd_T25 l2_1 x7_1).f1)) ∧ w'.cell? ⟨(ad221.add ((x7_1).toNat * 3)).block, (ad221.add ((x7_1).toNat * 3)).off + 2, none⟩ = some (.string ((rd_T25 l2_1 x7_1).f2))) (ds := []) (bs 12 0) (by kernel_rfl) rfl rfl ⟨(Y0 BK219.out 0).trans rfl, (Y0 BK219.out 1).trans rfl, ((HB.out.cell (World.block_lt_of_cell? w _ hw220_0)).trans hw220_0), ((HB.out.cell (World.block_lt_of_cell? w _ hw220_1)).trans hw220_1), ((HB.out.cell (World.block_lt_of_cell? w _ hw220_2)).trans hw220_2), ((HB.out.cell (World.block_lt_of_cell? w _ hw220_3)).trans hw220_3), ((HB.out.cell (World.block_lt_of_cell? w _ hw221_0)).trans hw221_0), ((HB.out.cell (World.block_lt_of_cell? w _ hw221_1)).trans hw221_1), ((HB.out.cell (World.block_lt_of_cell? w _ hw221_2)).trans hw221_2)⟩ (fun hHeld => ?_); refine with_tabW cabinetryref03_ValidateRecord.tab6 cabinetryref03_ValidateRecord.bits6 (fun HT_ HW_ => ?_)
        generalize wr.drew = w14 at BK219 HB hx220_0 hx220_1 hx220_2 hx220_3 hx221_0 hx221_1 hx221_2 hHeld ⊢
        refine Y8 (i := 0) (N := some 20) (v := ?_) (a' := ?_) (bs 12 1) rfl rfl (Y3 HT_.out (by kernel_rfl)) (fun _ _ _ h => h) (Or.inl ⟨by rfl, ?_⟩) ?_ ?_
        rotate_left
        ·intro w'
         go_simp
         with_reducible rfl
        rotate_left
        ·simp only [Act.put, Z1, Z2, Z3, Y4, Y5]
         rfl
        refine Y8 (i := 1) (N := some 21) (v := ?_) (a' := ?_) (bs 12 3) rfl rfl (Y3 HT_.out (by kernel_rfl)) (fun _ _ _ h => h) (Or.inl ⟨by rfl, ?_⟩) ?_ ?_
        rotate_left
        ·intro w'
         go_simp
         with_reducible rfl
        rotate_left
        ·simp only [Act.put, Z1, Z2, Z3, Y4, Y5]
         rfl
        refine Y8 (i := 2) (N := some 22) (v := ?_) (a' := ?_) (bs 12 7) rfl rfl (Y3 HT_.out (by kernel_rfl)) (fun _ _ _ h => h) (Or.inl ⟨by rfl, ?_⟩) ?_ ?_
        rotate_left
        ·intro w'
         go_simp
         with_reducible rfl
        rotate_left
        ·simp only [Act.put, Z1, Z2, Z3, Y4, Y5]
         rfl
        refine Y8 (i := 4) (N := some 24) (v := ?_) (a' := ?_) (bs 12 23) rfl rfl (Y3 HT_.out (by kernel_rfl)) (fun _ _ _ h => h) (Or.inl ⟨by rfl, ?_⟩) ?_ ?_
        rotate_left
        ·intro w'
         go_simp
         with_reducible rfl
        rotate_left
        ·simp only [Act.put, Z1, Z2, Z3, Y4, Y5]
         rfl
        refine Y8 (i := 5) (N := some 25) (v := ?_) (a' := ?_) (bs 12 55) rfl rfl (Y3 HT_.out (by kernel_rfl)) (fun _ _ _ h => h) (Or.inl ⟨by rfl, ?_⟩) ?_ ?_
        rotate_left
        ·intro w'
         go_simp
         with_reducible rfl
        rotate_left
        ·simp only [Act.put, Z1, Z2, Z3, Y4, Y5]
         rfl
        refine Y8 (i := 7) (N := some 27) (v := ?_) (a' := ?_) (bs 12 183) rfl rfl (Y3 HT_.out (by kernel_rfl)) (fun _ _ _ h => h) (Or.inl ⟨by rfl, ?_⟩) ?_ ?_
        rotate_left
        ·intro w'
         go_simp
         with_reducible rfl
        rotate_left
        ·simp only [Act.put, Z1, Z2, Z3, Y4, Y5]
         rfl
        refine take_ (i := 3) (N := some 23) (v := ?_) (a' := ?_) (bs 12 191) rfl rfl (take_ofW HT_.out HW_.out (by kernel_rfl)) (fun _ _ _ h => h) (Or.inl ⟨by rfl, ?_⟩) hHeld ?_ ?_
        rotate_left
        ·rintro w' ⟨s0, s1, s2, s3, s4, s5, s6, s7, s8⟩
         go_simp
         with_reducible rfl
        rotate_left
        ·simp only [Act.put, Z1, Z2, Z3, Y4, Y5]
         rfl
        refine take_ (i := 6) (N := some 26) (v := ?_) (a' := ?_) (bs 12 255) rfl rfl (take_ofW HT_.out HW_.out (by kernel_rfl)) (fun _ _ _ h => h) (Or.inl ⟨by rfl, ?_⟩) hHeld ?_ ?_
        rotate_left
        ·rintro w' ⟨s0, s1, s2, s3, s4, s5, s6, s7, s8⟩
         go_simp
         with_reducible rfl
        rotate_left
        ·simp only [Act.put, Z1, Z2, Z3, Y4, Y5]
         rfl
        refine Y8 (i := 8) (N := some 28) (v := ?_) (a' := ?_) (bs 12 511) rfl rfl (Y3 HT_.out (by kernel_rfl)) (fun _ _ _ h => h) (Or.inl ⟨by rfl, ?_⟩) ?_ ?_
        rotate_left
        ·intro w'
         go_simp
         with_reducible rfl
        rotate_left
        ·simp only [Act.put, Z1, Z2, Z3, Y4, Y5]
         rfl
        refine take_ (i := 9) (N := some 29) (v := ?_) (a' := ?_) (bs 12 1023) rfl rfl (take_ofW HT_.out HW_.out (by kernel_rfl)) (fun _ _ _ h => h) (Or.inl ⟨by rfl, ?_⟩) hHeld ?_ ?_
        rotate_left
        ·rintro w' ⟨s0, s1, s2, s3, s4, s5, s6, s7, s8⟩
         go_simp
         with_reducible rfl
        rotate_left
        ·simp only [Act.put, Z1, Z2, Z3, Y4, Y5]
         rfl
        refine one_ (i := 10) (N := some 30) (bs 12 2047) rfl rfl (one_of HT_.out (by kernel_rfl)) (by decide) (fun K hK => ?_)
        refine goes_ Tryz.func105 (by kernel_rfl) rfl #[.agg #[.string ((rd_T23 l0 x7_1).f0), .int .i64 ((rd_T23 l0 x7_1).f1), .int .i64 ((rd_T23 l0 x7_1).f2), .bool ((rd_T23 l0 x7_1).f3)], .int .i64 a1, .agg #[.int .i64 ((rd_T25 l2_1 x7_1).f0), .int .i64 ((rd_T25 l2_1 x7_1).f1), .string ((rd_T25 l2_1 x7_1).f2)]] (by rfl) rfl rfl V1 ?_
        with_reducible refine (cabinetryref03_fits.calls k1 ((rd_T23 l0 x7_1).f0) ((rd_T23 l0 x7_1).f1) ((rd_T23 l0 x7_1).f2) ((rd_T23 l0 x7_1).f3) a1 ((rd_T25 l2_1 x7_1).f0) ((rd_T25 l2_1 x7_1).f1) ((rd_T25 l2_1 x7_1).f2) false _ A10.out).mono ?_
        rintro e w15 ⟨rfl, hb⟩
        refine ⟨_, rfl, ?_⟩
        have n0_ := Z0 (Z5 BK219.out hb)
        have n1_ := Z0 (Z4 HB.out hb)
        clear BK219
        clear HB
        have BK219 := n0_
        have HB := n1_
        clear n0_ n1_
        (try clear hb)
        (try clear hb2)
        (try clear hk)
        (try clear hi)
        refine hK.out _ _ ⟨(Y0 BK219.out 0).trans rfl, (Y0 BK219.out 1).trans rfl, ((HB.out.cell (World.block_lt_of_cell? w _ hw220_0)).trans hw220_0), ((HB.out.cell (World.block_lt_of_cell? w _ hw220_1)).trans hw220_1), ((HB.out.cell (World.block_lt_of_cell? w _ hw220_2)).trans hw220_2), ((HB.out.cell (World.block_lt_of_cell? w _ hw220_3)).trans hw220_3), ((HB.out.cell (World.block_lt_of_cell? w _ hw221_0)).trans hw221_0), ((HB.out.cell (World.block_lt_of_cell? w _ hw221_1)).trans hw221_1), ((HB.out.cell (World.block_lt_of_cell? w _ hw221_2)).trans hw221_2)⟩ (fun hHeld => ?_)
        clear hK K
        refine norm_ (a' := ?_) ?_ ?_
        rotate_left
        ·show Act.put _ (some 30) _ = _
         simp only [Act.put, Z1, Z2, Z3, Y4, Y5]
         rfl
        refine Y8 (i := 11) (N := some 31) (v := ?_) (a' := ?_) (bs 12 4095) rfl rfl (Y3 HT_.out (by kernel_rfl)) (fun _ _ _ h => h) (Or.inl ⟨by rfl, ?_⟩) ?_ ?_
        rotate_left
        ·intro w'
         go_simp
         with_reducible rfl
        rotate_left
        ·simp only [Act.put, Z1, Z2, Z3, Y4, Y5]
         rfl
        refine done_ (done_of HT_.out (by kernel_rfl)) ?_
        try go_wp2
        go_ret
        exact ⟨rfl, V0⟩
      ·rw [if_neg c9] at H
       exact absurd H (by simp)
     ·rw [if_neg c8] at H
      exact absurd H (by simp)
    ·rw [if_neg c7] at H
     have c7b0 : decide (x7_1 < (l0.length : Int)) = false := decide_eq_false c7
     clear c7
     obtain rfl := Option.some.inj H
     go_wp2
     go_ret
     exact ⟨rfl, V0⟩
 ·rw [if_neg c4] at H
  have c4b0 : ((l2_1.length : Int) == (l0.length : Int)) = false := beq_eq_false_iff_ne.mpr c4
  have c4b1 : ((l2_1.length : Int) != (l0.length : Int)) = true := bne_iff_ne.mpr c4
  have c4b2 : (l2_1.length == l0.length) = false := by first | simpa using c4 | (simp at c4 ⊢; omega)
  obtain rfl := Option.some.inj H
  go_enter Tryz.func74, Tryz.ntmps74
  go_wp2_with (first | ((with_reducible refine Y1 (N := 5) rfl ?_); refine bx (N := 5) (cs := #[.bool a2_0, .slice A2_1 l2_1.length c2_1]) (t := 46) ?_; intro gb219 hg w16 hbox hb; have BK219 := Z0 (hbox); have GE219 := Z0 ((by rw [hg]; exact (Z9 HB.out) : w.heap.size ≤ gb219)); replace HB := Z0 (Z4 HB.out hb); clear hb hbox hg; obtain ⟨hcz17_0, hcz17_1⟩ := bc2 BK219.out; obtain ⟨hfz17_0, hfz17_1⟩ := bf2 BK219.out))
  go_ret
  exact ⟨rfl, V0⟩
def cabinetryref03_Validate.l0 : Nat → Int → Int → List (S23) → List (S46) → Option (Int)
 | 0, _, _, _, _ => none
 | k + 1, x4, x224000, x224001, x224002 => if x4 < (x224002.length : Int) then (if 0 ≤ x4 then ((cabinetryref03_ValidateRecord.f k x224001 x224000 ((rd_T46 x224002 x4).f0) ((rd_T46 x224002 x4).f1)).bind fun t227 => (if t227 = 0 then (cabinetryref03_Validate.l0 k (wrap64 (x4 + 1)) x224000 x224001 x224002) else (some t227))) else (none)) else (some 0)
def cabinetryref03_Validate.f (k : Nat) (a0_0 : Int) (l0_1 : List (S23)) (l0_2 : List (S46)) : Option (Int) := (cabinetryref03_isPage.f a0_0).bind fun t224 => (if t224 = true then ((cabinetryref03_ValidateFields.f k l0_1).bind fun t225 => (if t225 = 0 then (if (l0_2.length : Int) > 300 then (some 3) else (cabinetryref03_Validate.l0 k 0 a0_0 l0_1 l0_2)) else (some t225))) else (some 1))
theorem cabinetryref03_Validate.mono_l : ∀ k, (∀ y0 y1 y2 y3, LeO (cabinetryref03_Validate.l0 k y0 y1 y2 y3) (cabinetryref03_Validate.l0 (k + 1) y0 y1 y2 y3))
 | 0 => fun _ _ _ _ r h => by simp [cabinetryref03_Validate.l0] at h
 | k + 1 => by
  have ih0 := cabinetryref03_Validate.mono_l k
  ·intro y0 y1 y2 y3
   unfold cabinetryref03_Validate.l0
   repeat' first
   | (with_reducible exact ih0 _ _ _ _)
   | (with_reducible exact cabinetryref03_ValidateFields.mono _ _)
   | (with_reducible exact cabinetryref03_ValidateRecord.mono _ _ _ _ _)
   | (with_reducible exact LeO.refl _)
   | (with_reducible exact LeO.none _)
   | (with_reducible refine LeO.ite ?_ ?_)
   | (with_reducible refine LeO.bind ?_ (fun _ => ?_))
theorem cabinetryref03_Validate.mono : ∀ a0 a1 a2 k, LeO (cabinetryref03_Validate.f k a0 a1 a2) (cabinetryref03_Validate.f (k + 1) a0 a1 a2) := by
 intro a0 a1 a2 k
 have ih0 := cabinetryref03_Validate.mono_l k
 unfold cabinetryref03_Validate.f
 repeat' first
   | (with_reducible exact ih0 _ _ _ _)
   | (with_reducible exact cabinetryref03_ValidateFields.mono _ _)
   | (with_reducible exact cabinetryref03_ValidateRecord.mono _ _ _ _ _)
   | (with_reducible exact LeO.refl _)
   | (with_reducible exact LeO.none _)
   | (with_reducible refine LeO.ite ?_ ?_)
   | (with_reducible refine LeO.bind ?_ (fun _ => ?_))
def cabinetryref03_Validate.T11 : Bool × List (List Nat × List Nat) := (true, [([], []), ([0], [0]), ([], []), ([2], [2]), ([], []), ([4], [4]), ([], []), ([5, 6], [5, 6]), ([7], [7]), ([1, 3, 8], [1, 3, 8]), ([9, 9, 0, 1, 2, 3, 4, 5, 6, 7, 8, 9], [9])])
def cabinetryref03_Validate.B11 : List Nat := [0, 1, 0, 4, 0, 16, 0, 112, 240, 511, 1023]
theorem cabinetryref03_Validate.tab11 : rtab .any (opsOf Tryz.f35 11) = cabinetryref03_Validate.T11 := by kernel_rfl
theorem cabinetryref03_Validate.bits11 : waitsOk cabinetryref03_Validate.T11.2 cabinetryref03_Validate.B11 = true := by kernel_rfl
set_option maxHeartbeats 8000000 in
set_option maxRecDepth 100000 in
theorem cabinetryref03_Validate.calls (k : Nat) (a0_0 : Int) (A0_1 : Option Addr) (c0_1 : Nat) (l0_1 : List (S23)) (A0_2 : Option Addr) (c0_2 : Nat) (l0_2 : List (S46)) (r : Int) (w : World) (hr0_1 : Kd.C k23 w A0_1 l0_1.length l0_1) (hc0_1 : l0_1.length ≤ c0_1) (hr0_2 : Kd.C k46 w A0_2 l0_2.length l0_2) (hc0_2 : l0_2.length ≤ c0_2) (h : cabinetryref03_Validate.f k a0_0 l0_1 l0_2 = some r) :
  Calls Tryz.prog 35 #[.agg #[.int .i64 a0_0, .slice A0_1 l0_1.length c0_1, .slice A0_2 l0_2.length c0_2]] w fun e w' => e = .returned (.int .i64 r) ∧ Below w.heap.size w w' := by
 have hu35 := Tryz.underlying35
 have hu46 := Tryz.underlying46
 have HR0_1 := Z0 hr0_1
 have HC0_1 := Z0 hc0_1
 clear hr0_1 hc0_1
 have HR0_2 := Z0 hr0_2
 have HC0_2 := Z0 hc0_2
 clear hr0_2 hc0_2
 have HB := Z0 (Below.refl w.heap.size w)
 have H : ((cabinetryref03_isPage.f a0_0).bind fun t224 => (if t224 = true then ((cabinetryref03_ValidateFields.f k l0_1).bind fun t225 => (if t225 = 0 then (if (l0_2.length : Int) > 300 then (some 3) else (cabinetryref03_Validate.l0 k 0 a0_0 l0_1 l0_2)) else (some t225))) else (some 1))) = some r := h
 clear h
 replace H := Option.bind_eq_some_iff.mp H
 obtain ⟨t224, A20, H⟩ := H
 replace H : (if t224 = true then ((cabinetryref03_ValidateFields.f k l0_1).bind fun t225 => (if t225 = 0 then (if (l0_2.length : Int) > 300 then (some 3) else (cabinetryref03_Validate.l0 k 0 a0_0 l0_1 l0_2)) else (some t225))) else (some 1)) = some r := H
 have A2 := Z0 A20
 clear A20
 by_cases c3 : t224 = true
 ·subst c3
  have H1 : ((cabinetryref03_ValidateFields.f k l0_1).bind fun t225 => (if t225 = 0 then (if (l0_2.length : Int) > 300 then (some 3) else (cabinetryref03_Validate.l0 k 0 a0_0 l0_1 l0_2)) else (some t225))) = some r := by rw [if_pos rfl] at H; exact H
  clear H
  have H := H1
  clear H1
  replace H := Option.bind_eq_some_iff.mp H
  obtain ⟨t225, A40, H⟩ := H
  replace H : (if t225 = 0 then (if (l0_2.length : Int) > 300 then (some 3) else (cabinetryref03_Validate.l0 k 0 a0_0 l0_1 l0_2)) else (some t225)) = some r := H
  have A4 := Z0 A40
  clear A40
  by_cases c5 : t225 = 0
  ·rw [if_pos c5] at H
   have c5b0 : (t225 == 0) = true := beq_iff_eq.mpr c5
   have c5b1 : (t225 != 0) = false := bne_eq_false_iff_eq.mpr c5
   clear c5
   by_cases c6 : (l0_2.length : Int) > 300
   ·rw [if_pos c6] at H
    have c6b0 : decide (300 < (l0_2.length : Int)) = true := decide_eq_true c6
    have c6b1 : decide (300 < l0_2.length) = true := decide_eq_true (by omega)
    clear c6
    obtain rfl := Option.some.inj H
    go_enter Tryz.func35, Tryz.ntmps35
    go_wp2_with (first | ((with_reducible refine Y1 (N := 1) rfl ?_); refine bx (N := 1) (cs := #[.int .i64 a0_0, .slice A0_1 l0_1.length c0_1, .slice A0_2 l0_2.length c0_2]) (t := 35) ?_; intro gb223 hg w7 hbox hb; have BK223 := Z0 (hbox); have GE223 := Z0 ((by rw [hg]; exact (Z9 V0) : w.heap.size ≤ gb223)); replace HB := Z0 (Z4 V0 hb); clear hb hbox hg; obtain ⟨hcz8_0, hcz8_1, hcz8_2⟩ := bc3 BK223.out; obtain ⟨hfz8_0, hfz8_1, hfz8_2⟩ := bf3 BK223.out) | ((with_reducible refine Y2 (f := 56) rfl ?_); refine goesL_ (some 8) rfl rfl Tryz.func56 (by kernel_rfl) rfl #[.int .i64 a0_0] rfl V1 ?_; (with_reducible refine (cabinetryref03_isPage.calls a0_0 true _ A2.out).mono ?_); rintro e w' ⟨rfl, ⟨nd, rfl⟩⟩; refine ⟨_, rfl, ?_⟩) | ((with_reducible refine Y2 (f := 37) rfl ?_); refine goesL_ (some 12) rfl rfl Tryz.func37 (by kernel_rfl) rfl #[.slice A0_1 l0_1.length c0_1] rfl V1 ?_; (with_reducible refine (cabinetryref03_ValidateFields.calls k _ _ l0_1 t225 _ ?side1 ?side2 A4.out).mono ?_); (case side1 => repeat (first | exact (Kd.C_below HR0_1.out V0) | (with_reducible refine Kd.C_alloc ?_ _) | (with_reducible refine Kd.C_drewN ?_ _) | (with_reducible refine Kd.C_drew ?_))); (case side2 => exact HC0_1.out); rintro e w9 ⟨rfl, hb⟩; refine ⟨_, rfl, ?_⟩; replace BK223 := Z0 (Z5 (g := gb223) (o := .cells #[.int .i64 a0_0, .slice A0_1 l0_1.length c0_1, .slice A0_2 l0_2.length c0_2] 35 (0, 0)) (by (with_reducible repeat (first | refine Z6 ?_ _ | refine Z8 ?_ | refine Z7 ?_ _)); exact BK223.out) hb); replace HB := Z0 (Z4 V0 hb); (try clear hb); (try clear hb2); (try clear hk); (try clear hi); obtain ⟨hcz10_0, hcz10_1, hcz10_2⟩ := bc3 BK223.out; obtain ⟨hfz10_0, hfz10_1, hfz10_2⟩ := bf3 BK223.out))
    go_ret
    exact ⟨rfl, V0⟩
   ·rw [if_neg c6] at H
    have c6b0 : decide (300 < (l0_2.length : Int)) = false := decide_eq_false c6
    have c6b1 : decide (300 < l0_2.length) = false := decide_eq_false (by omega)
    clear c6
    have H' := Z0 H
    clear H
    go_enter Tryz.func35, Tryz.ntmps35
    go_wp2_with (first | ((with_reducible refine Y1 (N := 1) rfl ?_); refine bx (N := 1) (cs := #[.int .i64 a0_0, .slice A0_1 l0_1.length c0_1, .slice A0_2 l0_2.length c0_2]) (t := 35) ?_; intro gb223 hg w11 hbox hb; have BK223 := Z0 (hbox); have GE223 := Z0 ((by rw [hg]; exact (Z9 V0) : w.heap.size ≤ gb223)); replace HB := Z0 (Z4 V0 hb); clear hb hbox hg; obtain ⟨hcz12_0, hcz12_1, hcz12_2⟩ := bc3 BK223.out; obtain ⟨hfz12_0, hfz12_1, hfz12_2⟩ := bf3 BK223.out) | ((with_reducible refine Y2 (f := 56) rfl ?_); refine goesL_ (some 8) rfl rfl Tryz.func56 (by kernel_rfl) rfl #[.int .i64 a0_0] rfl V1 ?_; (with_reducible refine (cabinetryref03_isPage.calls a0_0 true _ A2.out).mono ?_); rintro e w' ⟨rfl, ⟨nd, rfl⟩⟩; refine ⟨_, rfl, ?_⟩) | ((with_reducible refine Y2 (f := 37) rfl ?_); refine goesL_ (some 12) rfl rfl Tryz.func37 (by kernel_rfl) rfl #[.slice A0_1 l0_1.length c0_1] rfl V1 ?_; (with_reducible refine (cabinetryref03_ValidateFields.calls k _ _ l0_1 t225 _ ?side1 ?side2 A4.out).mono ?_); (case side1 => repeat (first | exact (Kd.C_below HR0_1.out V0) | (with_reducible refine Kd.C_alloc ?_ _) | (with_reducible refine Kd.C_drewN ?_ _) | (with_reducible refine Kd.C_drew ?_))); (case side2 => exact HC0_1.out); rintro e w13 ⟨rfl, hb⟩; refine ⟨_, rfl, ?_⟩; replace BK223 := Z0 (Z5 (g := gb223) (o := .cells #[.int .i64 a0_0, .slice A0_1 l0_1.length c0_1, .slice A0_2 l0_2.length c0_2] 35 (0, 0)) (by (with_reducible repeat (first | refine Z6 ?_ _ | refine Z8 ?_ | refine Z7 ?_ _)); exact BK223.out) hb); replace HB := Z0 (Z4 V0 hb); (try clear hb); (try clear hb2); (try clear hk); (try clear hi); obtain ⟨hcz14_0, hcz14_1, hcz14_2⟩ := bc3 BK223.out; obtain ⟨hfz14_0, hfz14_1, hfz14_2⟩ := bf3 BK223.out))
    go_loopg [4] k (fun kq v4 w' => ∃ (x4_1 : Int), v4 = .int .i64 x4_1 ∧ Aside0 (cabinetryref03_Validate.l0 kq x4_1 a0_0 l0_1 l0_2 = some r) ∧ Aside0 (kq ≤ k) ∧ Aside0 (w'.heap[gb223]? = some (.cells #[.int .i64 a0_0, (.slice A0_1 l0_1.length c0_1), (.slice A0_2 l0_2.length c0_2)] 35 (0, 0))) ∧ Aside0 (Below w.heap.size w w'))
    case atStart => exact ⟨(0), V2, H', ⟨Nat.le_refl _⟩, ⟨by (with_reducible repeat (first | refine Z6 ?_ _ | refine Z8 ?_ | refine Z7 ?_ _)); exact BK223.out⟩, ⟨V0⟩⟩
    case round =>
     clear H'
     (try clear p2);(try clear c3);(try clear c5);(try clear c5b0);(try clear c5b1);(try clear c6);(try clear c6b0);(try clear c6b1);(try clear hcz10_0);(try clear hcz10_1);(try clear hcz10_2);(try clear hcz12_0);(try clear hcz12_1);(try clear hcz12_2);(try clear hcz14_0);(try clear hcz14_1);(try clear hcz14_2);(try clear hcz8_0);(try clear hcz8_1);(try clear hcz8_2);(try clear hfz10_0);(try clear hfz10_1);(try clear hfz10_2);(try clear hfz12_0);(try clear hfz12_1);(try clear hfz12_2);(try clear hfz14_0);(try clear hfz14_1);(try clear hfz14_2);(try clear hfz8_0);(try clear hfz8_1);(try clear hfz8_2)
     obtain ⟨x4_1, rfl, HA, HK1, BK223, HB⟩ := hrel
     cases gk with
     | zero => exact absurd HA.out (by simp [cabinetryref03_Validate.l0])
     | succ k1 =>
      have H := HA.out
      clear HA
      simp only [cabinetryref03_Validate.l0] at H
      by_cases c15 : x4_1 < (l0_2.length : Int)
      ·rw [if_pos c15] at H
       have c15b0 : decide (x4_1 < (l0_2.length : Int)) = true := decide_eq_true c15
       clear c15
       by_cases c16 : 0 ≤ x4_1
       ·rw [if_pos c16] at H
        have c16b0 : decide (0 ≤ x4_1) = true := decide_eq_true c16
        clear c16
        replace H := Option.bind_eq_some_iff.mp H
        obtain ⟨t227, A170, H⟩ := H
        replace H : (if t227 = 0 then (cabinetryref03_Validate.l0 k1 (wrap64 (x4_1 + 1)) a0_0 l0_1 l0_2) else (some t227)) = some r := H
        have A17 := Z0 A170
        clear A170
        by_cases c18 : t227 = 0
        ·rw [if_pos c18] at H
         have c18b0 : (t227 == 0) = true := beq_iff_eq.mpr c18
         have c18b1 : (t227 != 0) = false := bne_eq_false_iff_eq.mpr c18
         clear c18
         have H' := Z0 H
         clear H
         obtain ⟨hcz19_0, hcz19_1, hcz19_2⟩ := bc3 BK223.out
         obtain ⟨hfz19_0, hfz19_1, hfz19_2⟩ := bf3 BK223.out
         try go_wp2
         have n0_ := Z0 (Z8 BK223.out)
         have n1_ := Z0 (below_drew1 HB.out)
         clear BK223
         clear HB
         have BK223 := n0_
         have HB := n1_
         clear n0_ n1_
         have p226 : 0 ≤ (x4_1 : Int) := of_decide_eq_true V3
         have q226 : x4_1 < (l0_2.length : Int) := of_decide_eq_true V3
         obtain ⟨ad226, A226_1, c226_1, e226, hx226_0, hx226_1, hl226_1, hi226_1⟩ := at_T46 HR0_2.out x4_1 p226 q226
         have hw226_1 := hx226_1
         have hw226_0 := hx226_0
         cases e226
         replace hx226_0 := (HB.out.cell (World.block_lt_of_cell? w _ hx226_0)).trans hx226_0
         replace hx226_1 := (HB.out.cell (World.block_lt_of_cell? w _ hx226_1)).trans hx226_1
         have HR226_1 := Z0 hi226_1
         have HC226_1 := Z0 hl226_1
         clear hi226_1 hl226_1
         replace p226 := eq_true p226
         replace q226 := eq_true q226
         refine start_ (n := 11) (S := fun w' => w'.cell? ⟨gb223, 0, none⟩ = some (.int .i64 a0_0) ∧ w'.cell? ⟨gb223, 1, none⟩ = some (.slice A0_1 l0_1.length c0_1) ∧ w'.cell? ⟨gb223, 2, none⟩ = some (.slice (some ad226) l0_2.length c0_2) ∧ w'.cell? (ad226.add ((x4_1).toNat * 2)) = some (.bool ((rd_T46 l0_2 x4_1).f0)) ∧ w'.cell? ⟨(ad226.add ((x4_1).toNat * 2)).block, (ad226.add ((x4_1).toNat * 2)).off + 1, none⟩ = some (.slice A226_1 ((rd_T46 l0_2 x4_1).f1).length c226_1)) (ds := []) (bs 11 0) (by kernel_rfl) rfl rfl ⟨(Y0 BK223.out 0).trans rfl, (Y0 BK223.out 1).trans rfl, (Y0 BK223.out 2).trans rfl, ((HB.out.cell (World.block_lt_of_cell? w _ hw226_0)).trans hw226_0), ((HB.out.cell (World.block_lt_of_cell? w _ hw226_1)).trans hw226_1)⟩ (fun hHeld => ?_); refine with_tabW cabinetryref03_Validate.tab11 cabinetryref03_Validate.bits11 (fun HT_ HW_ => ?_)
         generalize wr.drew = w20 at BK223 HB HR226_1 hx226_0 hx226_1 hHeld ⊢
         refine Y8 (i := 0) (N := some 27) (v := ?_) (a' := ?_) (bs 11 1) rfl rfl (Y3 HT_.out (by kernel_rfl)) (fun _ _ _ h => h) (Or.inl ⟨by rfl, ?_⟩) ?_ ?_
         rotate_left
         ·intro w'
          go_simp
          with_reducible rfl
         rotate_left
         ·simp only [Act.put, Z1, Z2, Z3, Y4, Y5]
          rfl
         refine Y8 (i := 2) (N := some 29) (v := ?_) (a' := ?_) (bs 11 5) rfl rfl (Y3 HT_.out (by kernel_rfl)) (fun _ _ _ h => h) (Or.inl ⟨by rfl, ?_⟩) ?_ ?_
         rotate_left
         ·intro w'
          go_simp
          with_reducible rfl
         rotate_left
         ·simp only [Act.put, Z1, Z2, Z3, Y4, Y5]
          rfl
         refine Y8 (i := 4) (N := some 31) (v := ?_) (a' := ?_) (bs 11 21) rfl rfl (Y3 HT_.out (by kernel_rfl)) (fun _ _ _ h => h) (Or.inl ⟨by rfl, ?_⟩) ?_ ?_
         rotate_left
         ·intro w'
          go_simp
          with_reducible rfl
         rotate_left
         ·simp only [Act.put, Z1, Z2, Z3, Y4, Y5]
          rfl
         refine Y8 (i := 6) (N := some 33) (v := ?_) (a' := ?_) (bs 11 85) rfl rfl (Y3 HT_.out (by kernel_rfl)) (fun _ _ _ h => h) (Or.inl ⟨by rfl, ?_⟩) ?_ ?_
         rotate_left
         ·intro w'
          go_simp
          with_reducible rfl
         rotate_left
         ·simp only [Act.put, Z1, Z2, Z3, Y4, Y5]
          rfl
         refine take_ (i := 1) (N := some 28) (v := ?_) (a' := ?_) (bs 11 87) rfl rfl (take_ofW HT_.out HW_.out (by kernel_rfl)) (fun _ _ _ h => h) (Or.inl ⟨by rfl, ?_⟩) hHeld ?_ ?_
         rotate_left
         ·rintro w' ⟨s0, s1, s2, s3, s4⟩
          go_simp
          with_reducible rfl
         rotate_left
         ·simp only [Act.put, Z1, Z2, Z3, Y4, Y5]
          rfl
         refine take_ (i := 3) (N := some 30) (v := ?_) (a' := ?_) (bs 11 95) rfl rfl (take_ofW HT_.out HW_.out (by kernel_rfl)) (fun _ _ _ h => h) (Or.inl ⟨by rfl, ?_⟩) hHeld ?_ ?_
         rotate_left
         ·rintro w' ⟨s0, s1, s2, s3, s4⟩
          go_simp
          with_reducible rfl
         rotate_left
         ·simp only [Act.put, Z1, Z2, Z3, Y4, Y5]
          rfl
         refine take_ (i := 5) (N := some 32) (v := ?_) (a' := ?_) (bs 11 127) rfl rfl (take_ofW HT_.out HW_.out (by kernel_rfl)) (fun _ _ _ h => h) (Or.inl ⟨by rfl, ?_⟩) hHeld ?_ ?_
         rotate_left
         ·rintro w' ⟨s0, s1, s2, s3, s4⟩
          go_simp
          with_reducible rfl
         rotate_left
         ·simp only [Act.put, Z1, Z2, Z3, Y4, Y5]
          rfl
         refine Y8 (i := 7) (N := some 34) (v := ?_) (a' := ?_) (bs 11 255) rfl rfl (Y3 HT_.out (by kernel_rfl)) (fun _ _ _ h => h) (Or.inl ⟨by rfl, ?_⟩) ?_ ?_
         rotate_left
         ·intro w'
          go_simp
          with_reducible rfl
         rotate_left
         ·simp only [Act.put, Z1, Z2, Z3, Y4, Y5]
          rfl
         refine take_ (i := 8) (N := some 35) (v := ?_) (a' := ?_) (bs 11 511) rfl rfl (take_ofW HT_.out HW_.out (by kernel_rfl)) (fun _ _ _ h => h) (Or.inl ⟨by rfl, ?_⟩) hHeld ?_ ?_
         rotate_left
         ·rintro w' ⟨s0, s1, s2, s3, s4⟩
          go_simp
          with_reducible rfl
         rotate_left
         ·simp only [Act.put, Z1, Z2, Z3, Y4, Y5]
          rfl
         refine one_ (i := 9) (N := some 36) (bs 11 1023) rfl rfl (one_of HT_.out (by kernel_rfl)) (by decide) (fun K hK => ?_)
         refine goes_ Tryz.func74 (by kernel_rfl) rfl #[.slice A0_1 l0_1.length c0_1, .int .i64 a0_0, .agg #[.bool ((rd_T46 l0_2 x4_1).f0), .slice A226_1 ((rd_T46 l0_2 x4_1).f1).length c226_1]] (by rfl) rfl rfl V1 ?_
         with_reducible refine (cabinetryref03_ValidateRecord.calls k1 _ _ l0_1 a0_0 ((rd_T46 l0_2 x4_1).f0) _ _ ((rd_T46 l0_2 x4_1).f1) t227 _ ?side1 ?side2 ?side3 ?side4 A17.out).mono ?_
         (case side1 => repeat (first | exact (Kd.C_below HR0_1.out HB.out) | (with_reducible refine Kd.C_alloc ?_ _) | (with_reducible refine Kd.C_drewN ?_ _) | (with_reducible refine Kd.C_drew ?_)))
         (case side2 => exact HC0_1.out)
         (case side3 => repeat (first | exact (Kd.C_below HR226_1.out HB.out) | (with_reducible refine Kd.C_alloc ?_ _) | (with_reducible refine Kd.C_drewN ?_ _) | (with_reducible refine Kd.C_drew ?_)))
         (case side4 => exact HC226_1.out)
         rintro e w21 ⟨rfl, hb⟩
         refine ⟨_, rfl, ?_⟩
         have n0_ := Z0 (Z5 (g := gb223) (o := .cells #[.int .i64 a0_0, .slice A0_1 l0_1.length c0_1, .slice (some ad226) l0_2.length c0_2] 35 (0, 0)) (by (with_reducible repeat (first | refine Z6 ?_ _ | refine Z8 ?_ | refine Z7 ?_ _)); exact BK223.out) hb)
         have n1_ := Z0 (Z4 V0 hb)
         clear BK223
         clear HB
         have BK223 := n0_
         have HB := n1_
         clear n0_ n1_
         (try clear hb)
         (try clear hb2)
         (try clear hk)
         (try clear hi)
         refine hK.out _ _ ⟨(Y0 BK223.out 0).trans rfl, (Y0 BK223.out 1).trans rfl, (Y0 BK223.out 2).trans rfl, ((HB.out.cell (World.block_lt_of_cell? w _ hw226_0)).trans hw226_0), ((HB.out.cell (World.block_lt_of_cell? w _ hw226_1)).trans hw226_1)⟩ (fun hHeld => ?_)
         clear hK K
         refine norm_ (a' := ?_) ?_ ?_
         rotate_left
         ·show Act.put _ (some 36) _ = _
          simp only [Act.put, Z1, Z2, Z3, Y4, Y5]
          rfl
         refine Y8 (i := 10) (N := some 5) (v := ?_) (a' := ?_) (bs 11 2047) rfl rfl (Y3 HT_.out (by kernel_rfl)) (fun _ _ _ h => h) (Or.inl ⟨by rfl, ?_⟩) ?_ ?_
         rotate_left
         ·intro w'
          go_simp
          with_reducible rfl
         rotate_left
         ·simp only [Act.put, Z1, Z2, Z3, Y4, Y5]
          rfl
         refine done_ (done_of HT_.out (by kernel_rfl)) ?_
         try go_wp2
         go_roundg k1
         case measure => have := HK1.out; omega
         case rel => exact ⟨(wrap64 (x4_1 + 1)), V2, H', ⟨by have := HK1.out; omega⟩, ⟨by (with_reducible repeat (first | refine Z6 ?_ _ | refine Z8 ?_ | refine Z7 ?_ _)); exact BK223.out⟩, ⟨V0⟩⟩
        ·rw [if_neg c18] at H
         have c18b0 : (t227 == 0) = false := beq_eq_false_iff_ne.mpr c18
         have c18b1 : (t227 != 0) = true := bne_iff_ne.mpr c18
         obtain rfl := Option.some.inj H
         obtain ⟨hcz22_0, hcz22_1, hcz22_2⟩ := bc3 BK223.out
         obtain ⟨hfz22_0, hfz22_1, hfz22_2⟩ := bf3 BK223.out
         try go_wp2
         have n0_ := Z0 (Z8 BK223.out)
         have n1_ := Z0 (below_drew1 HB.out)
         clear BK223
         clear HB
         have BK223 := n0_
         have HB := n1_
         clear n0_ n1_
         have p226 : 0 ≤ (x4_1 : Int) := of_decide_eq_true V3
         have q226 : x4_1 < (l0_2.length : Int) := of_decide_eq_true V3
         obtain ⟨ad226, A226_1, c226_1, e226, hx226_0, hx226_1, hl226_1, hi226_1⟩ := at_T46 HR0_2.out x4_1 p226 q226
         have hw226_1 := hx226_1
         have hw226_0 := hx226_0
         cases e226
         replace hx226_0 := (HB.out.cell (World.block_lt_of_cell? w _ hx226_0)).trans hx226_0
         replace hx226_1 := (HB.out.cell (World.block_lt_of_cell? w _ hx226_1)).trans hx226_1
         have HR226_1 := Z0 hi226_1
         have HC226_1 := Z0 hl226_1
         clear hi226_1 hl226_1
         replace p226 := eq_true p226
         replace q226 := eq_true q226
         refine start_ (n := 11) (S := fun w' => w'.cell? ⟨gb223, 0, none⟩ = some (.int .i64 a0_0) ∧ w'.cell? ⟨gb223, 1, none⟩ = some (.slice A0_1 l0_1.length c0_1) ∧ w'.cell? ⟨gb223, 2, none⟩ = some (.slice (some ad226) l0_2.length c0_2) ∧ w'.cell? (ad226.add ((x4_1).toNat * 2)) = some (.bool ((rd_T46 l0_2 x4_1).f0)) ∧ w'.cell? ⟨(ad226.add ((x4_1).toNat * 2)).block, (ad226.add ((x4_1).toNat * 2)).off + 1, none⟩ = some (.slice A226_1 ((rd_T46 l0_2 x4_1).f1).length c226_1)) (ds := []) (bs 11 0) (by kernel_rfl) rfl rfl ⟨(Y0 BK223.out 0).trans rfl, (Y0 BK223.out 1).trans rfl, (Y0 BK223.out 2).trans rfl, ((HB.out.cell (World.block_lt_of_cell? w _ hw226_0)).trans hw226_0), ((HB.out.cell (World.block_lt_of_cell? w _ hw226_1)).trans hw226_1)⟩ (fun hHeld => ?_); refine with_tabW cabinetryref03_Validate.tab11 cabinetryref03_Validate.bits11 (fun HT_ HW_ => ?_)
         generalize wr.drew = w23 at BK223 HB HR226_1 hx226_0 hx226_1 hHeld ⊢
         refine Y8 (i := 0) (N := some 27) (v := ?_) (a' := ?_) (bs 11 1) rfl rfl (Y3 HT_.out (by kernel_rfl)) (fun _ _ _ h => h) (Or.inl ⟨by rfl, ?_⟩) ?_ ?_
         rotate_left
         ·intro w'
          go_simp
          with_reducible rfl
         rotate_left
         ·simp only [Act.put, Z1, Z2, Z3, Y4, Y5]
          rfl
         refine Y8 (i := 2) (N := some 29) (v := ?_) (a' := ?_) (bs 11 5) rfl rfl (Y3 HT_.out (by kernel_rfl)) (fun _ _ _ h => h) (Or.inl ⟨by rfl, ?_⟩) ?_ ?_
         rotate_left
         ·intro w'
          go_simp
          with_reducible rfl
         rotate_left
         ·simp only [Act.put, Z1, Z2, Z3, Y4, Y5]
          rfl
         refine Y8 (i := 4) (N := some 31) (v := ?_) (a' := ?_) (bs 11 21) rfl rfl (Y3 HT_.out (by kernel_rfl)) (fun _ _ _ h => h) (Or.inl ⟨by rfl, ?_⟩) ?_ ?_
         rotate_left
         ·intro w'
          go_simp
          with_reducible rfl
         rotate_left
         ·simp only [Act.put, Z1, Z2, Z3, Y4, Y5]
          rfl
         refine Y8 (i := 6) (N := some 33) (v := ?_) (a' := ?_) (bs 11 85) rfl rfl (Y3 HT_.out (by kernel_rfl)) (fun _ _ _ h => h) (Or.inl ⟨by rfl, ?_⟩) ?_ ?_
         rotate_left
         ·intro w'
          go_simp
          with_reducible rfl
         rotate_left
         ·simp only [Act.put, Z1, Z2, Z3, Y4, Y5]
          rfl
         refine take_ (i := 1) (N := some 28) (v := ?_) (a' := ?_) (bs 11 87) rfl rfl (take_ofW HT_.out HW_.out (by kernel_rfl)) (fun _ _ _ h => h) (Or.inl ⟨by rfl, ?_⟩) hHeld ?_ ?_
         rotate_left
         ·rintro w' ⟨s0, s1, s2, s3, s4⟩
          go_simp
          with_reducible rfl
         rotate_left
         ·simp only [Act.put, Z1, Z2, Z3, Y4, Y5]
          rfl
         refine take_ (i := 3) (N := some 30) (v := ?_) (a' := ?_) (bs 11 95) rfl rfl (take_ofW HT_.out HW_.out (by kernel_rfl)) (fun _ _ _ h => h) (Or.inl ⟨by rfl, ?_⟩) hHeld ?_ ?_
         rotate_left
         ·rintro w' ⟨s0, s1, s2, s3, s4⟩
          go_simp
          with_reducible rfl
         rotate_left
         ·simp only [Act.put, Z1, Z2, Z3, Y4, Y5]
          rfl
         refine take_ (i := 5) (N := some 32) (v := ?_) (a' := ?_) (bs 11 127) rfl rfl (take_ofW HT_.out HW_.out (by kernel_rfl)) (fun _ _ _ h => h) (Or.inl ⟨by rfl, ?_⟩) hHeld ?_ ?_
         rotate_left
         ·rintro w' ⟨s0, s1, s2, s3, s4⟩
          go_simp
          with_reducible rfl
         rotate_left
         ·simp only [Act.put, Z1, Z2, Z3, Y4, Y5]
          rfl
         refine Y8 (i := 7) (N := some 34) (v := ?_) (a' := ?_) (bs 11 255) rfl rfl (Y3 HT_.out (by kernel_rfl)) (fun _ _ _ h => h) (Or.inl ⟨by rfl, ?_⟩) ?_ ?_
         rotate_left
         ·intro w'
          go_simp
          with_reducible rfl
         rotate_left
         ·simp only [Act.put, Z1, Z2, Z3, Y4, Y5]
          rfl
         refine take_ (i := 8) (N := some 35) (v := ?_) (a' := ?_) (bs 11 511) rfl rfl (take_ofW HT_.out HW_.out (by kernel_rfl)) (fun _ _ _ h => h) (Or.inl ⟨by rfl, ?_⟩) hHeld ?_ ?_
         rotate_left
         ·rintro w' ⟨s0, s1, s2, s3, s4⟩
          go_simp
          with_reducible rfl
         rotate_left
         ·simp only [Act.put, Z1, Z2, Z3, Y4, Y5]
          rfl
         refine one_ (i := 9) (N := some 36) (bs 11 1023) rfl rfl (one_of HT_.out (by kernel_rfl)) (by decide) (fun K hK => ?_)
         refine goes_ Tryz.func74 (by kernel_rfl) rfl #[.slice A0_1 l0_1.length c0_1, .int .i64 a0_0, .agg #[.bool ((rd_T46 l0_2 x4_1).f0), .slice A226_1 ((rd_T46 l0_2 x4_1).f1).length c226_1]] (by rfl) rfl rfl V1 ?_
         with_reducible refine (cabinetryref03_ValidateRecord.calls k1 _ _ l0_1 a0_0 ((rd_T46 l0_2 x4_1).f0) _ _ ((rd_T46 l0_2 x4_1).f1) t227 _ ?side1 ?side2 ?side3 ?side4 A17.out).mono ?_
         (case side1 => repeat (first | exact (Kd.C_below HR0_1.out HB.out) | (with_reducible refine Kd.C_alloc ?_ _) | (with_reducible refine Kd.C_drewN ?_ _) | (with_reducible refine Kd.C_drew ?_)))
         (case side2 => exact HC0_1.out)
         (case side3 => repeat (first | exact (Kd.C_below HR226_1.out HB.out) | (with_reducible refine Kd.C_alloc ?_ _) | (with_reducible refine Kd.C_drewN ?_ _) | (with_reducible refine Kd.C_drew ?_)))
         (case side4 => exact HC226_1.out)
         rintro e w24 ⟨rfl, hb⟩
         refine ⟨_, rfl, ?_⟩
         have n0_ := Z0 (Z5 (g := gb223) (o := .cells #[.int .i64 a0_0, .slice A0_1 l0_1.length c0_1, .slice (some ad226) l0_2.length c0_2] 35 (0, 0)) (by (with_reducible repeat (first | refine Z6 ?_ _ | refine Z8 ?_ | refine Z7 ?_ _)); exact BK223.out) hb)
         have n1_ := Z0 (Z4 V0 hb)
         clear BK223
         clear HB
         have BK223 := n0_
         have HB := n1_
         clear n0_ n1_
         (try clear hb)
         (try clear hb2)
         (try clear hk)
         (try clear hi)
         refine hK.out _ _ ⟨(Y0 BK223.out 0).trans rfl, (Y0 BK223.out 1).trans rfl, (Y0 BK223.out 2).trans rfl, ((HB.out.cell (World.block_lt_of_cell? w _ hw226_0)).trans hw226_0), ((HB.out.cell (World.block_lt_of_cell? w _ hw226_1)).trans hw226_1)⟩ (fun hHeld => ?_)
         clear hK K
         refine norm_ (a' := ?_) ?_ ?_
         rotate_left
         ·show Act.put _ (some 36) _ = _
          simp only [Act.put, Z1, Z2, Z3, Y4, Y5]
          rfl
         refine Y8 (i := 10) (N := some 5) (v := ?_) (a' := ?_) (bs 11 2047) rfl rfl (Y3 HT_.out (by kernel_rfl)) (fun _ _ _ h => h) (Or.inl ⟨by rfl, ?_⟩) ?_ ?_
         rotate_left
         ·intro w'
          go_simp
          with_reducible rfl
         rotate_left
         ·simp only [Act.put, Z1, Z2, Z3, Y4, Y5]
          rfl
         refine done_ (done_of HT_.out (by kernel_rfl)) ?_
         try go_wp2
         go_ret
         exact ⟨rfl, V0⟩
       ·rw [if_neg c16] at H
        exact absurd H (by simp)
      ·rw [if_neg c15] at H
       have c15b0 : decide (x4_1 < (l0_2.length : Int)) = false := decide_eq_false c15
       clear c15
       obtain rfl := Option.some.inj H
       obtain ⟨hcz25_0, hcz25_1, hcz25_2⟩ := bc3 BK223.out
       obtain ⟨hfz25_0, hfz25_1, hfz25_2⟩ := bf3 BK223.out
       go_wp2
       go_ret
       exact ⟨rfl, V0⟩
  ·rw [if_neg c5] at H
   have c5b0 : (t225 == 0) = false := beq_eq_false_iff_ne.mpr c5
   have c5b1 : (t225 != 0) = true := bne_iff_ne.mpr c5
   obtain rfl := Option.some.inj H
   go_enter Tryz.func35, Tryz.ntmps35
   go_wp2_with (first | ((with_reducible refine Y1 (N := 1) rfl ?_); refine bx (N := 1) (cs := #[.int .i64 a0_0, .slice A0_1 l0_1.length c0_1, .slice A0_2 l0_2.length c0_2]) (t := 35) ?_; intro gb223 hg w26 hbox hb; have BK223 := Z0 (hbox); have GE223 := Z0 ((by rw [hg]; exact (Z9 V0) : w.heap.size ≤ gb223)); replace HB := Z0 (Z4 V0 hb); clear hb hbox hg; obtain ⟨hcz27_0, hcz27_1, hcz27_2⟩ := bc3 BK223.out; obtain ⟨hfz27_0, hfz27_1, hfz27_2⟩ := bf3 BK223.out) | ((with_reducible refine Y2 (f := 56) rfl ?_); refine goesL_ (some 8) rfl rfl Tryz.func56 (by kernel_rfl) rfl #[.int .i64 a0_0] rfl V1 ?_; (with_reducible refine (cabinetryref03_isPage.calls a0_0 true _ A2.out).mono ?_); rintro e w' ⟨rfl, ⟨nd, rfl⟩⟩; refine ⟨_, rfl, ?_⟩) | ((with_reducible refine Y2 (f := 37) rfl ?_); refine goesL_ (some 12) rfl rfl Tryz.func37 (by kernel_rfl) rfl #[.slice A0_1 l0_1.length c0_1] rfl V1 ?_; (with_reducible refine (cabinetryref03_ValidateFields.calls k _ _ l0_1 t225 _ ?side1 ?side2 A4.out).mono ?_); (case side1 => repeat (first | exact (Kd.C_below HR0_1.out V0) | (with_reducible refine Kd.C_alloc ?_ _) | (with_reducible refine Kd.C_drewN ?_ _) | (with_reducible refine Kd.C_drew ?_))); (case side2 => exact HC0_1.out); rintro e w28 ⟨rfl, hb⟩; refine ⟨_, rfl, ?_⟩; replace BK223 := Z0 (Z5 (g := gb223) (o := .cells #[.int .i64 a0_0, .slice A0_1 l0_1.length c0_1, .slice A0_2 l0_2.length c0_2] 35 (0, 0)) (by (with_reducible repeat (first | refine Z6 ?_ _ | refine Z8 ?_ | refine Z7 ?_ _)); exact BK223.out) hb); replace HB := Z0 (Z4 V0 hb); (try clear hb); (try clear hb2); (try clear hk); (try clear hi)))
   go_ret
   exact ⟨rfl, V0⟩
 ·replace c3 := Bool.eq_false_iff.mpr c3
  subst c3
  have H1 : (some 1) = some r := by rw [if_neg (show ¬ (false = true) by decide)] at H; exact H
  clear H
  have H := H1
  clear H1
  obtain rfl := Option.some.inj H
  go_enter Tryz.func35, Tryz.ntmps35
  go_wp2_with (first | ((with_reducible refine Y1 (N := 1) rfl ?_); refine bx (N := 1) (cs := #[.int .i64 a0_0, .slice A0_1 l0_1.length c0_1, .slice A0_2 l0_2.length c0_2]) (t := 35) ?_; intro gb223 hg w29 hbox hb; have BK223 := Z0 (hbox); have GE223 := Z0 ((by rw [hg]; exact (Z9 V0) : w.heap.size ≤ gb223)); replace HB := Z0 (Z4 V0 hb); clear hb hbox hg; obtain ⟨hcz30_0, hcz30_1, hcz30_2⟩ := bc3 BK223.out; obtain ⟨hfz30_0, hfz30_1, hfz30_2⟩ := bf3 BK223.out) | ((with_reducible refine Y2 (f := 56) rfl ?_); refine goesL_ (some 8) rfl rfl Tryz.func56 (by kernel_rfl) rfl #[.int .i64 a0_0] rfl V1 ?_; (with_reducible refine (cabinetryref03_isPage.calls a0_0 false _ A2.out).mono ?_); rintro e w' ⟨rfl, ⟨nd, rfl⟩⟩; refine ⟨_, rfl, ?_⟩))
  go_ret
  exact ⟨rfl, V0⟩
end Go.Proofs.YtldpdidlfbphcaaGreatDoor.P
end
section
namespace Go.Proofs.YtldpdidlfbphcaaGreatDoor.P
open Go.RowKit Go.Proofs.YtldpdidlfbphcaaGreatDoorW.PrintWords Go.Proofs.YtldpdidlfbphcaaGreatDoorW.PrintLast Go.Proofs.YtldpdidlfbphcaaGreatDoorW.PrintMore
def holdsS (f : S23) (pg : Int) (v : S25) : Bool :=
 if v.f0 = 0 then f.f3 && (decide (v.f1 = 0) && decide (v.f2.size = 0))
 else decide (valS v.f0 v.f1 v.f2 = 0) && (decide (v.f0 = emptyK f.f1) &&
  (if f.f1 = 4 then decide ((v.f2.size : Int) ≤ f.f2) && (decide (blanksOff v.f2 = v.f2) && onS pg v.f2)
   else if f.f1 = 2 then decide (((decL v.f1).length : Int) ≤ f.f2)
   else if f.f1 = 5 then decide (0 ≤ v.f1 ∧ v.f1 ≤ 99999999) else true))
theorem text_wd {s : ByteArray} {wd : Int} (hf : fieldS s 4 wd = true) : 1 ≤ wd ∧ wd ≤ 254 := by
 unfold fieldS at hf
 simp [kindLo, kindHi, kindFound] at hf
 exact ⟨hf.2.1, hf.2.2⟩
theorem fit_holds (f : S23) (pg : Int) (v : S25) (hf : fS f = true) (hp : pageS pg = true) (h0 : v.f0 ≠ 0) (hv : valS v.f0 v.f1 v.f2 = 0) :
  (decide ((fitS f.f0 f.f1 f.f2 f.f3 pg v.f0 v.f1 v.f2).2.2.2 = 0) && ((fitS f.f0 f.f1 f.f2 f.f3 pg v.f0 v.f1 v.f2).1 == v.f0 && ((fitS f.f0 f.f1 f.f2 f.f3 pg v.f0 v.f1 v.f2).2.1 == v.f1 && ((fitS f.f0 f.f1 f.f2 f.f3 pg v.f0 v.f1 v.f2).2.2.1.toList == v.f2.toList)))) = holdsS f pg v := by
 rw [fitS_T f.f0 f.f1 f.f2 f.f3 pg v.f0 v.f1 v.f2 hf hp hv]
 unfold fitT holdsS
 rw [if_neg h0, if_neg h0, hv]
 by_cases he : v.f0 = emptyK f.f1
 ·rw [if_neg (by simpa using he)]
  by_cases h4 : f.f1 = 4
  ·rw [if_pos h4, if_pos h4]
   have hw := text_wd (s := f.f0) (wd := f.f2) (by have := hf; unfold fS at this; rw [h4] at this; exact this)
   have hv4 : v.f0 = 4 := by rw [he, h4]; rfl
   obtain ⟨u, hu⟩ : ∃ u, blanksOff (v.f2.extract 0 (min v.f2.size f.f2.toNat)) = u := ⟨_, rfl⟩
   rw [hu]
   have key : (u.toList = v.f2.toList) ↔ ((v.f2.size : Int) ≤ f.f2 ∧ blanksOff v.f2 = v.f2) := by
    constructor
    ·intro h
     have e : u = v.f2 := by
      apply ByteArray.ext
      apply Array.ext'
      rw [ba_toList, ba_toList] at h
      exact h
     have h1 : u.size ≤ f.f2.toNat := by
      rw [← hu]
      refine Nat.le_trans (blanks_size _) ?_
      rw [ByteArray.size_extract]
      omega
     rw [e] at h1
     refine ⟨by omega, ?_⟩
     rw [extract_all v.f2 f.f2.toNat h1] at hu
     rw [hu, e]
    ·rintro ⟨h1, h2⟩
     rw [extract_all v.f2 f.f2.toNat (by omega), h2] at hu
     rw [← hu]
   by_cases hk : u.toList = v.f2.toList
   ·have h12 := key.1 hk
    have e : u = v.f2 := by
     apply ByteArray.ext
     apply Array.ext'
     rw [ba_toList, ba_toList] at hk
     exact hk
    rw [e]
    by_cases ho : onS pg v.f2 = true
    ·rw [if_pos ho]; simp [ho, h12.1, h12.2, he]
    ·rw [if_neg ho]; simp [ho]
   ·have hn : ¬ ((v.f2.size : Int) ≤ f.f2 ∧ blanksOff v.f2 = v.f2) := fun h => hk (key.2 h)
    have hr : (decide ((v.f2.size : Int) ≤ f.f2) && (decide (blanksOff v.f2 = v.f2) && onS pg v.f2)) = false := by
     by_cases a : (v.f2.size : Int) ≤ f.f2
     ·have b : ¬ blanksOff v.f2 = v.f2 := fun b => hn ⟨a, b⟩
      simp [b]
     ·simp [a]
    rw [hr]
    by_cases ho : onS pg u = true
    ·rw [if_pos ho]; simp [hk]
    ·rw [if_neg ho]; simp
  ·rw [if_neg h4, if_neg h4]
   by_cases h2 : f.f1 = 2
   ·rw [if_pos h2, if_pos h2]
    by_cases a : ((decL v.f1).length : Int) ≤ f.f2
    ·rw [if_pos a]; simp [a, he]
    ·rw [if_neg a]; simp [a]
   ·rw [if_neg h2, if_neg h2]
    by_cases h5 : f.f1 = 5
    ·rw [if_pos h5, if_pos h5]
     by_cases a : 0 ≤ v.f1 ∧ v.f1 ≤ 99999999
     ·rw [if_pos a]; simp [a, he]
     ·rw [if_neg a]; simp only [decide_eq_false a]; simp
    ·rw [if_neg h5, if_neg h5]; simp [he]
 ·rw [if_pos (by simpa using he)]
  simp [he]
theorem holds_is (f : S23) (pg : Int) (v : S25) (k : Nat) (hf : fS f = true) (hp : pageS pg = true) (hk : 0 < k) : table_holds.f k f.f0 f.f1 f.f2 f.f3 pg v.f0 v.f1 v.f2 = some (holdsS f pg v) := by
 obtain ⟨m, rfl⟩ : ∃ m, k = m + 1 := ⟨k - 1, by omega⟩
 unfold table_holds.f
 by_cases h0 : v.f0 = 0
 ·rw [if_pos h0]
  unfold holdsS
  rw [if_pos h0]
  by_cases hn : f.f3 = true
  ·rw [if_pos hn, hn]
   congr 1
   have e : (v.f2.toList == ([] : List UInt8)) = decide (v.f2.size = 0) := by
    rw [Bool.eq_iff_iff, beq_iff_eq, ba_nil, decide_eq_true_eq]
   have e1 : (v.f1 == 0) = decide (v.f1 = 0) := by by_cases h : v.f1 = 0 <;> simp [h]
   have e0 : (v.f0 == 0) = true := by simp [h0]
   rw [e, e1, e0]
  ·rw [if_neg hn]; simp [hn]
 ·rw [if_neg h0, valS_is]
  simp only [Option.bind_some]
  by_cases hv : valS v.f0 v.f1 v.f2 = 0
  ·rw [if_pos hv, ← fit_holds f pg v hf hp h0 hv]
   simp only [table_Fit.f, Option.bind_some]
   by_cases he : (fitS f.f0 f.f1 f.f2 f.f3 pg v.f0 v.f1 v.f2).2.2.2 = 0
   ·rw [if_pos he]; simp [he]
   ·rw [if_neg he]; simp [he]
  ·rw [if_neg hv]
   unfold holdsS
   rw [if_neg h0]
   simp [hv]
theorem fits_holds (f : S23) (pg : Int) (v : S25) (hf : fS f = true) (hp : pageS pg = true) : Ev (fun k => cabinetryref03_fits.f k f.f0 f.f1 f.f2 f.f3 pg v.f0 v.f1 v.f2) (holdsS f pg v) := by
 have hkf : kindFound f.f1 = true := by unfold fS fieldS at hf; simp at hf; exact hf.2.1
 by_cases hv : valS v.f0 v.f1 v.f2 = 0
 ·by_cases h0 : v.f0 = 0
  ·refine (Ev.now _).congr (fun k => ?_)
   unfold cabinetryref03_fits.f holdsS
   rw [refValidate_is, hv]
   simp only [Option.bind_some, if_true]
   rw [if_pos h0, if_pos h0]
   have hz : v.f1 = 0 ∧ v.f2.size = 0 := by
    unfold valS at hv
    split at hv
    ·omega
    ·split at hv
     ·rename_i hok
      rw [h0] at hok
      unfold valOK at hok
      rw [if_neg (by decide), if_pos rfl, Bool.and_eq_true, decide_eq_true_eq, decide_eq_true_eq] at hok
      exact ⟨hok.2, hok.1⟩
     ·omega
   simp [hz.1, hz.2]
  ·by_cases he : v.f0 = emptyK f.f1
   ·by_cases h4 : f.f1 = 4
    ·have hv4 : v.f0 = 4 := by rw [he, h4]; rfl
     have hw := text_wd (s := f.f0) (wd := f.f2) (by have := hf; unfold fS at this; rw [h4] at this; exact this)
     have hsz : v.f2.size ≤ 2048 := by
      unfold valS at hv
      split at hv
      ·omega
      ·omega
     refine Ev.from 3000 (fun k hk => ?_)
     obtain ⟨m, rfl⟩ : ∃ m, k = m + 1 := ⟨k - 1, by omega⟩
     unfold cabinetryref03_fits.f holdsS
     rw [refValidate_is, hv]
     simp only [Option.bind_some, if_true]
     rw [if_neg h0, if_neg h0, if_neg (by omega : ¬ f.f1 = 5), if_pos (by rw [hv4, h4]), if_neg (by omega : ¬ f.f1 = 2), if_pos h4, if_pos h4]
     by_cases a : (v.f2.size : Int) ≤ f.f2
     ·rw [if_pos a, bare_is v.f2 _ (by omega) (by omega)]
      simp only [Option.bind_some]
      by_cases b : blanksOff v.f2 = v.f2
      ·rw [if_pos (by rw [b]), written_is v.f2 pg _ (by omega) hp (by omega)]
       simp only [Option.bind_some, cabinetryref03_fits.j0]
       simp [a, b, he]
      ·rw [if_neg (fun h => b (by
        apply ByteArray.ext
        apply Array.ext'
        rw [ba_toList, ba_toList] at h
        exact h))]
       simp only [cabinetryref03_fits.j0]
       simp [b]
     ·rw [if_neg a]
      simp only [cabinetryref03_fits.j0]
      simp [a]
    ·refine (fits_is f.f0 f.f1 f.f2 f.f3 pg v.f0 v.f1 v.f2 hv h0 h4 he hkf).congr (fun k => rfl) |> fun h => ?_
     have e : holdsS f pg v = (if f.f1 = 2 then decide (((decL v.f1).length : Int) ≤ f.f2) else if f.f1 = 5 then decide (0 ≤ v.f1 ∧ v.f1 ≤ 99999999) else true) := by
      unfold holdsS
      rw [if_neg h0, hv, if_neg h4]
      simp [he]
     rw [e]
     exact h
   ·refine (Ev.now _).congr (fun k => ?_)
    unfold cabinetryref03_fits.f holdsS
    rw [refValidate_is, hv]
    simp only [Option.bind_some, if_true]
    rw [if_neg h0, if_neg h0]
    by_cases h5 : f.f1 = 5
    ·rw [if_pos h5, if_neg (by unfold emptyK at he; rw [if_pos h5] at he; exact he)]
     simp [he]
    ·rw [if_neg h5, if_neg (by unfold emptyK at he; rw [if_neg h5] at he; exact he)]
     simp [he]
 ·refine (Ev.now _).congr (fun k => ?_)
  unfold cabinetryref03_fits.f holdsS
  rw [refValidate_is]
  simp only [Option.bind_some]
  rw [if_neg hv]
  by_cases h0 : v.f0 = 0
  ·rw [if_pos h0]
   by_cases hz : v.f1 = 0 ∧ v.f2.size = 0
   ·exfalso
    apply hv
    unfold valS valOK
    rw [h0, hz.1, hz.2]
    rfl
   ·congr 1
    symm
    by_cases a : v.f1 = 0
    ·have b : ¬ v.f2.size = 0 := fun b => hz ⟨a, b⟩
     simp [b]
    ·simp [a]
  ·rw [if_neg h0]; simp [hv]
def recHolds (pg : Int) : List S23 → List S25 → Bool
 | [], _ => true
 | _ :: _, [] => true
 | f :: fs, v :: vs => holdsS f pg v && recHolds pg fs vs
def recsV (fs : List S23) (pg : Int) : List S46 → Int
 | [] => 0
 | r :: rs => if r.f1.length = fs.length then (if recHolds pg fs r.f1 = true then recsV fs pg rs else 1) else 10
def tableV (pg : Int) (fs : List S23) (rs : List S46) : Int := if pageS pg = true then (if vfS fs = 0 then (if rs.length > 300 then 3 else recsV fs pg rs) else vfS fs) else 1
theorem vfS_all {l : List S23} (h : vfS l = 0) : l.all fS = true ∧ l.length ≤ 16 ∧ lenS l ≤ 2000 := by
 unfold vfS at h
 split at h
 ·omega
 ·split at h
  ·omega
  ·rename_i hf
   split at h
   ·omega
   ·split at h
    ·omega
    ·split at h
     ·omega
     ·exact ⟨by simpa using hf, by omega, by omega⟩
theorem rd46_drop {l : List S46} {i : Nat} {x : S46} {r : List S46} (h : l.drop i = x :: r) : i < l.length ∧ rd_T46 l (i : Int) = x ∧ l.drop (i + 1) = r := by
 have hl : i < l.length := by
  rcases Nat.lt_or_ge i l.length with h1 | h1
  ·exact h1
  ·rw [List.drop_eq_nil_of_le h1] at h; cases h
 have e := List.drop_eq_getElem_cons hl
 rw [h] at e
 injection e with e1 e2
 refine ⟨hl, ?_, e2.symm⟩
 unfold rd_T46
 rw [Int.toNat_natCast, List.getD_eq_getElem?_getD, List.getElem?_eq_getElem hl, Option.getD_some, e1]
theorem rd25_drop {l : List S25} {i : Nat} {x : S25} {r : List S25} (h : l.drop i = x :: r) : i < l.length ∧ rd_T25 l (i : Int) = x ∧ l.drop (i + 1) = r := by
 have hl : i < l.length := by
  rcases Nat.lt_or_ge i l.length with h1 | h1
  ·exact h1
  ·rw [List.drop_eq_nil_of_le h1] at h; cases h
 have e := List.drop_eq_getElem_cons hl
 rw [h] at e
 injection e with e1 e2
 refine ⟨hl, ?_, e2.symm⟩
 unfold rd_T25
 rw [Int.toNat_natCast, List.getD_eq_getElem?_getD, List.getElem?_eq_getElem hl, Option.getD_some, e1]
theorem validate_go (pg : Int) (fs : List S23) (rs : List S46) (hf : fs.all fS = true) (hl : fs.length ≤ 16) (hp : pageS pg = true) (hr : rs.length ≤ 300) : ∀ (r : List S46) (i k : Nat), rs.drop i = r → 20 * r.length + 2 < k → table_Validate.l0 k rs (rs.length : Int) (i : Int) pg fs rs = some (recsV fs pg r)
 | [], i, k, hd, hk => by
  obtain ⟨m, rfl⟩ : ∃ m, k = m + 1 := ⟨k - 1, by omega⟩
  simp only [table_Validate.l0]
  rw [if_neg (rd_end hd)]
  rfl
 | x :: r, i, k, hd, hk => by
  obtain ⟨m, rfl⟩ : ∃ m, k = m + 1 := ⟨k - 1, by omega⟩
  obtain ⟨hlt, hx, hr'⟩ := rd46_drop hd
  rw [List.length_cons, Nat.mul_succ] at hk
  simp only [table_Validate.l0]
  rw [if_pos (by omega), if_pos (by omega), if_pos (by omega), hx]
  unfold recsV
  by_cases hlen : x.f1.length = fs.length
  ·rw [if_pos (by omega), if_pos hlen]
   have inner : ∀ (n : Nat) (q : List S23) (u : List S25) (j k2 : Nat), q.length = n → fs.drop j = q → x.f1.drop j = u → 20 * r.length + 3 + n < k2 → table_Validate.l1 k2 rs (rs.length : Int) (i : Int) fs (fs.length : Int) (j : Int) pg fs rs x.f0 x.f1 = some (if recHolds pg q u = true then recsV fs pg r else 1) := by
    intro n
    induction n with
    | zero =>
     intro q u j k2 hq hdq hdu hk2
     obtain rfl : q = [] := List.eq_nil_of_length_eq_zero hq
     obtain ⟨m2, rfl⟩ : ∃ m2, k2 = m2 + 1 := ⟨k2 - 1, by omega⟩
     simp only [table_Validate.l1]
     rw [if_neg (rd_end hdq), wrapL hlt (by omega)]
     rw [show recHolds pg [] u = true from rfl, if_pos rfl]
     exact validate_go pg fs rs hf hl hp hr r (i + 1) m2 hr' (by omega)
    | succ n ih =>
     intro q u j k2 hq hdq hdu hk2
     obtain ⟨f, q', rfl⟩ : ∃ f q', q = f :: q' := by
      cases q with
      | nil => simp at hq
      | cons f q' => exact ⟨f, q', rfl⟩
     obtain ⟨m2, rfl⟩ : ∃ m2, k2 = m2 + 1 := ⟨k2 - 1, by omega⟩
     obtain ⟨hj, hfj, hdq', _⟩ := rd_drop hdq
     obtain ⟨v, u', rfl⟩ : ∃ v u', u = v :: u' := by
      cases u with
      | nil => exfalso; have := List.drop_eq_nil_iff.1 hdu; omega
      | cons v u' => exact ⟨v, u', rfl⟩
     obtain ⟨hj2, hvj, hdu'⟩ := rd25_drop hdu
     have hm : f ∈ fs := by rw [← List.take_append_drop j fs, hdq]; simp
     have hff := List.all_eq_true.1 hf _ hm
     simp only [table_Validate.l1]
     rw [if_pos (by omega), if_pos (by omega), if_pos (by omega), if_pos (by omega), hfj, hvj, holds_is f pg v m2 hff hp (by omega), wrapL hj (by omega)]
     simp only [Option.bind_some]
     show _ = some (if (holdsS f pg v && recHolds pg q' u') = true then recsV fs pg r else 1)
     by_cases hh : holdsS f pg v = true
     ·rw [if_pos hh, hh, Bool.true_and]
      exact ih q' u' (j + 1) m2 (by simpa using hq) hdq' hdu' (by omega)
     ·rw [if_neg hh]; simp [hh]
   exact inner fs.length fs x.f1 0 m rfl List.drop_zero List.drop_zero (by omega)
  ·rw [if_neg (by omega), if_neg hlen]
theorem validate_is (pg : Int) (fs : List S23) (rs : List S46) (hL : fs.length ≤ 1048576) (k : Nat) (hk : 7000 < k) : table_Validate.f k pg fs rs = some (tableV pg fs rs) := by
 unfold table_Validate.f tableV
 rw [isPage_is]
 simp only [Option.bind_some]
 by_cases hp : pageS pg = true
 ·rw [if_pos hp, if_pos hp]
  have hv : table_ValidateFields.f fs = some (vfS fs) := by unfold table_ValidateFields.f; rw [if_pos (by omega)]
  rw [hv]
  simp only [Option.bind_some]
  by_cases h0 : vfS fs = 0
  ·rw [if_pos h0, if_pos h0]
   by_cases hr : rs.length > 300
   ·rw [if_pos (by omega), if_pos hr]
   ·rw [if_neg (by omega), if_neg hr]
    obtain ⟨ha, hl, _⟩ := vfS_all h0
    exact validate_go pg fs rs ha hl hp (by omega) rs 0 k List.drop_zero (by omega)
  ·rw [if_neg h0, if_neg h0]
 ·rw [if_neg hp, if_neg hp]
theorem refRec_go (pg : Int) (fs : List S23) (x : S46) (hf : fs.all fS = true) (hl : fs.length ≤ 16) (hp : pageS pg = true) (hlen : x.f1.length = fs.length) : ∀ (q : List S23) (u : List S25) (j : Nat), fs.drop j = q → x.f1.drop j = u → Ev (fun k => cabinetryref03_ValidateRecord.l0 k fs pg (j : Int) x.f0 x.f1) (if recHolds pg q u = true then 0 else 1)
 | [], u, j, hdq, hdu => by
  refine Ev.step (f := fun _ => some 0) (fun k => ?_) (Ev.now _)
  simp only [cabinetryref03_ValidateRecord.l0]
  rw [if_neg (rd_end hdq)]
 | f :: q, [], j, hdq, hdu => by
  exfalso
  obtain ⟨hj, _⟩ := rd_drop hdq
  have := List.drop_eq_nil_iff.1 hdu
  omega
 | f :: q, v :: u, j, hdq, hdu => by
  obtain ⟨hj, hfj, hdq', _⟩ := rd_drop hdq
  obtain ⟨hj2, hvj, hdu'⟩ := rd25_drop hdu
  have hm : f ∈ fs := by rw [← List.take_append_drop j fs, hdq]; simp
  have hff := List.all_eq_true.1 hf _ hm
  have ih := refRec_go pg fs x hf hl hp hlen q u (j + 1) hdq' hdu'
  refine Ev.step (f := fun k => (cabinetryref03_fits.f k f.f0 f.f1 f.f2 f.f3 pg v.f0 v.f1 v.f2).bind fun t => if t = true then cabinetryref03_ValidateRecord.l0 k fs pg ((j + 1 : Nat) : Int) x.f0 x.f1 else some 1) (fun k => ?_) ?_
  ·simp only [cabinetryref03_ValidateRecord.l0]
   rw [if_pos (by omega), if_pos (by omega), if_pos (by omega), hfj, hvj, wrapL hj (by omega)]
  ·refine Ev.bind (fits_holds f pg v hff hp) ?_
   show Ev _ (if (holdsS f pg v && recHolds pg q u) = true then 0 else 1)
   by_cases hh : holdsS f pg v = true
   ·rw [hh, Bool.true_and]
    exact Ev.if_pos rfl ih
   ·have hh' : holdsS f pg v = false := by simpa using hh
    rw [hh', Bool.false_and]
    exact Ev.if_neg (by decide) (Ev.now _)
theorem refVal_go (pg : Int) (fs : List S23) (rs : List S46) (hf : fs.all fS = true) (hl : fs.length ≤ 16) (hp : pageS pg = true) (hr : rs.length ≤ 300) : ∀ (r : List S46) (i : Nat), rs.drop i = r → Ev (fun k => cabinetryref03_Validate.l0 k (i : Int) pg fs rs) (recsV fs pg r)
 | [], i, hd => by
  refine Ev.step (f := fun _ => some 0) (fun k => ?_) (Ev.now _)
  simp only [cabinetryref03_Validate.l0]
  rw [if_neg (rd_end hd)]
 | x :: r, i, hd => by
  obtain ⟨hlt, hx, hr'⟩ := rd46_drop hd
  have ih := refVal_go pg fs rs hf hl hp hr r (i + 1) hr'
  refine Ev.step (f := fun k => (cabinetryref03_ValidateRecord.f k fs pg x.f0 x.f1).bind fun t => if t = 0 then cabinetryref03_Validate.l0 k ((i + 1 : Nat) : Int) pg fs rs else some t) (fun k => ?_) ?_
  ·simp only [cabinetryref03_Validate.l0]
   rw [if_pos (by omega), if_pos (by omega), hx, wrapL hlt (by omega)]
  ·unfold cabinetryref03_ValidateRecord.f recsV
   by_cases hlen : x.f1.length = fs.length
   ·rw [_root_.if_pos hlen]
    refine Ev.bind (Ev.if_pos (by omega) (refRec_go pg fs x hf hl hp hlen fs x.f1 0 List.drop_zero List.drop_zero)) ?_
    by_cases hh : recHolds pg fs x.f1 = true
    ·rw [_root_.if_pos hh, _root_.if_pos hh]
     exact Ev.if_pos rfl ih
    ·rw [_root_.if_neg hh, _root_.if_neg hh]
     exact Ev.if_neg (by decide) (Ev.now _)
   ·rw [_root_.if_neg hlen]
    refine Ev.bind (Ev.if_neg (by omega) (Ev.now 10)) ?_
    exact Ev.if_neg (by decide) (Ev.now _)
theorem refValidateT_is (pg : Int) (fs : List S23) (rs : List S46) (h : smallF fs) : Ev (fun k => cabinetryref03_Validate.f k pg fs rs) (tableV pg fs rs) := by
 unfold cabinetryref03_Validate.f tableV
 refine Ev.bind ((Ev.now (pageS pg)).congr (fun k => refIsPage_is pg)) ?_
 by_cases hp : pageS pg = true
 ·rw [_root_.if_pos hp]
  refine Ev.if_pos hp ?_
  have hv : Ev (fun k => cabinetryref03_ValidateFields.f k fs) (vfS fs) := refVF_is fs h
  refine Ev.bind hv ?_
  by_cases h0 : vfS fs = 0
  ·rw [_root_.if_pos h0]
   refine Ev.if_pos h0 ?_
   by_cases hr : rs.length > 300
   ·rw [_root_.if_pos hr]
    exact Ev.if_pos (by omega) (Ev.now _)
   ·rw [_root_.if_neg hr]
    obtain ⟨ha, hl, _⟩ := vfS_all h0
    exact Ev.if_neg (by omega) (refVal_go pg fs rs ha hl hp (by omega) rs 0 List.drop_zero)
  ·rw [_root_.if_neg h0]
   exact Ev.if_neg h0 (Ev.now _)
 ·rw [_root_.if_neg hp]
  exact Ev.if_neg hp (Ev.now _)
end Go.Proofs.YtldpdidlfbphcaaGreatDoor.P
end
section
namespace Go.Proofs.YtldpdidlfbphcaaGreatDoor.P
open Go.RowKit Go.Proofs.YtldpdidlfbphcaaGreatDoorW.PrintWords Go.Proofs.YtldpdidlfbphcaaGreatDoorW.PrintLast Go.Proofs.YtldpdidlfbphcaaGreatDoorW.PrintMore
attribute [local go_sem] max2_int min2_int max_two min_two max_three min_three max_four min_four
def cabinetrylaw03_over.f (k : Nat) (a0_0 : Int) (l0_1 : List (S23)) (l0_2 : List (S46)) : Option (Bool) := (cabinetryref03_Weight.f k a0_0 l0_1 l0_2).bind fun t168 => (some (decide (t168 > 2000000)))
theorem cabinetrylaw03_over.mono : ∀ a0 a1 a2 k, LeO (cabinetrylaw03_over.f k a0 a1 a2) (cabinetrylaw03_over.f (k + 1) a0 a1 a2) := by
 intro a0 a1 a2 k
 unfold cabinetrylaw03_over.f
 repeat' first
   | (with_reducible exact cabinetryref03_Weight.mono _ _ _ _)
   | (with_reducible exact LeO.refl _)
   | (with_reducible exact LeO.none _)
   | (with_reducible refine LeO.ite ?_ ?_)
   | (with_reducible refine LeO.bind ?_ (fun _ => ?_))
set_option maxHeartbeats 8000000 in
set_option maxRecDepth 100000 in
theorem cabinetrylaw03_over.calls (k : Nat) (a0_0 : Int) (A0_1 : Option Addr) (c0_1 : Nat) (l0_1 : List (S23)) (A0_2 : Option Addr) (c0_2 : Nat) (l0_2 : List (S46)) (r : Bool) (w : World) (hr0_1 : Kd.C k23 w A0_1 l0_1.length l0_1) (hc0_1 : l0_1.length ≤ c0_1) (hr0_2 : Kd.C k46 w A0_2 l0_2.length l0_2) (hc0_2 : l0_2.length ≤ c0_2) (h : cabinetrylaw03_over.f k a0_0 l0_1 l0_2 = some r) :
  Calls Tryz.prog 16 #[.agg #[.int .i64 a0_0, .slice A0_1 l0_1.length c0_1, .slice A0_2 l0_2.length c0_2]] w fun e w' => e = .returned (.bool r) ∧ Below w.heap.size w w' := by
 have hu35 := Tryz.underlying35
 have HR0_1 := Z0 hr0_1
 have HC0_1 := Z0 hc0_1
 clear hr0_1 hc0_1
 have HR0_2 := Z0 hr0_2
 have HC0_2 := Z0 hc0_2
 clear hr0_2 hc0_2
 have HB := Z0 (Below.refl w.heap.size w)
 have H : ((cabinetryref03_Weight.f k a0_0 l0_1 l0_2).bind fun t168 => (some (decide (t168 > 2000000)))) = some r := h
 clear h
 replace H := Option.bind_eq_some_iff.mp H
 obtain ⟨t168, A20, H⟩ := H
 replace H : (some (decide (t168 > 2000000))) = some r := H
 have A2 := Z0 A20
 clear A20
 obtain rfl := Option.some.inj H
 go_enter Tryz.func16, Tryz.ntmps16
 go_wp2_with (first | ((with_reducible refine Y1 (N := 1) rfl ?_); refine bx (N := 1) (cs := #[.int .i64 a0_0, .slice A0_1 l0_1.length c0_1, .slice A0_2 l0_2.length c0_2]) (t := 35) ?_; intro gb167 hg w3 hbox hb; have BK167 := Z0 (hbox); have GE167 := Z0 ((by rw [hg]; exact (Z9 HB.out) : w.heap.size ≤ gb167)); replace HB := Z0 (Z4 HB.out hb); clear hb hbox hg; obtain ⟨hcz4_0, hcz4_1, hcz4_2⟩ := bc3 BK167.out; obtain ⟨hfz4_0, hfz4_1, hfz4_2⟩ := bf3 BK167.out) | ((with_reducible refine Y2 (f := 24) rfl ?_); refine goesL_ (some 4) rfl rfl Tryz.func24 (by kernel_rfl) rfl #[.agg #[.int .i64 a0_0, .slice A0_1 l0_1.length c0_1, .slice A0_2 l0_2.length c0_2]] rfl V1 ?_; (with_reducible refine (cabinetryref03_Weight.calls k a0_0 _ _ l0_1 _ _ l0_2 t168 _ ?side1 ?side2 ?side3 ?side4 A2.out).mono ?_); (case side1 => repeat (first | exact (Kd.C_below HR0_1.out HB.out) | (with_reducible refine Kd.C_alloc ?_ _) | (with_reducible refine Kd.C_drewN ?_ _) | (with_reducible refine Kd.C_drew ?_))); (case side2 => exact HC0_1.out); (case side3 => repeat (first | exact (Kd.C_below HR0_2.out HB.out) | (with_reducible refine Kd.C_alloc ?_ _) | (with_reducible refine Kd.C_drewN ?_ _) | (with_reducible refine Kd.C_drew ?_))); (case side4 => exact HC0_2.out); rintro e w5 ⟨rfl, hb⟩; refine ⟨_, rfl, ?_⟩; replace BK167 := Z0 (Z5 BK167.out hb); replace HB := Z0 (Z4 HB.out hb); (try clear hb); (try clear hb2); (try clear hk); (try clear hi)))
 go_ret
 exact ⟨rfl, V0⟩
def cabinetryref01_SameInts.l0 : Nat → List Int → List Int → Int → Option (Bool)
 | 0, _, _, _ => none
 | k + 1, x0, x1, x5 => if x5 < (x0.length : Int) then (if 0 ≤ x5 then (if x5 < (x1.length : Int) then (if (rd x0 x5) = (rd x1 x5) then (cabinetryref01_SameInts.l0 k x0 x1 (wrap64 (x5 + 1))) else (some false)) else (none)) else (none)) else (some true)
def cabinetryref01_SameInts.f (k : Nat) (l0 : List Int) (l1 : List Int) : Option (Bool) := if (l0.length : Int) = (l1.length : Int) then (cabinetryref01_SameInts.l0 k l0 l1 0) else (some false)
theorem cabinetryref01_SameInts.mono_l : ∀ k, (∀ y0 y1 y2, LeO (cabinetryref01_SameInts.l0 k y0 y1 y2) (cabinetryref01_SameInts.l0 (k + 1) y0 y1 y2))
 | 0 => fun _ _ _ r h => by simp [cabinetryref01_SameInts.l0] at h
 | k + 1 => by
  have ih0 := cabinetryref01_SameInts.mono_l k
  ·intro y0 y1 y2
   unfold cabinetryref01_SameInts.l0
   repeat' first
   | (with_reducible exact ih0 _ _ _)
   | (with_reducible exact LeO.refl _)
   | (with_reducible exact LeO.none _)
   | (with_reducible refine LeO.ite ?_ ?_)
   | (with_reducible refine LeO.bind ?_ (fun _ => ?_))
theorem cabinetryref01_SameInts.mono : ∀ a0 a1 k, LeO (cabinetryref01_SameInts.f k a0 a1) (cabinetryref01_SameInts.f (k + 1) a0 a1) := by
 intro a0 a1 k
 have ih0 := cabinetryref01_SameInts.mono_l k
 unfold cabinetryref01_SameInts.f
 repeat' first
   | (with_reducible exact ih0 _ _ _)
   | (with_reducible exact LeO.refl _)
   | (with_reducible exact LeO.none _)
   | (with_reducible refine LeO.ite ?_ ?_)
   | (with_reducible refine LeO.bind ?_ (fun _ => ?_))
set_option maxHeartbeats 8000000 in
set_option maxRecDepth 100000 in
theorem cabinetryref01_SameInts.calls (k : Nat) (A0 : Option Addr) (c0 : Nat) (l0 : List Int) (A1 : Option Addr) (c1 : Nat) (l1 : List Int) (r : Bool) (w : World) (hr0 : Kd.C (Kd.int .i64) w A0 l0.length l0) (hc0 : l0.length ≤ c0) (hr1 : Kd.C (Kd.int .i64) w A1 l1.length l1) (hc1 : l1.length ≤ c1) (h : cabinetryref01_SameInts.f k l0 l1 = some r) :
  Calls Tryz.prog 38 #[.slice A0 l0.length c0, .slice A1 l1.length c1] w fun e w' => e = .returned (.bool r) ∧ Drawn0 w w' := by
 have HR0 := Z0 hr0
 have HC0 := Z0 hc0
 clear hr0 hc0
 have HR1 := Z0 hr1
 have HC1 := Z0 hc1
 clear hr1 hc1
 have H : (if (l0.length : Int) = (l1.length : Int) then (cabinetryref01_SameInts.l0 k l0 l1 0) else (some false)) = some r := h
 clear h
 by_cases c3 : (l0.length : Int) = (l1.length : Int)
 ·rw [if_pos c3] at H
  have c3b0 : ((l0.length : Int) == (l1.length : Int)) = true := beq_iff_eq.mpr c3
  have c3b1 : ((l0.length : Int) != (l1.length : Int)) = false := bne_eq_false_iff_eq.mpr c3
  have c3b2 : (l0.length == l1.length) = true := by first | simpa using c3 | (simp at c3 ⊢; omega)
  clear c3
  have H' := Z0 H
  clear H
  go_enter Tryz.func38, Tryz.ntmps38
  go_wp2
  repeat (go_quiet (fail); try go_wp2)
  go_loopg [5] k (fun kq v5 w' => ∃ (x5_1 : Int), v5 = .int .i64 x5_1 ∧ Aside0 (cabinetryref01_SameInts.l0 kq l0 l1 x5_1 = some r) ∧ Aside0 (kq ≤ k) ∧ Drawn0 w w')
  case atStart => exact ⟨(0), V2, H', ⟨Nat.le_refl _⟩, by repeat (first | exact Y7 _ | apply Y6)⟩
  case round =>
   clear H'
   (try clear c1);(try clear p2);(try clear c3);(try clear c3b0);(try clear c3b1);(try clear c3b2)
   obtain ⟨x5_1, rfl, HA, HK1, ⟨m1, rfl⟩⟩ := hrel
   cases gk with
   | zero => exact absurd HA.out (by simp [cabinetryref01_SameInts.l0])
   | succ k1 =>
    have H := HA.out
    clear HA
    simp only [cabinetryref01_SameInts.l0] at H
    by_cases c4 : x5_1 < (l0.length : Int)
    ·rw [if_pos c4] at H
     have c4b0 : decide (x5_1 < (l0.length : Int)) = true := decide_eq_true c4
     clear c4
     by_cases c5 : 0 ≤ x5_1
     ·rw [if_pos c5] at H
      have c5b0 : decide (0 ≤ x5_1) = true := decide_eq_true c5
      clear c5
      by_cases c6 : x5_1 < (l1.length : Int)
      ·rw [if_pos c6] at H
       have c6b0 : decide (x5_1 < (l1.length : Int)) = true := decide_eq_true c6
       clear c6
       by_cases c7 : (rd l0 x5_1) = (rd l1 x5_1)
       ·rw [if_pos c7] at H
        have c7b0 : ((rd l0 x5_1) == (rd l1 x5_1)) = true := beq_iff_eq.mpr c7
        have c7b1 : ((rd l0 x5_1) != (rd l1 x5_1)) = false := bne_eq_false_iff_eq.mpr c7
        clear c7
        have H' := Z0 H
        clear H
        have p379 : 0 ≤ (x5_1 : Int) := of_decide_eq_true V3
        have q379 : x5_1 < (l0.length : Int) := of_decide_eq_true V3
        obtain ⟨ad379, e379, hx379_0⟩ := Kd.at_int HR0.out x5_1 p379 q379
        cases e379
        replace p379 := eq_true p379
        replace q379 := eq_true q379
        have p380 : 0 ≤ (x5_1 : Int) := of_decide_eq_true V3
        have q380 : x5_1 < (l1.length : Int) := of_decide_eq_true V3
        obtain ⟨ad380, e380, hx380_0⟩ := Kd.at_int HR1.out x5_1 p380 q380
        cases e380
        replace p380 := eq_true p380
        replace q380 := eq_true q380
        go_wp2
        repeat (go_quiet (fail); try go_wp2)
        go_roundg k1
        case measure => have := HK1.out; omega
        case rel => exact ⟨(wrap64 (x5_1 + 1)), V2, H', ⟨by have := HK1.out; omega⟩, by repeat (first | exact Y7 _ | apply Y6)⟩
       ·rw [if_neg c7] at H
        have c7b0 : ((rd l0 x5_1) == (rd l1 x5_1)) = false := beq_eq_false_iff_ne.mpr c7
        have c7b1 : ((rd l0 x5_1) != (rd l1 x5_1)) = true := bne_iff_ne.mpr c7
        obtain rfl := Option.some.inj H
        have p379 : 0 ≤ (x5_1 : Int) := of_decide_eq_true V3
        have q379 : x5_1 < (l0.length : Int) := of_decide_eq_true V3
        obtain ⟨ad379, e379, hx379_0⟩ := Kd.at_int HR0.out x5_1 p379 q379
        cases e379
        replace p379 := eq_true p379
        replace q379 := eq_true q379
        have p380 : 0 ≤ (x5_1 : Int) := of_decide_eq_true V3
        have q380 : x5_1 < (l1.length : Int) := of_decide_eq_true V3
        obtain ⟨ad380, e380, hx380_0⟩ := Kd.at_int HR1.out x5_1 p380 q380
        cases e380
        replace p380 := eq_true p380
        replace q380 := eq_true q380
        go_wp2
        repeat (go_quiet (fail); try go_wp2)
        go_ret
        exact ⟨V2, by repeat (first | exact Y7 _ | apply Y6)⟩
      ·rw [if_neg c6] at H
       exact absurd H (by simp)
     ·rw [if_neg c5] at H
      exact absurd H (by simp)
    ·rw [if_neg c4] at H
     have c4b0 : decide (x5_1 < (l0.length : Int)) = false := decide_eq_false c4
     clear c4
     obtain rfl := Option.some.inj H
     go_wp2
     repeat (go_quiet (fail); try go_wp2)
     go_ret
     exact ⟨V2, by repeat (first | exact Y7 _ | apply Y6)⟩
 ·rw [if_neg c3] at H
  have c3b0 : ((l0.length : Int) == (l1.length : Int)) = false := beq_eq_false_iff_ne.mpr c3
  have c3b1 : ((l0.length : Int) != (l1.length : Int)) = true := bne_iff_ne.mpr c3
  have c3b2 : (l0.length == l1.length) = false := by first | simpa using c3 | (simp at c3 ⊢; omega)
  obtain rfl := Option.some.inj H
  go_enter Tryz.func38, Tryz.ntmps38
  go_wp2
  repeat (go_quiet (fail); try go_wp2)
  go_ret
  exact ⟨V2, by repeat (first | exact Y7 _ | apply Y6)⟩
theorem eqA23 (d : Nat) (w : World) (x0 y0 : ByteArray) (x1 y1 : Int) (x2 y2 : Int) (x3 y3 : Bool) :
  (Op.equalIn (d + 2) 23 (.agg #[.string x0, .int .i64 x1, .int .i64 x2, .bool x3]) (.agg #[.string y0, .int .i64 y1, .int .i64 y2, .bool y3])).run Tryz.prog w = .ok (x0.toList == y0.toList && (x1 == y1 && (x2 == y2 && (x3 == y3)))) w := by
 refine eqA_of Tryz.underlying23 (by kernel_rfl) ?_
 refine eqf_cons (by rfl) (by go_simp; rfl) (by go_simp; rfl) (by go_simp) ?_
 refine eqf_cons (by rfl) (by go_simp; rfl) (by go_simp; rfl) (by go_simp) ?_
 refine eqf_cons (by rfl) (by go_simp; rfl) (by go_simp; rfl) (by go_simp) ?_
 exact eqf_last (by rfl) (by go_simp; rfl) (by go_simp; rfl) (by go_simp)
end Go.Proofs.YtldpdidlfbphcaaGreatDoor.P
end
section
namespace Go.Proofs.YtldpdidlfbphcaaGreatDoor.P
open Go.RowKit Go.Proofs.YtldpdidlfbphcaaGreatDoorW.PrintWords Go.Proofs.YtldpdidlfbphcaaGreatDoorW.PrintLast Go.Proofs.YtldpdidlfbphcaaGreatDoorW.PrintMore
attribute [local go_sem] max2_int min2_int max_two min_two max_three min_three max_four min_four
attribute [local go_sem high] eqA23
def api_Field.l0 : Nat → List (S23) → List (S23) → Int → Int → Option (Bool)
 | 0, _, _, _, _ => none
 | k + 1, x0, x1, x12, x13 => if x13 < x12 then (if 0 ≤ x13 then (if x13 < (x0.length : Int) then (if x13 < (x1.length : Int) then (if (!((((rd_T23 x0 x13).f0).toList) == (((rd_T23 x1 x13).f0).toList)) || (!(((rd_T23 x0 x13).f1) == ((rd_T23 x1 x13).f1)) || (!(((rd_T23 x0 x13).f2) == ((rd_T23 x1 x13).f2)) || (!(((rd_T23 x0 x13).f3) == ((rd_T23 x1 x13).f3)))))) = true then (some false) else (api_Field.l0 k x0 x1 x12 (wrap64 (x13 + 1)))) else (none)) else (none)) else (none)) else (some true)
def api_Field.f (k : Nat) (l0 : List (S23)) (l1 : List (S23)) : Option (Bool) := if (l0.length : Int) = (l1.length : Int) then (api_Field.l0 k l0 l1 (l0.length : Int) 0) else (some false)
theorem api_Field.mono_l : ∀ k, (∀ y0 y1 y2 y3, LeO (api_Field.l0 k y0 y1 y2 y3) (api_Field.l0 (k + 1) y0 y1 y2 y3))
 | 0 => fun _ _ _ _ r h => by simp [api_Field.l0] at h
 | k + 1 => by
  have ih0 := api_Field.mono_l k
  ·intro y0 y1 y2 y3
   unfold api_Field.l0
   repeat' first
   | (with_reducible exact ih0 _ _ _ _)
   | (with_reducible exact LeO.refl _)
   | (with_reducible exact LeO.none _)
   | (with_reducible refine LeO.ite ?_ ?_)
   | (with_reducible refine LeO.bind ?_ (fun _ => ?_))
theorem api_Field.mono : ∀ a0 a1 k, LeO (api_Field.f k a0 a1) (api_Field.f (k + 1) a0 a1) := by
 intro a0 a1 k
 have ih0 := api_Field.mono_l k
 unfold api_Field.f
 repeat' first
   | (with_reducible exact ih0 _ _ _ _)
   | (with_reducible exact LeO.refl _)
   | (with_reducible exact LeO.none _)
   | (with_reducible refine LeO.ite ?_ ?_)
   | (with_reducible refine LeO.bind ?_ (fun _ => ?_))
set_option maxHeartbeats 8000000 in
set_option maxRecDepth 100000 in
theorem api_Field.calls (k : Nat) (A0 : Option Addr) (c0 : Nat) (l0 : List (S23)) (A1 : Option Addr) (c1 : Nat) (l1 : List (S23)) (r : Bool) (w : World) (hr0 : Kd.C k23 w A0 l0.length l0) (hc0 : l0.length ≤ c0) (hr1 : Kd.C k23 w A1 l1.length l1) (hc1 : l1.length ≤ c1) (h : api_Field.f k l0 l1 = some r) :
  Calls Tryz.prog 77 #[.slice A0 l0.length c0, .slice A1 l1.length c1] w fun e w' => e = .returned (.bool r) ∧ Drawn0 w w' := by
 have hu23 := Tryz.underlying23
 have HR0 := Z0 hr0
 have HC0 := Z0 hc0
 clear hr0 hc0
 have HR1 := Z0 hr1
 have HC1 := Z0 hc1
 clear hr1 hc1
 have H : (if (l0.length : Int) = (l1.length : Int) then (api_Field.l0 k l0 l1 (l0.length : Int) 0) else (some false)) = some r := h
 clear h
 by_cases c3 : (l0.length : Int) = (l1.length : Int)
 ·rw [if_pos c3] at H
  have c3b0 : ((l0.length : Int) == (l1.length : Int)) = true := beq_iff_eq.mpr c3
  have c3b1 : ((l0.length : Int) != (l1.length : Int)) = false := bne_eq_false_iff_eq.mpr c3
  have c3b2 : (l0.length == l1.length) = true := by first | simpa using c3 | (simp at c3 ⊢; omega)
  clear c3
  have H' := Z0 H
  clear H
  go_enter Tryz.func77, Tryz.ntmps77
  go_wp2
  repeat (go_quiet (fail); try go_wp2)
  go_loopg [13] k (fun kq v13 w' => ∃ (x13_1 : Int), v13 = .int .i64 x13_1 ∧ Aside0 (api_Field.l0 kq l0 l1 (l0.length : Int) x13_1 = some r) ∧ Aside0 (kq ≤ k) ∧ Drawn0 w w')
  case atStart => exact ⟨(0), V2, H', ⟨Nat.le_refl _⟩, by repeat (first | exact Y7 _ | apply Y6)⟩
  case round =>
   clear H'
   (try clear c1);(try clear p2);(try clear c3);(try clear c3b0);(try clear c3b1);(try clear c3b2)
   obtain ⟨x13_1, rfl, HA, HK1, ⟨m1, rfl⟩⟩ := hrel
   cases gk with
   | zero => exact absurd HA.out (by simp [api_Field.l0])
   | succ k1 =>
    have H := HA.out
    clear HA
    simp only [api_Field.l0] at H
    by_cases c4 : x13_1 < (l0.length : Int)
    ·rw [if_pos c4] at H
     have c4b0 : decide (x13_1 < (l0.length : Int)) = true := decide_eq_true c4
     clear c4
     by_cases c5 : 0 ≤ x13_1
     ·rw [if_pos c5] at H
      have c5b0 : decide (0 ≤ x13_1) = true := decide_eq_true c5
      clear c5
      by_cases c6 : x13_1 < (l0.length : Int)
      ·rw [if_pos c6] at H
       have c6b0 : decide (x13_1 < (l0.length : Int)) = true := decide_eq_true c6
       clear c6
       by_cases c7 : x13_1 < (l1.length : Int)
       ·rw [if_pos c7] at H
        have c7b0 : decide (x13_1 < (l1.length : Int)) = true := decide_eq_true c7
        clear c7
        by_cases c8 : (!((((rd_T23 l0 x13_1).f0).toList) == (((rd_T23 l1 x13_1).f0).toList)) || (!(((rd_T23 l0 x13_1).f1) == ((rd_T23 l1 x13_1).f1)) || (!(((rd_T23 l0 x13_1).f2) == ((rd_T23 l1 x13_1).f2)) || (!(((rd_T23 l0 x13_1).f3) == ((rd_T23 l1 x13_1).f3)))))) = true
        ·rw [if_pos c8] at H
         have c8b0 : (!((((rd_T23 l0 x13_1).f0).toList) == (((rd_T23 l1 x13_1).f0).toList)) || (!(((rd_T23 l0 x13_1).f1) == ((rd_T23 l1 x13_1).f1)) || (!(((rd_T23 l0 x13_1).f2) == ((rd_T23 l1 x13_1).f2)) || (!(((rd_T23 l0 x13_1).f3) == ((rd_T23 l1 x13_1).f3)))))) = true := c8
         clear c8
         obtain rfl := Option.some.inj H
         have p402 : 0 ≤ (x13_1 : Int) := of_decide_eq_true V3
         have q402 : x13_1 < (l0.length : Int) := of_decide_eq_true V3
         obtain ⟨ad402, e402, hx402_0, hx402_1, hx402_2, hx402_3⟩ := at_T23 HR0.out x13_1 p402 q402
         cases e402
         replace p402 := eq_true p402
         replace q402 := eq_true q402
         have p403 : 0 ≤ (x13_1 : Int) := of_decide_eq_true V3
         have q403 : x13_1 < (l1.length : Int) := of_decide_eq_true V3
         obtain ⟨ad403, e403, hx403_0, hx403_1, hx403_2, hx403_3⟩ := at_T23 HR1.out x13_1 p403 q403
         cases e403
         replace p403 := eq_true p403
         replace q403 := eq_true q403
         go_wp2
         repeat (go_quiet (fail); try go_wp2)
         go_ret
         exact ⟨V2, by repeat (first | exact Y7 _ | apply Y6)⟩
        ·rw [if_neg c8] at H
         have c8b0 : (!((((rd_T23 l0 x13_1).f0).toList) == (((rd_T23 l1 x13_1).f0).toList)) || (!(((rd_T23 l0 x13_1).f1) == ((rd_T23 l1 x13_1).f1)) || (!(((rd_T23 l0 x13_1).f2) == ((rd_T23 l1 x13_1).f2)) || (!(((rd_T23 l0 x13_1).f3) == ((rd_T23 l1 x13_1).f3)))))) = false := by simpa using c8
         clear c8
         have H' := Z0 H
         clear H
         have p402 : 0 ≤ (x13_1 : Int) := of_decide_eq_true V3
         have q402 : x13_1 < (l0.length : Int) := of_decide_eq_true V3
         obtain ⟨ad402, e402, hx402_0, hx402_1, hx402_2, hx402_3⟩ := at_T23 HR0.out x13_1 p402 q402
         cases e402
         replace p402 := eq_true p402
         replace q402 := eq_true q402
         have p403 : 0 ≤ (x13_1 : Int) := of_decide_eq_true V3
         have q403 : x13_1 < (l1.length : Int) := of_decide_eq_true V3
         obtain ⟨ad403, e403, hx403_0, hx403_1, hx403_2, hx403_3⟩ := at_T23 HR1.out x13_1 p403 q403
         cases e403
         replace p403 := eq_true p403
         replace q403 := eq_true q403
         go_wp2
         repeat (go_quiet (fail); try go_wp2)
         go_roundg k1
         case measure => have := HK1.out; omega
         case rel => exact ⟨(wrap64 (x13_1 + 1)), V2, H', ⟨by have := HK1.out; omega⟩, by repeat (first | exact Y7 _ | apply Y6)⟩
       ·rw [if_neg c7] at H
        exact absurd H (by simp)
      ·rw [if_neg c6] at H
       exact absurd H (by simp)
     ·rw [if_neg c5] at H
      exact absurd H (by simp)
    ·rw [if_neg c4] at H
     have c4b0 : decide (x13_1 < (l0.length : Int)) = false := decide_eq_false c4
     clear c4
     obtain rfl := Option.some.inj H
     go_wp2
     repeat (go_quiet (fail); try go_wp2)
     go_ret
     exact ⟨V2, by repeat (first | exact Y7 _ | apply Y6)⟩
 ·rw [if_neg c3] at H
  have c3b0 : ((l0.length : Int) == (l1.length : Int)) = false := beq_eq_false_iff_ne.mpr c3
  have c3b1 : ((l0.length : Int) != (l1.length : Int)) = true := bne_iff_ne.mpr c3
  have c3b2 : (l0.length == l1.length) = false := by first | simpa using c3 | (simp at c3 ⊢; omega)
  obtain rfl := Option.some.inj H
  go_enter Tryz.func77, Tryz.ntmps77
  go_wp2
  repeat (go_quiet (fail); try go_wp2)
  go_ret
  exact ⟨V2, by repeat (first | exact Y7 _ | apply Y6)⟩
end Go.Proofs.YtldpdidlfbphcaaGreatDoor.P
end
section
namespace Go.Proofs.YtldpdidlfbphcaaGreatDoor.P
open Go.RowKit Go.Proofs.YtldpdidlfbphcaaGreatDoorW.PrintWords Go.Proofs.YtldpdidlfbphcaaGreatDoorW.PrintLast Go.Proofs.YtldpdidlfbphcaaGreatDoorW.PrintMore
attribute [local go_sem] max2_int min2_int max_two min_two max_three min_three max_four min_four
attribute [local go_sem high] eqA25
def api_Value.l0 : Nat → List (S25) → List (S25) → Int → Int → Option (Bool)
 | 0, _, _, _, _ => none
 | k + 1, x0, x1, x12, x13 => if x13 < x12 then (if 0 ≤ x13 then (if x13 < (x0.length : Int) then (if x13 < (x1.length : Int) then (if (!(((rd_T25 x0 x13).f0) == ((rd_T25 x1 x13).f0)) || (!(((rd_T25 x0 x13).f1) == ((rd_T25 x1 x13).f1)) || (!((((rd_T25 x0 x13).f2).toList) == (((rd_T25 x1 x13).f2).toList))))) = true then (some false) else (api_Value.l0 k x0 x1 x12 (wrap64 (x13 + 1)))) else (none)) else (none)) else (none)) else (some true)
def api_Value.f (k : Nat) (l0 : List (S25)) (l1 : List (S25)) : Option (Bool) := if (l0.length : Int) = (l1.length : Int) then (api_Value.l0 k l0 l1 (l0.length : Int) 0) else (some false)
theorem api_Value.mono_l : ∀ k, (∀ y0 y1 y2 y3, LeO (api_Value.l0 k y0 y1 y2 y3) (api_Value.l0 (k + 1) y0 y1 y2 y3))
 | 0 => fun _ _ _ _ r h => by simp [api_Value.l0] at h
 | k + 1 => by
  have ih0 := api_Value.mono_l k
  ·intro y0 y1 y2 y3
   unfold api_Value.l0
   repeat' first
   | (with_reducible exact ih0 _ _ _ _)
   | (with_reducible exact LeO.refl _)
   | (with_reducible exact LeO.none _)
   | (with_reducible refine LeO.ite ?_ ?_)
   | (with_reducible refine LeO.bind ?_ (fun _ => ?_))
theorem api_Value.mono : ∀ a0 a1 k, LeO (api_Value.f k a0 a1) (api_Value.f (k + 1) a0 a1) := by
 intro a0 a1 k
 have ih0 := api_Value.mono_l k
 unfold api_Value.f
 repeat' first
   | (with_reducible exact ih0 _ _ _ _)
   | (with_reducible exact LeO.refl _)
   | (with_reducible exact LeO.none _)
   | (with_reducible refine LeO.ite ?_ ?_)
   | (with_reducible refine LeO.bind ?_ (fun _ => ?_))
set_option maxHeartbeats 8000000 in
set_option maxRecDepth 100000 in
theorem api_Value.calls (k : Nat) (A0 : Option Addr) (c0 : Nat) (l0 : List (S25)) (A1 : Option Addr) (c1 : Nat) (l1 : List (S25)) (r : Bool) (w : World) (hr0 : Kd.C k25 w A0 l0.length l0) (hc0 : l0.length ≤ c0) (hr1 : Kd.C k25 w A1 l1.length l1) (hc1 : l1.length ≤ c1) (h : api_Value.f k l0 l1 = some r) :
  Calls Tryz.prog 78 #[.slice A0 l0.length c0, .slice A1 l1.length c1] w fun e w' => e = .returned (.bool r) ∧ Drawn0 w w' := by
 have hu25 := Tryz.underlying25
 have HR0 := Z0 hr0
 have HC0 := Z0 hc0
 clear hr0 hc0
 have HR1 := Z0 hr1
 have HC1 := Z0 hc1
 clear hr1 hc1
 have H : (if (l0.length : Int) = (l1.length : Int) then (api_Value.l0 k l0 l1 (l0.length : Int) 0) else (some false)) = some r := h
 clear h
 by_cases c3 : (l0.length : Int) = (l1.length : Int)
 ·rw [if_pos c3] at H
  have c3b0 : ((l0.length : Int) == (l1.length : Int)) = true := beq_iff_eq.mpr c3
  have c3b1 : ((l0.length : Int) != (l1.length : Int)) = false := bne_eq_false_iff_eq.mpr c3
  have c3b2 : (l0.length == l1.length) = true := by first | simpa using c3 | (simp at c3 ⊢; omega)
  clear c3
  have H' := Z0 H
  clear H
  go_enter Tryz.func78, Tryz.ntmps78
  go_wp2
  repeat (go_quiet (fail); try go_wp2)
  go_loopg [13] k (fun kq v13 w' => ∃ (x13_1 : Int), v13 = .int .i64 x13_1 ∧ Aside0 (api_Value.l0 kq l0 l1 (l0.length : Int) x13_1 = some r) ∧ Aside0 (kq ≤ k) ∧ Drawn0 w w')
  case atStart => exact ⟨(0), V2, H', ⟨Nat.le_refl _⟩, by repeat (first | exact Y7 _ | apply Y6)⟩
  case round =>
   clear H'
   (try clear c1);(try clear p2);(try clear c3);(try clear c3b0);(try clear c3b1);(try clear c3b2)
   obtain ⟨x13_1, rfl, HA, HK1, ⟨m1, rfl⟩⟩ := hrel
   cases gk with
   | zero => exact absurd HA.out (by simp [api_Value.l0])
   | succ k1 =>
    have H := HA.out
    clear HA
    simp only [api_Value.l0] at H
    by_cases c4 : x13_1 < (l0.length : Int)
    ·rw [if_pos c4] at H
     have c4b0 : decide (x13_1 < (l0.length : Int)) = true := decide_eq_true c4
     clear c4
     by_cases c5 : 0 ≤ x13_1
     ·rw [if_pos c5] at H
      have c5b0 : decide (0 ≤ x13_1) = true := decide_eq_true c5
      clear c5
      by_cases c6 : x13_1 < (l0.length : Int)
      ·rw [if_pos c6] at H
       have c6b0 : decide (x13_1 < (l0.length : Int)) = true := decide_eq_true c6
       clear c6
       by_cases c7 : x13_1 < (l1.length : Int)
       ·rw [if_pos c7] at H
        have c7b0 : decide (x13_1 < (l1.length : Int)) = true := decide_eq_true c7
        clear c7
        by_cases c8 : (!(((rd_T25 l0 x13_1).f0) == ((rd_T25 l1 x13_1).f0)) || (!(((rd_T25 l0 x13_1).f1) == ((rd_T25 l1 x13_1).f1)) || (!((((rd_T25 l0 x13_1).f2).toList) == (((rd_T25 l1 x13_1).f2).toList))))) = true
        ·rw [if_pos c8] at H
         have c8b0 : (!(((rd_T25 l0 x13_1).f0) == ((rd_T25 l1 x13_1).f0)) || (!(((rd_T25 l0 x13_1).f1) == ((rd_T25 l1 x13_1).f1)) || (!((((rd_T25 l0 x13_1).f2).toList) == (((rd_T25 l1 x13_1).f2).toList))))) = true := c8
         clear c8
         obtain rfl := Option.some.inj H
         have p404 : 0 ≤ (x13_1 : Int) := of_decide_eq_true V3
         have q404 : x13_1 < (l0.length : Int) := of_decide_eq_true V3
         obtain ⟨ad404, e404, hx404_0, hx404_1, hx404_2⟩ := at_T25 HR0.out x13_1 p404 q404
         cases e404
         replace p404 := eq_true p404
         replace q404 := eq_true q404
         have p405 : 0 ≤ (x13_1 : Int) := of_decide_eq_true V3
         have q405 : x13_1 < (l1.length : Int) := of_decide_eq_true V3
         obtain ⟨ad405, e405, hx405_0, hx405_1, hx405_2⟩ := at_T25 HR1.out x13_1 p405 q405
         cases e405
         replace p405 := eq_true p405
         replace q405 := eq_true q405
         go_wp2
         repeat (go_quiet (fail); try go_wp2)
         go_ret
         exact ⟨V2, by repeat (first | exact Y7 _ | apply Y6)⟩
        ·rw [if_neg c8] at H
         have c8b0 : (!(((rd_T25 l0 x13_1).f0) == ((rd_T25 l1 x13_1).f0)) || (!(((rd_T25 l0 x13_1).f1) == ((rd_T25 l1 x13_1).f1)) || (!((((rd_T25 l0 x13_1).f2).toList) == (((rd_T25 l1 x13_1).f2).toList))))) = false := by simpa using c8
         clear c8
         have H' := Z0 H
         clear H
         have p404 : 0 ≤ (x13_1 : Int) := of_decide_eq_true V3
         have q404 : x13_1 < (l0.length : Int) := of_decide_eq_true V3
         obtain ⟨ad404, e404, hx404_0, hx404_1, hx404_2⟩ := at_T25 HR0.out x13_1 p404 q404
         cases e404
         replace p404 := eq_true p404
         replace q404 := eq_true q404
         have p405 : 0 ≤ (x13_1 : Int) := of_decide_eq_true V3
         have q405 : x13_1 < (l1.length : Int) := of_decide_eq_true V3
         obtain ⟨ad405, e405, hx405_0, hx405_1, hx405_2⟩ := at_T25 HR1.out x13_1 p405 q405
         cases e405
         replace p405 := eq_true p405
         replace q405 := eq_true q405
         go_wp2
         repeat (go_quiet (fail); try go_wp2)
         go_roundg k1
         case measure => have := HK1.out; omega
         case rel => exact ⟨(wrap64 (x13_1 + 1)), V2, H', ⟨by have := HK1.out; omega⟩, by repeat (first | exact Y7 _ | apply Y6)⟩
       ·rw [if_neg c7] at H
        exact absurd H (by simp)
      ·rw [if_neg c6] at H
       exact absurd H (by simp)
     ·rw [if_neg c5] at H
      exact absurd H (by simp)
    ·rw [if_neg c4] at H
     have c4b0 : decide (x13_1 < (l0.length : Int)) = false := decide_eq_false c4
     clear c4
     obtain rfl := Option.some.inj H
     go_wp2
     repeat (go_quiet (fail); try go_wp2)
     go_ret
     exact ⟨V2, by repeat (first | exact Y7 _ | apply Y6)⟩
 ·rw [if_neg c3] at H
  have c3b0 : ((l0.length : Int) == (l1.length : Int)) = false := beq_eq_false_iff_ne.mpr c3
  have c3b1 : ((l0.length : Int) != (l1.length : Int)) = true := bne_iff_ne.mpr c3
  have c3b2 : (l0.length == l1.length) = false := by first | simpa using c3 | (simp at c3 ⊢; omega)
  obtain rfl := Option.some.inj H
  go_enter Tryz.func78, Tryz.ntmps78
  go_wp2
  repeat (go_quiet (fail); try go_wp2)
  go_ret
  exact ⟨V2, by repeat (first | exact Y7 _ | apply Y6)⟩
end Go.Proofs.YtldpdidlfbphcaaGreatDoor.P
end
