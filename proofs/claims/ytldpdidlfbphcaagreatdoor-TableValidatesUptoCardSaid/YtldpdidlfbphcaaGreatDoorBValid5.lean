/- Part 5 of this proof: what the last part leans on. -/
import Derived.Test.YtldpdidlfbphcaaGreatDoorBValid4
import Derived.Lib.BufferWrite
set_option linter.unusedVariables false
set_option linter.unusedSimpArgs false
section
namespace Go.Proofs.YtldpdidlfbphcaaGreatDoor.P
open Go.RowKit Go.Proofs.YtldpdidlfbphcaaGreatDoorW.PrintWords Go.Proofs.YtldpdidlfbphcaaGreatDoorW.PrintLast Go.Proofs.YtldpdidlfbphcaaGreatDoorW.PrintMore
def holdsS (f : S23) (pg : Int) (v : S25) : Bool :=
 if v.f0 = 0 then f.f3 && (decide (v.f1 = 0) && decide (v.f2.size = 0))
 else decide (valS v.f0 v.f1 v.f2 = 0) && (decide (v.f0 = emptyK f.f1) &&
  (if f.f1 = 4 then decide ((v.f2.size : Int) ≤ f.f2) && (decide (blanksOff v.f2 = v.f2) && onS pg v.f2)
   else if f.f1 = 2 then decide (((decL v.f1).length : Int) ≤ f.f2)
   else if f.f1 = 5 then decide (0 ≤ v.f1 ∧ v.f1 ≤ 99999999) else true))
theorem text_wd {s : ByteArray} {wd : Int} (hf : fieldS s 4 wd = true) : 1 ≤ wd ∧ wd ≤ 254 := by
 unfold fieldS at hf
 simp [kindLo, kindHi, kindFound] at hf
 exact ⟨hf.2.1, hf.2.2⟩
theorem fit_holds (f : S23) (pg : Int) (v : S25) (hf : fS f = true) (hp : pageS pg = true) (h0 : v.f0 ≠ 0) (hv : valS v.f0 v.f1 v.f2 = 0) :
  (decide ((fitS f.f0 f.f1 f.f2 f.f3 pg v.f0 v.f1 v.f2).2.2.2 = 0) && ((fitS f.f0 f.f1 f.f2 f.f3 pg v.f0 v.f1 v.f2).1 == v.f0 && ((fitS f.f0 f.f1 f.f2 f.f3 pg v.f0 v.f1 v.f2).2.1 == v.f1 && ((fitS f.f0 f.f1 f.f2 f.f3 pg v.f0 v.f1 v.f2).2.2.1.toList == v.f2.toList)))) = holdsS f pg v := by
 rw [fitS_T f.f0 f.f1 f.f2 f.f3 pg v.f0 v.f1 v.f2 hf hp hv]
 unfold fitT holdsS
 rw [if_neg h0, if_neg h0, hv]
 by_cases he : v.f0 = emptyK f.f1
 ·rw [if_neg (by simpa using he)]
  by_cases h4 : f.f1 = 4
  ·rw [if_pos h4, if_pos h4]
   have hw := text_wd (s := f.f0) (wd := f.f2) (by have := hf; unfold fS at this; rw [h4] at this; exact this)
   have hv4 : v.f0 = 4 := by rw [he, h4]; rfl
   obtain ⟨u, hu⟩ : ∃ u, blanksOff (v.f2.extract 0 (min v.f2.size f.f2.toNat)) = u := ⟨_, rfl⟩
   rw [hu]
   have key : (u.toList = v.f2.toList) ↔ ((v.f2.size : Int) ≤ f.f2 ∧ blanksOff v.f2 = v.f2) := by
    constructor
    ·intro h
     have e : u = v.f2 := by
      apply ByteArray.ext
      apply Array.ext'
      rw [ba_toList, ba_toList] at h
      exact h
     have h1 : u.size ≤ f.f2.toNat := by
      rw [← hu]
      refine Nat.le_trans (blanks_size _) ?_
      rw [ByteArray.size_extract]
      omega
     rw [e] at h1
     refine ⟨by omega, ?_⟩
     rw [extract_all v.f2 f.f2.toNat h1] at hu
     rw [hu, e]
    ·rintro ⟨h1, h2⟩
     rw [extract_all v.f2 f.f2.toNat (by omega), h2] at hu
     rw [← hu]
   by_cases hk : u.toList = v.f2.toList
   ·have h12 := key.1 hk
    have e : u = v.f2 := by
     apply ByteArray.ext
     apply Array.ext'
     rw [ba_toList, ba_toList] at hk
     exact hk
    rw [e]
    by_cases ho : onS pg v.f2 = true
    ·rw [if_pos ho]; simp [ho, h12.1, h12.2, he]
    ·rw [if_neg ho]; simp [ho]
   ·have hn : ¬ ((v.f2.size : Int) ≤ f.f2 ∧ blanksOff v.f2 = v.f2) := fun h => hk (key.2 h)
    have hr : (decide ((v.f2.size : Int) ≤ f.f2) && (decide (blanksOff v.f2 = v.f2) && onS pg v.f2)) = false := by
     by_cases a : (v.f2.size : Int) ≤ f.f2
     ·have b : ¬ blanksOff v.f2 = v.f2 := fun b => hn ⟨a, b⟩
      simp [b]
     ·simp [a]
    rw [hr]
    by_cases ho : onS pg u = true
    ·rw [if_pos ho]; simp [hk]
    ·rw [if_neg ho]; simp
  ·rw [if_neg h4, if_neg h4]
   by_cases h2 : f.f1 = 2
   ·rw [if_pos h2, if_pos h2]
    by_cases a : ((decL v.f1).length : Int) ≤ f.f2
    ·rw [if_pos a]; simp [a, he]
    ·rw [if_neg a]; simp [a]
   ·rw [if_neg h2, if_neg h2]
    by_cases h5 : f.f1 = 5
    ·rw [if_pos h5, if_pos h5]
     by_cases a : 0 ≤ v.f1 ∧ v.f1 ≤ 99999999
     ·rw [if_pos a]; simp [a, he]
     ·rw [if_neg a]; simp only [decide_eq_false a]; simp
    ·rw [if_neg h5, if_neg h5]; simp [he]
 ·rw [if_pos (by simpa using he)]
  simp [he]
theorem holds_is (f : S23) (pg : Int) (v : S25) (k : Nat) (hf : fS f = true) (hp : pageS pg = true) (hk : 0 < k) : table_holds.f k f.f0 f.f1 f.f2 f.f3 pg v.f0 v.f1 v.f2 = some (holdsS f pg v) := by
 obtain ⟨m, rfl⟩ : ∃ m, k = m + 1 := ⟨k - 1, by omega⟩
 unfold table_holds.f
 by_cases h0 : v.f0 = 0
 ·rw [if_pos h0]
  unfold holdsS
  rw [if_pos h0]
  by_cases hn : f.f3 = true
  ·rw [if_pos hn, hn]
   congr 1
   have e : (v.f2.toList == ([] : List UInt8)) = decide (v.f2.size = 0) := by
    rw [Bool.eq_iff_iff, beq_iff_eq, ba_nil, decide_eq_true_eq]
   have e1 : (v.f1 == 0) = decide (v.f1 = 0) := by by_cases h : v.f1 = 0 <;> simp [h]
   have e0 : (v.f0 == 0) = true := by simp [h0]
   rw [e, e1, e0]
  ·rw [if_neg hn]; simp [hn]
 ·rw [if_neg h0, valS_is]
  simp only [Option.bind_some]
  by_cases hv : valS v.f0 v.f1 v.f2 = 0
  ·rw [if_pos hv, ← fit_holds f pg v hf hp h0 hv]
   simp only [table_Fit.f, Option.bind_some]
   by_cases he : (fitS f.f0 f.f1 f.f2 f.f3 pg v.f0 v.f1 v.f2).2.2.2 = 0
   ·rw [if_pos he]; simp [he]
   ·rw [if_neg he]; simp [he]
  ·rw [if_neg hv]
   unfold holdsS
   rw [if_neg h0]
   simp [hv]
theorem fits_holds (f : S23) (pg : Int) (v : S25) (hf : fS f = true) (hp : pageS pg = true) : Ev (fun k => cabinetryref03_fits.f k f.f0 f.f1 f.f2 f.f3 pg v.f0 v.f1 v.f2) (holdsS f pg v) := by
 have hkf : kindFound f.f1 = true := by unfold fS fieldS at hf; simp at hf; exact hf.2.1
 by_cases hv : valS v.f0 v.f1 v.f2 = 0
 ·by_cases h0 : v.f0 = 0
  ·refine (Ev.now _).congr (fun k => ?_)
   unfold cabinetryref03_fits.f holdsS
   rw [refValidate_is, hv]
   simp only [Option.bind_some, if_true]
   rw [if_pos h0, if_pos h0]
   have hz : v.f1 = 0 ∧ v.f2.size = 0 := by
    unfold valS at hv
    split at hv
    ·omega
    ·split at hv
     ·rename_i hok
      rw [h0] at hok
      unfold valOK at hok
      rw [if_neg (by decide), if_pos rfl, Bool.and_eq_true, decide_eq_true_eq, decide_eq_true_eq] at hok
      exact ⟨hok.2, hok.1⟩
     ·omega
   simp [hz.1, hz.2]
  ·by_cases he : v.f0 = emptyK f.f1
   ·by_cases h4 : f.f1 = 4
    ·have hv4 : v.f0 = 4 := by rw [he, h4]; rfl
     have hw := text_wd (s := f.f0) (wd := f.f2) (by have := hf; unfold fS at this; rw [h4] at this; exact this)
     have hsz : v.f2.size ≤ 2048 := by
      unfold valS at hv
      split at hv
      ·omega
      ·omega
     refine Ev.from 3000 (fun k hk => ?_)
     obtain ⟨m, rfl⟩ : ∃ m, k = m + 1 := ⟨k - 1, by omega⟩
     unfold cabinetryref03_fits.f holdsS
     rw [refValidate_is, hv]
     simp only [Option.bind_some, if_true]
     rw [if_neg h0, if_neg h0, if_neg (by omega : ¬ f.f1 = 5), if_pos (by rw [hv4, h4]), if_neg (by omega : ¬ f.f1 = 2), if_pos h4, if_pos h4]
     by_cases a : (v.f2.size : Int) ≤ f.f2
     ·rw [if_pos a, bare_is v.f2 _ (by omega) (by omega)]
      simp only [Option.bind_some]
      by_cases b : blanksOff v.f2 = v.f2
      ·rw [if_pos (by rw [b]), written_is v.f2 pg _ (by omega) hp (by omega)]
       simp only [Option.bind_some, cabinetryref03_fits.j0]
       simp [a, b, he]
      ·rw [if_neg (fun h => b (by
        apply ByteArray.ext
        apply Array.ext'
        rw [ba_toList, ba_toList] at h
        exact h))]
       simp only [cabinetryref03_fits.j0]
       simp [b]
     ·rw [if_neg a]
      simp only [cabinetryref03_fits.j0]
      simp [a]
    ·refine (fits_is f.f0 f.f1 f.f2 f.f3 pg v.f0 v.f1 v.f2 hv h0 h4 he hkf).congr (fun k => rfl) |> fun h => ?_
     have e : holdsS f pg v = (if f.f1 = 2 then decide (((decL v.f1).length : Int) ≤ f.f2) else if f.f1 = 5 then decide (0 ≤ v.f1 ∧ v.f1 ≤ 99999999) else true) := by
      unfold holdsS
      rw [if_neg h0, hv, if_neg h4]
      simp [he]
     rw [e]
     exact h
   ·refine (Ev.now _).congr (fun k => ?_)
    unfold cabinetryref03_fits.f holdsS
    rw [refValidate_is, hv]
    simp only [Option.bind_some, if_true]
    rw [if_neg h0, if_neg h0]
    by_cases h5 : f.f1 = 5
    ·rw [if_pos h5, if_neg (by unfold emptyK at he; rw [if_pos h5] at he; exact he)]
     simp [he]
    ·rw [if_neg h5, if_neg (by unfold emptyK at he; rw [if_neg h5] at he; exact he)]
     simp [he]
 ·refine (Ev.now _).congr (fun k => ?_)
  unfold cabinetryref03_fits.f holdsS
  rw [refValidate_is]
  simp only [Option.bind_some]
  rw [if_neg hv]
  by_cases h0 : v.f0 = 0
  ·rw [if_pos h0]
   by_cases hz : v.f1 = 0 ∧ v.f2.size = 0
   ·exfalso
    apply hv
    unfold valS valOK
    rw [h0, hz.1, hz.2]
    rfl
   ·congr 1
    symm
    by_cases a : v.f1 = 0
    ·have b : ¬ v.f2.size = 0 := fun b => hz ⟨a, b⟩
     simp [b]
    ·simp [a]
  ·rw [if_neg h0]; simp [hv]
def recHolds (pg : Int) : List S23 → List S25 → Bool
 | [], _ => true
 | _ :: _, [] => true
 | f :: fs, v :: vs => holdsS f pg v && recHolds pg fs vs
def recsV (fs : List S23) (pg : Int) : List S46 → Int
 | [] => 0
 | r :: rs => if r.f1.length = fs.length then (if recHolds pg fs r.f1 = true then recsV fs pg rs else 1) else 10
def tableV (pg : Int) (fs : List S23) (rs : List S46) : Int := if pageS pg = true then (if vfS fs = 0 then (if rs.length > 300 then 3 else recsV fs pg rs) else vfS fs) else 1
theorem vfS_all {l : List S23} (h : vfS l = 0) : l.all fS = true ∧ l.length ≤ 16 ∧ lenS l ≤ 2000 := by
 unfold vfS at h
 split at h
 ·omega
 ·split at h
  ·omega
  ·rename_i hf
   split at h
   ·omega
   ·split at h
    ·omega
    ·split at h
     ·omega
     ·exact ⟨by simpa using hf, by omega, by omega⟩
theorem rd46_drop {l : List S46} {i : Nat} {x : S46} {r : List S46} (h : l.drop i = x :: r) : i < l.length ∧ rd_T46 l (i : Int) = x ∧ l.drop (i + 1) = r := by
 have hl : i < l.length := by
  rcases Nat.lt_or_ge i l.length with h1 | h1
  ·exact h1
  ·rw [List.drop_eq_nil_of_le h1] at h; cases h
 have e := List.drop_eq_getElem_cons hl
 rw [h] at e
 injection e with e1 e2
 refine ⟨hl, ?_, e2.symm⟩
 unfold rd_T46
 rw [Int.toNat_natCast, List.getD_eq_getElem?_getD, List.getElem?_eq_getElem hl, Option.getD_some, e1]
theorem rd25_drop {l : List S25} {i : Nat} {x : S25} {r : List S25} (h : l.drop i = x :: r) : i < l.length ∧ rd_T25 l (i : Int) = x ∧ l.drop (i + 1) = r := by
 have hl : i < l.length := by
  rcases Nat.lt_or_ge i l.length with h1 | h1
  ·exact h1
  ·rw [List.drop_eq_nil_of_le h1] at h; cases h
 have e := List.drop_eq_getElem_cons hl
 rw [h] at e
 injection e with e1 e2
 refine ⟨hl, ?_, e2.symm⟩
 unfold rd_T25
 rw [Int.toNat_natCast, List.getD_eq_getElem?_getD, List.getElem?_eq_getElem hl, Option.getD_some, e1]
theorem validate_go (pg : Int) (fs : List S23) (rs : List S46) (hf : fs.all fS = true) (hl : fs.length ≤ 16) (hp : pageS pg = true) (hr : rs.length ≤ 300) : ∀ (r : List S46) (i k : Nat), rs.drop i = r → 20 * r.length + 2 < k → table_Validate.l0 k rs (rs.length : Int) (i : Int) pg fs rs = some (recsV fs pg r)
 | [], i, k, hd, hk => by
  obtain ⟨m, rfl⟩ : ∃ m, k = m + 1 := ⟨k - 1, by omega⟩
  simp only [table_Validate.l0]
  rw [if_neg (rd_end hd)]
  rfl
 | x :: r, i, k, hd, hk => by
  obtain ⟨m, rfl⟩ : ∃ m, k = m + 1 := ⟨k - 1, by omega⟩
  obtain ⟨hlt, hx, hr'⟩ := rd46_drop hd
  rw [List.length_cons, Nat.mul_succ] at hk
  simp only [table_Validate.l0]
  rw [if_pos (by omega), if_pos (by omega), if_pos (by omega), hx]
  unfold recsV
  by_cases hlen : x.f1.length = fs.length
  ·rw [if_pos (by omega), if_pos hlen]
   have inner : ∀ (n : Nat) (q : List S23) (u : List S25) (j k2 : Nat), q.length = n → fs.drop j = q → x.f1.drop j = u → 20 * r.length + 3 + n < k2 → table_Validate.l1 k2 rs (rs.length : Int) (i : Int) fs (fs.length : Int) (j : Int) pg fs rs x.f0 x.f1 = some (if recHolds pg q u = true then recsV fs pg r else 1) := by
    intro n
    induction n with
    | zero =>
     intro q u j k2 hq hdq hdu hk2
     obtain rfl : q = [] := List.eq_nil_of_length_eq_zero hq
     obtain ⟨m2, rfl⟩ : ∃ m2, k2 = m2 + 1 := ⟨k2 - 1, by omega⟩
     simp only [table_Validate.l1]
     rw [if_neg (rd_end hdq), wrapL hlt (by omega)]
     rw [show recHolds pg [] u = true from rfl, if_pos rfl]
     exact validate_go pg fs rs hf hl hp hr r (i + 1) m2 hr' (by omega)
    | succ n ih =>
     intro q u j k2 hq hdq hdu hk2
     obtain ⟨f, q', rfl⟩ : ∃ f q', q = f :: q' := by
      cases q with
      | nil => simp at hq
      | cons f q' => exact ⟨f, q', rfl⟩
     obtain ⟨m2, rfl⟩ : ∃ m2, k2 = m2 + 1 := ⟨k2 - 1, by omega⟩
     obtain ⟨hj, hfj, hdq', _⟩ := rd_drop hdq
     obtain ⟨v, u', rfl⟩ : ∃ v u', u = v :: u' := by
      cases u with
      | nil => exfalso; have := List.drop_eq_nil_iff.1 hdu; omega
      | cons v u' => exact ⟨v, u', rfl⟩
     obtain ⟨hj2, hvj, hdu'⟩ := rd25_drop hdu
     have hm : f ∈ fs := by rw [← List.take_append_drop j fs, hdq]; simp
     have hff := List.all_eq_true.1 hf _ hm
     simp only [table_Validate.l1]
     rw [if_pos (by omega), if_pos (by omega), if_pos (by omega), if_pos (by omega), hfj, hvj, holds_is f pg v m2 hff hp (by omega), wrapL hj (by omega)]
     simp only [Option.bind_some]
     show _ = some (if (holdsS f pg v && recHolds pg q' u') = true then recsV fs pg r else 1)
     by_cases hh : holdsS f pg v = true
     ·rw [if_pos hh, hh, Bool.true_and]
      exact ih q' u' (j + 1) m2 (by simpa using hq) hdq' hdu' (by omega)
     ·rw [if_neg hh]; simp [hh]
   exact inner fs.length fs x.f1 0 m rfl List.drop_zero List.drop_zero (by omega)
  ·rw [if_neg (by omega), if_neg hlen]
theorem validate_is (pg : Int) (fs : List S23) (rs : List S46) (hL : fs.length ≤ 1048576) (k : Nat) (hk : 7000 < k) : table_Validate.f k pg fs rs = some (tableV pg fs rs) := by
 unfold table_Validate.f tableV
 rw [isPage_is]
 simp only [Option.bind_some]
 by_cases hp : pageS pg = true
 ·rw [if_pos hp, if_pos hp]
  have hv : table_ValidateFields.f fs = some (vfS fs) := by unfold table_ValidateFields.f; rw [if_pos (by omega)]
  rw [hv]
  simp only [Option.bind_some]
  by_cases h0 : vfS fs = 0
  ·rw [if_pos h0, if_pos h0]
   by_cases hr : rs.length > 300
   ·rw [if_pos (by omega), if_pos hr]
   ·rw [if_neg (by omega), if_neg hr]
    obtain ⟨ha, hl, _⟩ := vfS_all h0
    exact validate_go pg fs rs ha hl hp (by omega) rs 0 k List.drop_zero (by omega)
  ·rw [if_neg h0, if_neg h0]
 ·rw [if_neg hp, if_neg hp]
theorem refRec_go (pg : Int) (fs : List S23) (x : S46) (hf : fs.all fS = true) (hl : fs.length ≤ 16) (hp : pageS pg = true) (hlen : x.f1.length = fs.length) : ∀ (q : List S23) (u : List S25) (j : Nat), fs.drop j = q → x.f1.drop j = u → Ev (fun k => cabinetryref03_ValidateRecord.l0 k fs pg (j : Int) x.f0 x.f1) (if recHolds pg q u = true then 0 else 1)
 | [], u, j, hdq, hdu => by
  refine Ev.step (f := fun _ => some 0) (fun k => ?_) (Ev.now _)
  simp only [cabinetryref03_ValidateRecord.l0]
  rw [if_neg (rd_end hdq)]
 | f :: q, [], j, hdq, hdu => by
  exfalso
  obtain ⟨hj, _⟩ := rd_drop hdq
  have := List.drop_eq_nil_iff.1 hdu
  omega
 | f :: q, v :: u, j, hdq, hdu => by
  obtain ⟨hj, hfj, hdq', _⟩ := rd_drop hdq
  obtain ⟨hj2, hvj, hdu'⟩ := rd25_drop hdu
  have hm : f ∈ fs := by rw [← List.take_append_drop j fs, hdq]; simp
  have hff := List.all_eq_true.1 hf _ hm
  have ih := refRec_go pg fs x hf hl hp hlen q u (j + 1) hdq' hdu'
  refine Ev.step (f := fun k => (cabinetryref03_fits.f k f.f0 f.f1 f.f2 f.f3 pg v.f0 v.f1 v.f2).bind fun t => if t = true then cabinetryref03_ValidateRecord.l0 k fs pg ((j + 1 : Nat) : Int) x.f0 x.f1 else some 1) (fun k => ?_) ?_
  ·simp only [cabinetryref03_ValidateRecord.l0]
   rw [if_pos (by omega), if_pos (by omega), if_pos (by omega), hfj, hvj, wrapL hj (by omega)]
  ·refine Ev.bind (fits_holds f pg v hff hp) ?_
   show Ev _ (if (holdsS f pg v && recHolds pg q u) = true then 0 else 1)
   by_cases hh : holdsS f pg v = true
   ·rw [hh, Bool.true_and]
    exact Ev.if_pos rfl ih
   ·have hh' : holdsS f pg v = false := by simpa using hh
    rw [hh', Bool.false_and]
    exact Ev.if_neg (by decide) (Ev.now _)
theorem refVal_go (pg : Int) (fs : List S23) (rs : List S46) (hf : fs.all fS = true) (hl : fs.length ≤ 16) (hp : pageS pg = true) (hr : rs.length ≤ 300) : ∀ (r : List S46) (i : Nat), rs.drop i = r → Ev (fun k => cabinetryref03_Validate.l0 k (i : Int) pg fs rs) (recsV fs pg r)
 | [], i, hd => by
  refine Ev.step (f := fun _ => some 0) (fun k => ?_) (Ev.now _)
  simp only [cabinetryref03_Validate.l0]
  rw [if_neg (rd_end hd)]
 | x :: r, i, hd => by
  obtain ⟨hlt, hx, hr'⟩ := rd46_drop hd
  have ih := refVal_go pg fs rs hf hl hp hr r (i + 1) hr'
  refine Ev.step (f := fun k => (cabinetryref03_ValidateRecord.f k fs pg x.f0 x.f1).bind fun t => if t = 0 then cabinetryref03_Validate.l0 k ((i + 1 : Nat) : Int) pg fs rs else some t) (fun k => ?_) ?_
  ·simp only [cabinetryref03_Validate.l0]
   rw [if_pos (by omega), if_pos (by omega), hx, wrapL hlt (by omega)]
  ·unfold cabinetryref03_ValidateRecord.f recsV
   by_cases hlen : x.f1.length = fs.length
   ·rw [_root_.if_pos hlen]
    refine Ev.bind (Ev.if_pos (by omega) (refRec_go pg fs x hf hl hp hlen fs x.f1 0 List.drop_zero List.drop_zero)) ?_
    by_cases hh : recHolds pg fs x.f1 = true
    ·rw [_root_.if_pos hh, _root_.if_pos hh]
     exact Ev.if_pos rfl ih
    ·rw [_root_.if_neg hh, _root_.if_neg hh]
     exact Ev.if_neg (by decide) (Ev.now _)
   ·rw [_root_.if_neg hlen]
    refine Ev.bind (Ev.if_neg (by omega) (Ev.now 10)) ?_
    exact Ev.if_neg (by decide) (Ev.now _)
theorem refValidateT_is (pg : Int) (fs : List S23) (rs : List S46) (h : smallF fs) : Ev (fun k => cabinetryref03_Validate.f k pg fs rs) (tableV pg fs rs) := by
 unfold cabinetryref03_Validate.f tableV
 refine Ev.bind ((Ev.now (pageS pg)).congr (fun k => refIsPage_is pg)) ?_
 by_cases hp : pageS pg = true
 ·rw [_root_.if_pos hp]
  refine Ev.if_pos hp ?_
  have hv : Ev (fun k => cabinetryref03_ValidateFields.f k fs) (vfS fs) := refVF_is fs h
  refine Ev.bind hv ?_
  by_cases h0 : vfS fs = 0
  ·rw [_root_.if_pos h0]
   refine Ev.if_pos h0 ?_
   by_cases hr : rs.length > 300
   ·rw [_root_.if_pos hr]
    exact Ev.if_pos (by omega) (Ev.now _)
   ·rw [_root_.if_neg hr]
    obtain ⟨ha, hl, _⟩ := vfS_all h0
    exact Ev.if_neg (by omega) (refVal_go pg fs rs ha hl hp (by omega) rs 0 List.drop_zero)
  ·rw [_root_.if_neg h0]
   exact Ev.if_neg h0 (Ev.now _)
 ·rw [_root_.if_neg hp]
  exact Ev.if_neg hp (Ev.now _)
end Go.Proofs.YtldpdidlfbphcaaGreatDoor.P
end
section
namespace Go.Proofs.YtldpdidlfbphcaaGreatDoor.P
open Go.RowKit Go.Proofs.YtldpdidlfbphcaaGreatDoorW.PrintWords Go.Proofs.YtldpdidlfbphcaaGreatDoorW.PrintLast Go.Proofs.YtldpdidlfbphcaaGreatDoorW.PrintMore
attribute [local go_sem] max2_int min2_int max_two min_two max_three min_three max_four min_four
def cabinetrylaw03_over.f (k : Nat) (a0_0 : Int) (l0_1 : List (S23)) (l0_2 : List (S46)) : Option (Bool) := (cabinetryref03_Weight.f k a0_0 l0_1 l0_2).bind fun t168 => (some (decide (t168 > 2000000)))
theorem cabinetrylaw03_over.mono : ∀ a0 a1 a2 k, LeO (cabinetrylaw03_over.f k a0 a1 a2) (cabinetrylaw03_over.f (k + 1) a0 a1 a2) := by
 intro a0 a1 a2 k
 unfold cabinetrylaw03_over.f
 repeat' first
   | (with_reducible exact cabinetryref03_Weight.mono _ _ _ _)
   | (with_reducible exact LeO.refl _)
   | (with_reducible exact Y5 _)
   | (with_reducible refine Y7 ?_ ?_)
   | (with_reducible refine Y6 ?_ (fun _ => ?_))
   | exact cabinetryref03_Weight.mono _ _ _ _
   | exact Y5 _
   | refine Y7 ?_ ?_
   | refine Y6 ?_ (fun _ => ?_)
set_option maxHeartbeats 8000000 in
set_option maxRecDepth 100000 in
theorem cabinetrylaw03_over.calls (k : Nat) (a0_0 : Int) (A0_1 : Option Addr) (c0_1 : Nat) (l0_1 : List (S23)) (A0_2 : Option Addr) (c0_2 : Nat) (l0_2 : List (S46)) (r : Bool) (w : World) (hr0_1 : Kd.C k23 w A0_1 l0_1.length l0_1) (hc0_1 : l0_1.length ≤ c0_1) (hr0_2 : Kd.C k46 w A0_2 l0_2.length l0_2) (hc0_2 : l0_2.length ≤ c0_2) (h : cabinetrylaw03_over.f k a0_0 l0_1 l0_2 = some r) :
  Calls Tryz.prog 16 #[.agg #[.int .i64 a0_0, .slice A0_1 l0_1.length c0_1, .slice A0_2 l0_2.length c0_2]] w fun e w' => e = .returned (.bool r) ∧ Below w.heap.size w w' := by
 have hu35 := Tryz.underlying35
 have HR0_1 := Z0 hr0_1
 have HC0_1 := Z0 hc0_1
 clear hr0_1 hc0_1
 have HR0_2 := Z0 hr0_2
 have HC0_2 := Z0 hc0_2
 clear hr0_2 hc0_2
 have HB := Z0 (Below.refl w.heap.size w)
 have H : ((cabinetryref03_Weight.f k a0_0 l0_1 l0_2).bind fun t168 => (some (decide (t168 > 2000000)))) = some r := h
 clear h
 replace H := Option.bind_eq_some_iff.mp H
 obtain ⟨t168, A20, H⟩ := H
 replace H : (some (decide (t168 > 2000000))) = some r := H
 have A2 := Z0 A20
 clear A20
 obtain rfl := Option.some.inj H
 go_enter Tryz.func16, Tryz.ntmps16
 go_wp2_with (first | ((with_reducible refine Y4 (N := 1) rfl ?_); refine Y2 ?hg (N := 1) ?hd (cs := #[.int .i64 a0_0, .slice A0_1 l0_1.length c0_1, .slice A0_2 l0_2.length c0_2]) (t := 35) ?hr ?_; (case hd => rfl); (case hg => rfl); (case hr => go_simp; try rfl); intro gb167 hg w3 hbox hb; have n0_ := Z0 (Z6 HB.out hb); have n1_ := Z0 (hbox); have n3_ := Z0 ((by rw [hg]; exact (Y0 HB.out) : w.heap.size ≤ gb167)); clear HB; have HB := n0_; have BK167 := n1_; have GE167 := n3_; clear n0_ n1_ n3_; clear hb hbox hg; have hcz4_0 : w3.cell? ⟨gb167, 0, none⟩ = some (.int .i64 a0_0) := (Z2 BK167.out 0).trans rfl; have hcz4_1 : w3.cell? ⟨gb167, 1, none⟩ = some (.slice A0_1 l0_1.length c0_1) := (Z2 BK167.out 1).trans rfl; have hcz4_2 : w3.cell? ⟨gb167, 2, none⟩ = some (.slice A0_2 l0_2.length c0_2) := (Z2 BK167.out 2).trans rfl; have hfz4_0 := Z1 BK167.out 0; have hfz4_1 := Z1 BK167.out 1; have hfz4_2 := Z1 BK167.out 2) | ((with_reducible refine Y3 (f := 24) rfl ?_); refine goesL_ (some 4) rfl rfl Tryz.func24 (by kernel_rfl) rfl #[.agg #[.int .i64 a0_0, .slice A0_1 l0_1.length c0_1, .slice A0_2 l0_2.length c0_2]] rfl V1 ?_; (with_reducible refine (cabinetryref03_Weight.calls k a0_0 _ _ l0_1 _ _ l0_2 t168 _ ?side1 ?side2 ?side3 ?side4 A2.out).mono ?_); (case side1 => repeat (first | exact (Kd.C_below HR0_1.out HB.out) | (with_reducible refine Kd.C_alloc ?_ _) | (with_reducible refine Kd.C_drewN ?_ _) | (with_reducible refine Kd.C_drew ?_))); (case side2 => exact HC0_1.out); (case side3 => repeat (first | exact (Kd.C_below HR0_2.out HB.out) | (with_reducible refine Kd.C_alloc ?_ _) | (with_reducible refine Kd.C_drewN ?_ _) | (with_reducible refine Kd.C_drew ?_))); (case side4 => exact HC0_2.out); rintro e w5 ⟨rfl, hb⟩; refine ⟨_, rfl, ?_⟩; have n0_ := Z0 (Z7 (g := gb167) (o := .cells #[.int .i64 a0_0, .slice A0_1 l0_1.length c0_1, .slice A0_2 l0_2.length c0_2] 35 (0, 0)) BK167.out hb); have n1_ := Z0 (Z6 HB.out hb); clear BK167; clear HB; have BK167 := n0_; have HB := n1_; clear n0_ n1_; (try clear hb); (try clear hb2); (try clear hk); (try clear hi)))
 go_ret
 exact ⟨rfl, V0⟩
def table_Length.f (k : Nat) (l0 : List (S23)) : Option (Int × Int) := (table_ValidateFields.f l0).bind fun t362 => (if t362 = 0 then ((table_length.f k l0).bind fun t363 => (some (t363, 0))) else (some (0, t362)))
theorem table_Length.mono : ∀ a0 k, LeO (table_Length.f k a0) (table_Length.f (k + 1) a0) := by
 intro a0 k
 unfold table_Length.f
 repeat' first
   | (with_reducible exact table_length.mono _ _)
   | (with_reducible exact LeO.refl _)
   | (with_reducible exact Y5 _)
   | (with_reducible refine Y7 ?_ ?_)
   | (with_reducible refine Y6 ?_ (fun _ => ?_))
   | exact table_length.mono _ _
   | exact Y5 _
   | refine Y7 ?_ ?_
   | refine Y6 ?_ (fun _ => ?_)
set_option maxHeartbeats 8000000 in
set_option maxRecDepth 100000 in
theorem table_Length.calls (k : Nat) (A0 : Option Addr) (c0 : Nat) (l0 : List (S23)) (r1 : Int) (r2 : Int) (w : World) (hr0 : Kd.C k23 w A0 l0.length l0) (hc0 : l0.length ≤ c0) (h : table_Length.f k l0 = some (r1, r2)) :
  Calls Tryz.prog 30 #[.slice A0 l0.length c0] w fun e w' => e = .returned (.tuple #[.int .i64 r1, .int .i64 r2]) ∧ Below w.heap.size w w' := by
 have HR0 := Z0 hr0
 have HC0 := Z0 hc0
 clear hr0 hc0
 have HB := Z0 (Below.refl w.heap.size w)
 have H : ((table_ValidateFields.f l0).bind fun t362 => (if t362 = 0 then ((table_length.f k l0).bind fun t363 => (some (t363, 0))) else (some (0, t362)))) = some (r1, r2) := h
 clear h
 replace H := Option.bind_eq_some_iff.mp H
 obtain ⟨t362, A20, H⟩ := H
 replace H : (if t362 = 0 then ((table_length.f k l0).bind fun t363 => (some (t363, 0))) else (some (0, t362))) = some (r1, r2) := H
 have A2 := Z0 A20
 clear A20
 by_cases c3 : t362 = 0
 ·rw [if_pos c3] at H
  have c3b0 : (t362 == 0) = true := beq_iff_eq.mpr c3
  have c3b1 : (t362 != 0) = false := bne_eq_false_iff_eq.mpr c3
  clear c3
  replace H := Option.bind_eq_some_iff.mp H
  obtain ⟨t363, A40, H⟩ := H
  replace H : (some (t363, 0)) = some (r1, r2) := H
  have A4 := Z0 A40
  clear A40
  simp only [Option.some.injEq, Prod.mk.injEq] at H
  obtain ⟨rfl, rfl⟩ := H
  go_enter Tryz.func30, Tryz.ntmps30
  go_wp2_with (first | ((with_reducible refine Y3 (f := 36) rfl ?_); refine goesL_ (some 6) rfl rfl Tryz.func36 (by kernel_rfl) rfl #[.slice A0 l0.length c0] rfl V1 ?_; (with_reducible refine (table_ValidateFields.calls _ _ l0 t362 _ ?side1 ?side2 A2.out).mono ?_); (case side1 => repeat (first | exact HR0.out | (with_reducible refine Kd.C_alloc ?_ _) | (with_reducible refine Kd.C_drewN ?_ _) | (with_reducible refine Kd.C_drew ?_))); (case side2 => exact HC0.out); rintro e w5 ⟨rfl, hb⟩; refine ⟨_, rfl, ?_⟩; have n0_ := Z0 (Z6 HB.out hb); clear HB; have HB := n0_; clear n0_; (try clear hb); (try clear hb2); (try clear hk); (try clear hi)) | ((with_reducible refine Y3 (f := 69) rfl ?_); refine goesL_ (some 11) rfl rfl Tryz.func69 (by kernel_rfl) rfl #[.slice A0 l0.length c0] rfl V1 ?_; (with_reducible refine (table_length.calls k _ _ l0 t363 _ ?side1 ?side2 A4.out).mono ?_); (case side1 => repeat (first | exact (Kd.C_below HR0.out HB.out) | (with_reducible refine Kd.C_alloc ?_ _) | (with_reducible refine Kd.C_drewN ?_ _) | (with_reducible refine Kd.C_drew ?_))); (case side2 => exact HC0.out); rintro e w6 ⟨rfl, hb⟩; refine ⟨_, rfl, ?_⟩; have n0_ := Z0 (Z6 HB.out hb); clear HB; have HB := n0_; clear n0_; (try clear hb); (try clear hb2); (try clear hk); (try clear hi)))
  go_ret2
  exact ⟨rfl, V0⟩
 ·rw [if_neg c3] at H
  have c3b0 : (t362 == 0) = false := beq_eq_false_iff_ne.mpr c3
  have c3b1 : (t362 != 0) = true := bne_iff_ne.mpr c3
  simp only [Option.some.injEq, Prod.mk.injEq] at H
  obtain ⟨rfl, rfl⟩ := H
  go_enter Tryz.func30, Tryz.ntmps30
  go_wp2_with (first | ((with_reducible refine Y3 (f := 36) rfl ?_); refine goesL_ (some 6) rfl rfl Tryz.func36 (by kernel_rfl) rfl #[.slice A0 l0.length c0] rfl V1 ?_; (with_reducible refine (table_ValidateFields.calls _ _ l0 t362 _ ?side1 ?side2 A2.out).mono ?_); (case side1 => repeat (first | exact HR0.out | (with_reducible refine Kd.C_alloc ?_ _) | (with_reducible refine Kd.C_drewN ?_ _) | (with_reducible refine Kd.C_drew ?_))); (case side2 => exact HC0.out); rintro e w7 ⟨rfl, hb⟩; refine ⟨_, rfl, ?_⟩; have n0_ := Z0 (Z6 HB.out hb); clear HB; have HB := n0_; clear n0_; (try clear hb); (try clear hb2); (try clear hk); (try clear hi)))
  go_ret2
  exact ⟨rfl, V0⟩
def cabinetryref03_Length.f (k : Nat) (l0 : List (S23)) : Option (Int × Int) := (cabinetryref03_ValidateFields.f k l0).bind fun t364 => (if t364 = 0 then ((cabinetryref03_Wide.f k l0).bind fun t365 => (some (t365, 0))) else (some (0, t364)))
theorem cabinetryref03_Length.mono : ∀ a0 k, LeO (cabinetryref03_Length.f k a0) (cabinetryref03_Length.f (k + 1) a0) := by
 intro a0 k
 unfold cabinetryref03_Length.f
 repeat' first
   | (with_reducible exact cabinetryref03_ValidateFields.mono _ _)
   | (with_reducible exact cabinetryref03_Wide.mono _ _)
   | (with_reducible exact LeO.refl _)
   | (with_reducible exact Y5 _)
   | (with_reducible refine Y7 ?_ ?_)
   | (with_reducible refine Y6 ?_ (fun _ => ?_))
   | exact cabinetryref03_ValidateFields.mono _ _
   | exact cabinetryref03_Wide.mono _ _
   | exact Y5 _
   | refine Y7 ?_ ?_
   | refine Y6 ?_ (fun _ => ?_)
set_option maxHeartbeats 8000000 in
set_option maxRecDepth 100000 in
theorem cabinetryref03_Length.calls (k : Nat) (A0 : Option Addr) (c0 : Nat) (l0 : List (S23)) (r1 : Int) (r2 : Int) (w : World) (hr0 : Kd.C k23 w A0 l0.length l0) (hc0 : l0.length ≤ c0) (h : cabinetryref03_Length.f k l0 = some (r1, r2)) :
  Calls Tryz.prog 31 #[.slice A0 l0.length c0] w fun e w' => e = .returned (.tuple #[.int .i64 r1, .int .i64 r2]) ∧ Below w.heap.size w w' := by
 have HR0 := Z0 hr0
 have HC0 := Z0 hc0
 clear hr0 hc0
 have HB := Z0 (Below.refl w.heap.size w)
 have H : ((cabinetryref03_ValidateFields.f k l0).bind fun t364 => (if t364 = 0 then ((cabinetryref03_Wide.f k l0).bind fun t365 => (some (t365, 0))) else (some (0, t364)))) = some (r1, r2) := h
 clear h
 replace H := Option.bind_eq_some_iff.mp H
 obtain ⟨t364, A20, H⟩ := H
 replace H : (if t364 = 0 then ((cabinetryref03_Wide.f k l0).bind fun t365 => (some (t365, 0))) else (some (0, t364))) = some (r1, r2) := H
 have A2 := Z0 A20
 clear A20
 by_cases c3 : t364 = 0
 ·rw [if_pos c3] at H
  have c3b0 : (t364 == 0) = true := beq_iff_eq.mpr c3
  have c3b1 : (t364 != 0) = false := bne_eq_false_iff_eq.mpr c3
  clear c3
  replace H := Option.bind_eq_some_iff.mp H
  obtain ⟨t365, A40, H⟩ := H
  replace H : (some (t365, 0)) = some (r1, r2) := H
  have A4 := Z0 A40
  clear A40
  simp only [Option.some.injEq, Prod.mk.injEq] at H
  obtain ⟨rfl, rfl⟩ := H
  go_enter Tryz.func31, Tryz.ntmps31
  go_wp2_with (first | ((with_reducible refine Y3 (f := 37) rfl ?_); refine goesL_ (some 6) rfl rfl Tryz.func37 (by kernel_rfl) rfl #[.slice A0 l0.length c0] rfl V1 ?_; (with_reducible refine (cabinetryref03_ValidateFields.calls k _ _ l0 t364 _ ?side1 ?side2 A2.out).mono ?_); (case side1 => repeat (first | exact HR0.out | (with_reducible refine Kd.C_alloc ?_ _) | (with_reducible refine Kd.C_drewN ?_ _) | (with_reducible refine Kd.C_drew ?_))); (case side2 => exact HC0.out); rintro e w5 ⟨rfl, hb⟩; refine ⟨_, rfl, ?_⟩; have n0_ := Z0 (Z6 HB.out hb); clear HB; have HB := n0_; clear n0_; (try clear hb); (try clear hb2); (try clear hk); (try clear hi)) | ((with_reducible refine Y3 (f := 70) rfl ?_); refine goesL_ (some 11) rfl rfl Tryz.func70 (by kernel_rfl) rfl #[.slice A0 l0.length c0] rfl V1 ?_; (with_reducible refine (cabinetryref03_Wide.calls k _ _ l0 t365 _ ?side1 ?side2 A4.out).mono ?_); (case side1 => repeat (first | exact (Kd.C_below HR0.out HB.out) | (with_reducible refine Kd.C_alloc ?_ _) | (with_reducible refine Kd.C_drewN ?_ _) | (with_reducible refine Kd.C_drew ?_))); (case side2 => exact HC0.out); rintro e w' ⟨rfl, ⟨nd, rfl⟩⟩; refine ⟨_, rfl, ?_⟩))
  go_ret2
  exact ⟨rfl, V0⟩
 ·rw [if_neg c3] at H
  have c3b0 : (t364 == 0) = false := beq_eq_false_iff_ne.mpr c3
  have c3b1 : (t364 != 0) = true := bne_iff_ne.mpr c3
  simp only [Option.some.injEq, Prod.mk.injEq] at H
  obtain ⟨rfl, rfl⟩ := H
  go_enter Tryz.func31, Tryz.ntmps31
  go_wp2_with (first | ((with_reducible refine Y3 (f := 37) rfl ?_); refine goesL_ (some 6) rfl rfl Tryz.func37 (by kernel_rfl) rfl #[.slice A0 l0.length c0] rfl V1 ?_; (with_reducible refine (cabinetryref03_ValidateFields.calls k _ _ l0 t364 _ ?side1 ?side2 A2.out).mono ?_); (case side1 => repeat (first | exact HR0.out | (with_reducible refine Kd.C_alloc ?_ _) | (with_reducible refine Kd.C_drewN ?_ _) | (with_reducible refine Kd.C_drew ?_))); (case side2 => exact HC0.out); rintro e w6 ⟨rfl, hb⟩; refine ⟨_, rfl, ?_⟩; have n0_ := Z0 (Z6 HB.out hb); clear HB; have HB := n0_; clear n0_; (try clear hb); (try clear hb2); (try clear hk); (try clear hi)))
  go_ret2
  exact ⟨rfl, V0⟩
def table_Offsets.l0 : Nat → List Int → Int → List (S23) → Int → Int → Option (List Int × Int)
 | 0, _, _, _, _, _ => none
 | k + 1, x5, x6, x17, x18, x19 => if x19 < x18 then (if 0 ≤ x19 then (if x19 < (x17.length : Int) then (if x5.length < 17592186044416 then (table_Offsets.l0 k (x5 ++ [x6]) (wrap64 (x6 + ((rd_T23 x17 x19).f2))) x17 x18 (wrap64 (x19 + 1))) else (none)) else (none)) else (none)) else (some (x5, 0))
def table_Offsets.f (k : Nat) (l0 : List (S23)) : Option (List Int × Int) := (table_ValidateFields.f l0).bind fun t366 => (if t366 = 0 then ((table_nullBytes.f k l0).bind fun t367 => (table_Offsets.l0 k ([] : List Int) (wrap64 (1 + t367)) l0 (l0.length : Int) 0)) else (some (([] : List Int), t366)))
theorem table_Offsets.mono_l : ∀ k, (∀ y0 y1 y2 y3 y4, LeO (table_Offsets.l0 k y0 y1 y2 y3 y4) (table_Offsets.l0 (k + 1) y0 y1 y2 y3 y4))
 | 0 => fun _ _ _ _ _ r h => by simp [table_Offsets.l0] at h
 | k + 1 => by
  have ih0 := table_Offsets.mono_l k
  ·intro y0 y1 y2 y3 y4
   unfold table_Offsets.l0
   repeat' first
   | (with_reducible exact ih0 _ _ _ _ _)
   | (with_reducible exact table_nullBytes.mono _ _)
   | (with_reducible exact LeO.refl _)
   | (with_reducible exact Y5 _)
   | (with_reducible refine Y7 ?_ ?_)
   | (with_reducible refine Y6 ?_ (fun _ => ?_))
   | exact ih0 _ _ _ _ _
   | exact table_nullBytes.mono _ _
   | exact Y5 _
   | refine Y7 ?_ ?_
   | refine Y6 ?_ (fun _ => ?_)
theorem table_Offsets.mono : ∀ a0 k, LeO (table_Offsets.f k a0) (table_Offsets.f (k + 1) a0) := by
 intro a0 k
 have ih0 := table_Offsets.mono_l k
 unfold table_Offsets.f
 repeat' first
   | (with_reducible exact ih0 _ _ _ _ _)
   | (with_reducible exact table_nullBytes.mono _ _)
   | (with_reducible exact LeO.refl _)
   | (with_reducible exact Y5 _)
   | (with_reducible refine Y7 ?_ ?_)
   | (with_reducible refine Y6 ?_ (fun _ => ?_))
   | exact ih0 _ _ _ _ _
   | exact table_nullBytes.mono _ _
   | exact Y5 _
   | refine Y7 ?_ ?_
   | refine Y6 ?_ (fun _ => ?_)
set_option maxHeartbeats 8000000 in
set_option maxRecDepth 100000 in
theorem table_Offsets.calls (k : Nat) (A0 : Option Addr) (c0 : Nat) (l0 : List (S23)) (r1 : List Int) (r2 : Int) (w : World) (hr0 : Kd.C k23 w A0 l0.length l0) (hc0 : l0.length ≤ c0) (h : table_Offsets.f k l0 = some (r1, r2)) :
  Calls Tryz.prog 32 #[.slice A0 l0.length c0] w fun e w' => ∃ v0_ : Value, e = .returned (.tuple #[v0_, .int .i64 r2]) ∧ Kd.R (Kd.int .i64) 3 w' w.heap.size (fun _ => True) v0_ r1 ∧ Below w.heap.size w w' := by
 have hu23 := Tryz.underlying23
 have HR0 := Z0 hr0
 have HC0 := Z0 hc0
 clear hr0 hc0
 have HB := Z0 (Below.refl w.heap.size w)
 have H : ((table_ValidateFields.f l0).bind fun t366 => (if t366 = 0 then ((table_nullBytes.f k l0).bind fun t367 => (table_Offsets.l0 k ([] : List Int) (wrap64 (1 + t367)) l0 (l0.length : Int) 0)) else (some (([] : List Int), t366)))) = some (r1, r2) := h
 clear h
 replace H := Option.bind_eq_some_iff.mp H
 obtain ⟨t366, A20, H⟩ := H
 replace H : (if t366 = 0 then ((table_nullBytes.f k l0).bind fun t367 => (table_Offsets.l0 k ([] : List Int) (wrap64 (1 + t367)) l0 (l0.length : Int) 0)) else (some (([] : List Int), t366))) = some (r1, r2) := H
 have A2 := Z0 A20
 clear A20
 by_cases c3 : t366 = 0
 ·rw [if_pos c3] at H
  have c3b0 : (t366 == 0) = true := beq_iff_eq.mpr c3
  have c3b1 : (t366 != 0) = false := bne_eq_false_iff_eq.mpr c3
  clear c3
  replace H := Option.bind_eq_some_iff.mp H
  obtain ⟨t367, A40, H⟩ := H
  replace H : (table_Offsets.l0 k ([] : List Int) (wrap64 (1 + t367)) l0 (l0.length : Int) 0) = some (r1, r2) := H
  have A4 := Z0 A40
  clear A40
  have H' := Z0 H
  clear H
  go_enter Tryz.func32, Tryz.ntmps32
  go_wp2_with (first | ((with_reducible refine Y3 (f := 36) rfl ?_); refine goesL_ (some 10) rfl rfl Tryz.func36 (by kernel_rfl) rfl #[.slice A0 l0.length c0] rfl V1 ?_; (with_reducible refine (table_ValidateFields.calls _ _ l0 t366 _ ?side1 ?side2 A2.out).mono ?_); (case side1 => repeat (first | exact HR0.out | (with_reducible refine Kd.C_alloc ?_ _) | (with_reducible refine Kd.C_drewN ?_ _) | (with_reducible refine Kd.C_drew ?_))); (case side2 => exact HC0.out); rintro e w5 ⟨rfl, hb⟩; refine ⟨_, rfl, ?_⟩; have n0_ := Z0 (Z6 V0 hb); clear HB; have HB := n0_; clear n0_; (try clear hb); (try clear hb2); (try clear hk); (try clear hi)) | ((with_reducible refine Y3 (f := 71) rfl ?_); refine goesL_ (some 15) rfl rfl Tryz.func71 (by kernel_rfl) rfl #[.slice A0 l0.length c0] rfl V1 ?_; (with_reducible refine (table_nullBytes.calls k _ _ l0 t367 _ ?side1 ?side2 A4.out).mono ?_); (case side1 => repeat (first | exact (Kd.C_below HR0.out HB.out) | (with_reducible refine Kd.C_alloc ?_ _) | (with_reducible refine Kd.C_drewN ?_ _) | (with_reducible refine Kd.C_drew ?_))); (case side2 => exact HC0.out); rintro e w6 ⟨rfl, hb⟩; refine ⟨_, rfl, ?_⟩; have n0_ := Z0 (Z6 V0 hb); clear HB; have HB := n0_; clear n0_; (try clear hb); (try clear hb2); (try clear hk); (try clear hi)))
  go_loopg [5, 6, 19] k (fun kq v5 v6 v19 w' => ∃ (x5_1 : List Int) (x6_1 : Int) (x19_1 : Int), v6 = .int .i64 x6_1 ∧ v19 = .int .i64 x19_1 ∧ Aside0 (table_Offsets.l0 kq x5_1 x6_1 l0 (l0.length : Int) x19_1 = some (r1, r2)) ∧ Aside0 (kq ≤ k) ∧ Aside0 (Kd.R (Kd.int .i64) 3 w' w.heap.size (fun _ => True) v5 x5_1) ∧ Aside0 (Below w.heap.size w w'))
  case atStart => exact ⟨(([] : List Int)), (wrap64 (1 + t367)), (0), V2, V2, H', ⟨Nat.le_refl _⟩, ⟨by first | exact Kd.R_nil _ _ _ _ _ | exact Kd.N_nil _ _ _ _ _ | exact Kd.V_nil _ _ _ _ _ | exact Kd.Q_nil _ _ _ _ _ | exact Kd.S_nil _ _ _ _ _⟩, ⟨V0⟩⟩
  case round =>
   clear H'
   try clear p2
   try clear c3
   try clear c3b0
   try clear c3b1
   try clear p6
   obtain ⟨x5_1, x6_1, x19_1, rfl, rfl, HA, HK1, HO_5, HB⟩ := hrel
   cases gk with
   | zero => exact absurd HA.out (by simp [table_Offsets.l0])
   | succ k1 =>
    have H := HA.out
    clear HA
    simp only [table_Offsets.l0] at H
    by_cases c7 : x19_1 < (l0.length : Int)
    ·rw [if_pos c7] at H
     have c7b0 : decide (x19_1 < (l0.length : Int)) = true := decide_eq_true c7
     clear c7
     by_cases c8 : 0 ≤ x19_1
     ·rw [if_pos c8] at H
      have c8b0 : decide (0 ≤ x19_1) = true := decide_eq_true c8
      clear c8
      by_cases c9 : x19_1 < (l0.length : Int)
      ·rw [if_pos c9] at H
       have c9b0 : decide (x19_1 < (l0.length : Int)) = true := decide_eq_true c9
       clear c9
       by_cases c10 : x5_1.length < 17592186044416
       ·rw [if_pos c10] at H
        have LMc10 := Z0 c10
        clear c10
        obtain ⟨y370, hy370⟩ : ∃ y_ : List Int, y_ = (x5_1 ++ [x6_1]) := ⟨_, rfl⟩
        replace H : (table_Offsets.l0 k1 y370 (wrap64 (x6_1 + ((rd_T23 l0 x19_1).f2))) l0 (l0.length : Int) (wrap64 (x19_1 + 1))) = some (r1, r2) := by first | (rw [hy370]; with_reducible exact H) | (have H2_ := (Option.bind_some _ _).symm.trans H; rw [hy370]; with_reducible exact H2_) | (have H2_ := (Option.bind_some _ _).symm.trans H; with_reducible exact H2_) | with_reducible exact H | (rw [hy370]; exact H) | exact H
        have Ny370 := Z0 hy370
        clear hy370
        have H' := Z0 H
        clear H
        have p368 : 0 ≤ (x19_1 : Int) := of_decide_eq_true V3
        have q368 : x19_1 < (l0.length : Int) := of_decide_eq_true V3
        obtain ⟨ad368, e368, hx368_0, hx368_1, hx368_2, hx368_3⟩ := at_T23 HR0.out x19_1 p368 q368
        cases e368
        replace hx368_0 := (HB.out.cell (World.block_lt_of_cell? w _ hx368_0)).trans hx368_0
        replace hx368_1 := (HB.out.cell (World.block_lt_of_cell? w _ hx368_1)).trans hx368_1
        replace hx368_2 := (HB.out.cell (World.block_lt_of_cell? w _ hx368_2)).trans hx368_2
        replace hx368_3 := (HB.out.cell (World.block_lt_of_cell? w _ hx368_3)).trans hx368_3
        replace p368 := eq_true p368
        replace q368 := eq_true q368
        go_wp2_with (first | ((with_reducible refine Y4 (N := 8) rfl ?_); refine Y2 ?hg (N := 8) ?hd (cs := #[.string (⟨#[]⟩ : ByteArray), .int .i64 0, .int .i64 0, .bool false]) (t := 23) ?hr ?_; (case hd => rfl); (case hg => rfl); (case hr => first | (go_simp; done) | (go_simp; rfl)); intro gb369 hg w11 hbox hb; have n0_ := Z0 (Kd.R_below (by (with_reducible repeat (first | apply Kd.R_alloc | apply Kd.R_drewN | apply Kd.R_drew)); exact HO_5.out) hb); have n1_ := Z0 (Z6 V0 hb); have n2_ := Z0 (hbox); have n3_ := Z0 ((by rw [hg]; exact (Y0 V0) : w.heap.size ≤ gb369)); have n4_ := Z0 ((by rw [hg]; exact (Y0 V0) : w.heap.size ≤ gb369)); clear HO_5; clear HB; have HO_5 := n0_; have HB := n1_; have BK369 := n2_; have GW369 := n3_; have GE369 := n4_; clear n0_ n1_ n2_ n3_ n4_; clear hb hbox hg; have hcz12_0 : w11.cell? ⟨gb369, 0, none⟩ = some (.string (⟨#[]⟩ : ByteArray)) := (Z2 BK369.out 0).trans rfl; have hcz12_1 : w11.cell? ⟨gb369, 1, none⟩ = some (.int .i64 0) := (Z2 BK369.out 1).trans rfl; have hcz12_2 : w11.cell? ⟨gb369, 2, none⟩ = some (.int .i64 0) := (Z2 BK369.out 2).trans rfl; have hcz12_3 : w11.cell? ⟨gb369, 3, none⟩ = some (.bool false) := (Z2 BK369.out 3).trans rfl; have hfz12_0 := Z1 BK369.out 0; have hfz12_1 := Z1 BK369.out 1; have hfz12_2 := Z1 BK369.out 2; have hfz12_3 := Z1 BK369.out 3) | ((with_reducible refine gate_builtin (b := .append) (xs := #[.tmp 23, .tmp 25]) rfl ?_); at_builtin; refine Kd.R_append (Kd.int .i64) (w0 := w) w.heap.size rfl (.tmp 23) (.tmp 25) 55 3 (.int .i64 0) 8 rfl Tryz.underlying55 info3 rfl (by decide) (by omega) u5 x5_1 x6_1 [.int .i64 x6_1] (fun _ => True) (fun _ => False) rfl (by first | (go_simp; done) | (go_simp; rfl)) ?aP (fun _ hk => hk.elim) ?aF ?aO ?aB ?aS ?aL ?_; (case aP => exact rfl); (case aB => exact V0); (case aF => exact (fun _ _ => trivial)); (case aO => exact (by (with_reducible repeat (first | apply Kd.R_alloc | apply Kd.R_drewN | apply Kd.R_drew)); exact Kd.R_mono (Kd.R_far (p := ⟨gb369, 3, none⟩) (Kd.R_far (p := ⟨gb369, 2, none⟩) (Kd.R_far (p := ⟨gb369, 1, none⟩) (Kd.R_far (p := ⟨gb369, 0, none⟩) (Kd.R_types HO_5.out BK369.out (by decide)) (fun _ hk => hk.2) (.string ((rd_T23 l0 x19_1).f0))) (fun _ hk => hk.2) (.int .i64 ((rd_T23 l0 x19_1).f1))) (fun _ hk => hk.2) (.int .i64 ((rd_T23 l0 x19_1).f2))) (fun _ hk => hk.2) (.bool ((rd_T23 l0 x19_1).f3))) (fun _ hk => trivial))); (case aS => exact (Y0 V0)); (case aL => have := LMc10.out; omega); intro v371 w13 ho hb hg hat; rw [← Ny370.out] at ho; have n0_ := Z0 (blk_grown (g := gb369) (o := .cells #[.string ((rd_T23 l0 x19_1).f0), .int .i64 ((rd_T23 l0 x19_1).f1), .int .i64 ((rd_T23 l0 x19_1).f2), .bool ((rd_T23 l0 x19_1).f3)] 23 (0, 0)) (by (with_reducible repeat (first | refine Z8 ?_ _ | refine Y1 ?_ | refine Z9 ?_ _)); refine blk_put (cs := #[.string ((rd_T23 l0 x19_1).f0), .int .i64 ((rd_T23 l0 x19_1).f1), .int .i64 ((rd_T23 l0 x19_1).f2), .bool false]) ?_ 3 _ rfl; (with_reducible repeat (first | refine Z8 ?_ _ | refine Y1 ?_ | refine Z9 ?_ _)); refine blk_put (cs := #[.string ((rd_T23 l0 x19_1).f0), .int .i64 ((rd_T23 l0 x19_1).f1), .int .i64 0, .bool false]) ?_ 2 _ rfl; (with_reducible repeat (first | refine Z8 ?_ _ | refine Y1 ?_ | refine Z9 ?_ _)); refine blk_put (cs := #[.string ((rd_T23 l0 x19_1).f0), .int .i64 0, .int .i64 0, .bool false]) ?_ 1 _ rfl; (with_reducible repeat (first | refine Z8 ?_ _ | refine Y1 ?_ | refine Z9 ?_ _)); refine blk_put (cs := #[.string (⟨#[]⟩ : ByteArray), .int .i64 0, .int .i64 0, .bool false]) ?_ 0 _ rfl; (with_reducible repeat (first | refine Z8 ?_ _ | refine Y1 ?_ | refine Z9 ?_ _)); exact BK369.out) hg (Kd.R_ne HO_5.out BK369.out (by decide))); have n1_ := Z0 (hb); have n2_ := Z0 (ho); clear BK369; clear HB; clear HO_5; have BK369 := n0_; have HB := n1_; have HO372 := n2_; clear n0_ n1_ n2_; clear ho hb hg hat; have hcz14_0 : w13.cell? ⟨gb369, 0, none⟩ = some (.string ((rd_T23 l0 x19_1).f0)) := (Z2 BK369.out 0).trans rfl; have hcz14_1 : w13.cell? ⟨gb369, 1, none⟩ = some (.int .i64 ((rd_T23 l0 x19_1).f1)) := (Z2 BK369.out 1).trans rfl; have hcz14_2 : w13.cell? ⟨gb369, 2, none⟩ = some (.int .i64 ((rd_T23 l0 x19_1).f2)) := (Z2 BK369.out 2).trans rfl; have hcz14_3 : w13.cell? ⟨gb369, 3, none⟩ = some (.bool ((rd_T23 l0 x19_1).f3)) := (Z2 BK369.out 3).trans rfl; have hfz14_0 := Z1 BK369.out 0; have hfz14_1 := Z1 BK369.out 1; have hfz14_2 := Z1 BK369.out 2; have hfz14_3 := Z1 BK369.out 3))
        go_roundg k1
        case measure => have := HK1.out; omega
        case rel => exact ⟨(y370), (wrap64 (x6_1 + ((rd_T23 l0 x19_1).f2))), (wrap64 (x19_1 + 1)), V2, V2, H', ⟨by have := HK1.out; omega⟩, ⟨by (with_reducible repeat (first | apply Kd.R_alloc | apply Kd.R_drewN | apply Kd.R_drew)); exact HO372.out⟩, ⟨V0⟩⟩
       ·rw [if_neg c10] at H
        exact absurd H (by simp)
      ·rw [if_neg c9] at H
       exact absurd H (by simp)
     ·rw [if_neg c8] at H
      exact absurd H (by simp)
    ·rw [if_neg c7] at H
     have c7b0 : decide (x19_1 < (l0.length : Int)) = false := decide_eq_false c7
     clear c7
     simp only [Option.some.injEq, Prod.mk.injEq] at H
     obtain ⟨rfl, rfl⟩ := H
     go_wp2
     go_ret2
     exact ⟨_, by first | rfl | (simp [errW_none, errW_some] <;> rfl) | (simp [*, errW_none, errW_some] <;> rfl), by (with_reducible repeat (first | apply Kd.R_alloc | apply Kd.R_drewN | apply Kd.R_drew)); exact HO_5.out, V0⟩
 ·rw [if_neg c3] at H
  have c3b0 : (t366 == 0) = false := beq_eq_false_iff_ne.mpr c3
  have c3b1 : (t366 != 0) = true := bne_iff_ne.mpr c3
  simp only [Option.some.injEq, Prod.mk.injEq] at H
  obtain ⟨rfl, rfl⟩ := H
  go_enter Tryz.func32, Tryz.ntmps32
  go_wp2_with (first | ((with_reducible refine Y3 (f := 36) rfl ?_); refine goesL_ (some 10) rfl rfl Tryz.func36 (by kernel_rfl) rfl #[.slice A0 l0.length c0] rfl V1 ?_; (with_reducible refine (table_ValidateFields.calls _ _ l0 t366 _ ?side1 ?side2 A2.out).mono ?_); (case side1 => repeat (first | exact HR0.out | (with_reducible refine Kd.C_alloc ?_ _) | (with_reducible refine Kd.C_drewN ?_ _) | (with_reducible refine Kd.C_drew ?_))); (case side2 => exact HC0.out); rintro e w15 ⟨rfl, hb⟩; refine ⟨_, rfl, ?_⟩; have n0_ := Z0 (Z6 V0 hb); clear HB; have HB := n0_; clear n0_; (try clear hb); (try clear hb2); (try clear hk); (try clear hi)))
  go_ret2
  exact ⟨_, by first | rfl | (simp [errW_none, errW_some] <;> rfl) | (simp [*, errW_none, errW_some] <;> rfl), by first | exact Kd.R_nil _ _ _ _ _ | exact Kd.N_nil _ _ _ _ _ | exact Kd.V_nil _ _ _ _ _ | exact Kd.Q_nil _ _ _ _ _ | exact Kd.S_nil _ _ _ _ _, V0⟩
def cabinetryref03_Offsets.l0 : Nat → List (S23) → List Int → Int → Int → Option (List Int × Int)
 | 0, _, _, _, _ => none
 | k + 1, x0, x5, x6, x7 => if x7 < (x0.length : Int) then (if x5.length < 17592186044416 then (if 0 ≤ x7 then (cabinetryref03_Offsets.l0 k x0 (x5 ++ [x6]) (wrap64 (x6 + ((rd_T23 x0 x7).f2))) (wrap64 (x7 + 1))) else (none)) else (none)) else (some (x5, 0))
def cabinetryref03_Offsets.f (k : Nat) (l0 : List (S23)) : Option (List Int × Int) := (cabinetryref03_ValidateFields.f k l0).bind fun t373 => (if t373 = 0 then ((cabinetryref03_nulls.f k l0).bind fun t374 => (cabinetryref03_Offsets.l0 k l0 ([] : List Int) (wrap64 (1 + t374)) 0)) else (some (([] : List Int), t373)))
theorem cabinetryref03_Offsets.mono_l : ∀ k, (∀ y0 y1 y2 y3, LeO (cabinetryref03_Offsets.l0 k y0 y1 y2 y3) (cabinetryref03_Offsets.l0 (k + 1) y0 y1 y2 y3))
 | 0 => fun _ _ _ _ r h => by simp [cabinetryref03_Offsets.l0] at h
 | k + 1 => by
  have ih0 := cabinetryref03_Offsets.mono_l k
  ·intro y0 y1 y2 y3
   unfold cabinetryref03_Offsets.l0
   repeat' first
   | (with_reducible exact ih0 _ _ _ _)
   | (with_reducible exact cabinetryref03_ValidateFields.mono _ _)
   | (with_reducible exact cabinetryref03_nulls.mono _ _)
   | (with_reducible exact LeO.refl _)
   | (with_reducible exact Y5 _)
   | (with_reducible refine Y7 ?_ ?_)
   | (with_reducible refine Y6 ?_ (fun _ => ?_))
   | exact ih0 _ _ _ _
   | exact cabinetryref03_ValidateFields.mono _ _
   | exact cabinetryref03_nulls.mono _ _
   | exact Y5 _
   | refine Y7 ?_ ?_
   | refine Y6 ?_ (fun _ => ?_)
theorem cabinetryref03_Offsets.mono : ∀ a0 k, LeO (cabinetryref03_Offsets.f k a0) (cabinetryref03_Offsets.f (k + 1) a0) := by
 intro a0 k
 have ih0 := cabinetryref03_Offsets.mono_l k
 unfold cabinetryref03_Offsets.f
 repeat' first
   | (with_reducible exact ih0 _ _ _ _)
   | (with_reducible exact cabinetryref03_ValidateFields.mono _ _)
   | (with_reducible exact cabinetryref03_nulls.mono _ _)
   | (with_reducible exact LeO.refl _)
   | (with_reducible exact Y5 _)
   | (with_reducible refine Y7 ?_ ?_)
   | (with_reducible refine Y6 ?_ (fun _ => ?_))
   | exact ih0 _ _ _ _
   | exact cabinetryref03_ValidateFields.mono _ _
   | exact cabinetryref03_nulls.mono _ _
   | exact Y5 _
   | refine Y7 ?_ ?_
   | refine Y6 ?_ (fun _ => ?_)
set_option maxHeartbeats 8000000 in
set_option maxRecDepth 100000 in
theorem cabinetryref03_Offsets.calls (k : Nat) (A0 : Option Addr) (c0 : Nat) (l0 : List (S23)) (r1 : List Int) (r2 : Int) (w : World) (hr0 : Kd.C k23 w A0 l0.length l0) (hc0 : l0.length ≤ c0) (h : cabinetryref03_Offsets.f k l0 = some (r1, r2)) :
  Calls Tryz.prog 33 #[.slice A0 l0.length c0] w fun e w' => ∃ v0_ : Value, e = .returned (.tuple #[v0_, .int .i64 r2]) ∧ Kd.R (Kd.int .i64) 3 w' w.heap.size (fun _ => True) v0_ r1 ∧ Below w.heap.size w w' := by
 have HR0 := Z0 hr0
 have HC0 := Z0 hc0
 clear hr0 hc0
 have HB := Z0 (Below.refl w.heap.size w)
 have H : ((cabinetryref03_ValidateFields.f k l0).bind fun t373 => (if t373 = 0 then ((cabinetryref03_nulls.f k l0).bind fun t374 => (cabinetryref03_Offsets.l0 k l0 ([] : List Int) (wrap64 (1 + t374)) 0)) else (some (([] : List Int), t373)))) = some (r1, r2) := h
 clear h
 replace H := Option.bind_eq_some_iff.mp H
 obtain ⟨t373, A20, H⟩ := H
 replace H : (if t373 = 0 then ((cabinetryref03_nulls.f k l0).bind fun t374 => (cabinetryref03_Offsets.l0 k l0 ([] : List Int) (wrap64 (1 + t374)) 0)) else (some (([] : List Int), t373))) = some (r1, r2) := H
 have A2 := Z0 A20
 clear A20
 by_cases c3 : t373 = 0
 ·rw [if_pos c3] at H
  have c3b0 : (t373 == 0) = true := beq_iff_eq.mpr c3
  have c3b1 : (t373 != 0) = false := bne_eq_false_iff_eq.mpr c3
  clear c3
  replace H := Option.bind_eq_some_iff.mp H
  obtain ⟨t374, A40, H⟩ := H
  replace H : (cabinetryref03_Offsets.l0 k l0 ([] : List Int) (wrap64 (1 + t374)) 0) = some (r1, r2) := H
  have A4 := Z0 A40
  clear A40
  have H' := Z0 H
  clear H
  go_enter Tryz.func33, Tryz.ntmps33
  go_wp2_with (first | ((with_reducible refine Y3 (f := 37) rfl ?_); refine goesL_ (some 9) rfl rfl Tryz.func37 (by kernel_rfl) rfl #[.slice A0 l0.length c0] rfl V1 ?_; (with_reducible refine (cabinetryref03_ValidateFields.calls k _ _ l0 t373 _ ?side1 ?side2 A2.out).mono ?_); (case side1 => repeat (first | exact HR0.out | (with_reducible refine Kd.C_alloc ?_ _) | (with_reducible refine Kd.C_drewN ?_ _) | (with_reducible refine Kd.C_drew ?_))); (case side2 => exact HC0.out); rintro e w5 ⟨rfl, hb⟩; refine ⟨_, rfl, ?_⟩; have n0_ := Z0 (Z6 HB.out hb); clear HB; have HB := n0_; clear n0_; (try clear hb); (try clear hb2); (try clear hk); (try clear hi)) | ((with_reducible refine Y3 (f := 72) rfl ?_); refine goesL_ (some 14) rfl rfl Tryz.func72 (by kernel_rfl) rfl #[.slice A0 l0.length c0] rfl V1 ?_; (with_reducible refine (cabinetryref03_nulls.calls k _ _ l0 t374 _ ?side1 ?side2 A4.out).mono ?_); (case side1 => repeat (first | exact (Kd.C_below HR0.out HB.out) | (with_reducible refine Kd.C_alloc ?_ _) | (with_reducible refine Kd.C_drewN ?_ _) | (with_reducible refine Kd.C_drew ?_))); (case side2 => exact HC0.out); rintro e w' ⟨rfl, ⟨nd, rfl⟩⟩; refine ⟨_, rfl, ?_⟩))
  go_loopg [5, 6, 7] k (fun kq v5 v6 v7 w' => ∃ (x5_1 : List Int) (x6_1 : Int) (x7_1 : Int), v6 = .int .i64 x6_1 ∧ v7 = .int .i64 x7_1 ∧ Aside0 (cabinetryref03_Offsets.l0 kq l0 x5_1 x6_1 x7_1 = some (r1, r2)) ∧ Aside0 (kq ≤ k) ∧ Aside0 (Kd.R (Kd.int .i64) 3 w' w.heap.size (fun _ => True) v5 x5_1) ∧ Aside0 (Below w.heap.size w w'))
  case atStart => exact ⟨(([] : List Int)), (wrap64 (1 + t374)), (0), V2, V2, H', ⟨Nat.le_refl _⟩, ⟨by first | exact Kd.R_nil _ _ _ _ _ | exact Kd.N_nil _ _ _ _ _ | exact Kd.V_nil _ _ _ _ _ | exact Kd.Q_nil _ _ _ _ _ | exact Kd.S_nil _ _ _ _ _⟩, ⟨V0⟩⟩
  case round =>
   clear H'
   (try clear p2);(try clear c3);(try clear c3b0);(try clear c3b1)
   obtain ⟨x5_1, x6_1, x7_1, rfl, rfl, HA, HK1, HO_5, HB⟩ := hrel
   cases gk with
   | zero => exact absurd HA.out (by simp [cabinetryref03_Offsets.l0])
   | succ k1 =>
    have H := HA.out
    clear HA
    simp only [cabinetryref03_Offsets.l0] at H
    by_cases c6 : x7_1 < (l0.length : Int)
    ·rw [if_pos c6] at H
     have c6b0 : decide (x7_1 < (l0.length : Int)) = true := decide_eq_true c6
     clear c6
     by_cases c7 : x5_1.length < 17592186044416
     ·rw [if_pos c7] at H
      have LMc7 := Z0 c7
      clear c7
      obtain ⟨y375, hy375⟩ : ∃ y_ : List Int, y_ = (x5_1 ++ [x6_1]) := ⟨_, rfl⟩
      replace H : (if 0 ≤ x7_1 then (cabinetryref03_Offsets.l0 k1 l0 y375 (wrap64 (x6_1 + ((rd_T23 l0 x7_1).f2))) (wrap64 (x7_1 + 1))) else (none)) = some (r1, r2) := by rw [hy375]; exact H
      have Ny375 := Z0 hy375
      clear hy375
      by_cases c8 : 0 ≤ x7_1
      ·rw [if_pos c8] at H
       have c8b0 : decide (0 ≤ x7_1) = true := decide_eq_true c8
       clear c8
       have H' := Z0 H
       clear H
       go_wp2_with (first | ((with_reducible refine gate_builtin (b := .append) (xs := #[.tmp 22, .tmp 24]) rfl ?_); at_builtin; refine Kd.R_append (Kd.int .i64) (w0 := w) w.heap.size rfl (.tmp 22) (.tmp 24) 55 3 (.int .i64 0) 8 rfl Tryz.underlying55 info3 rfl (by decide) (by omega) u5 x5_1 x6_1 [.int .i64 x6_1] (fun _ => True) (fun _ => False) rfl rfl ?aP (fun _ hk => hk.elim) ?aF ?aO ?aB ?aS ?aL ?_; (case aP => exact rfl); (case aB => exact HB.out); (case aF => exact (fun _ _ => trivial)); (case aO => exact HO_5.out); (case aS => exact (Y0 HB.out)); (case aL => have := LMc7.out; omega); intro v376 w9 ho hb hg hat; rw [← Ny375.out] at ho; have n0_ := Z0 (hb); have n1_ := Z0 (ho); clear HB; clear HO_5; have HB := n0_; have HO377 := n1_; clear n0_ n1_; clear ho hb hg hat; have p378 : 0 ≤ (x7_1 : Int) := of_decide_eq_true V3; have q378 : x7_1 < (l0.length : Int) := of_decide_eq_true V3; obtain ⟨ad378, e378, hx378_0, hx378_1, hx378_2, hx378_3⟩ := at_T23 HR0.out x7_1 p378 q378; cases e378; replace hx378_0 := (HB.out.cell (World.block_lt_of_cell? w _ hx378_0)).trans hx378_0; replace hx378_1 := (HB.out.cell (World.block_lt_of_cell? w _ hx378_1)).trans hx378_1; replace hx378_2 := (HB.out.cell (World.block_lt_of_cell? w _ hx378_2)).trans hx378_2; replace hx378_3 := (HB.out.cell (World.block_lt_of_cell? w _ hx378_3)).trans hx378_3; replace p378 := eq_true p378; replace q378 := eq_true q378))
       go_roundg k1
       case measure => have := HK1.out; omega
       case rel => exact ⟨(y375), (wrap64 (x6_1 + ((rd_T23 l0 x7_1).f2))), (wrap64 (x7_1 + 1)), V2, V2, H', ⟨by have := HK1.out; omega⟩, ⟨by (with_reducible repeat (first | apply Kd.R_alloc | apply Kd.R_drewN | apply Kd.R_drew)); exact HO377.out⟩, ⟨V0⟩⟩
      ·rw [if_neg c8] at H
       exact absurd H (by simp)
     ·rw [if_neg c7] at H
      exact absurd H (by simp)
    ·rw [if_neg c6] at H
     have c6b0 : decide (x7_1 < (l0.length : Int)) = false := decide_eq_false c6
     clear c6
     simp only [Option.some.injEq, Prod.mk.injEq] at H
     obtain ⟨rfl, rfl⟩ := H
     go_wp2
     go_ret2
     exact ⟨_, rfl, by (with_reducible repeat (first | apply Kd.R_alloc | apply Kd.R_drewN | apply Kd.R_drew)); exact HO_5.out, V0⟩
 ·rw [if_neg c3] at H
  have c3b0 : (t373 == 0) = false := beq_eq_false_iff_ne.mpr c3
  have c3b1 : (t373 != 0) = true := bne_iff_ne.mpr c3
  simp only [Option.some.injEq, Prod.mk.injEq] at H
  obtain ⟨rfl, rfl⟩ := H
  go_enter Tryz.func33, Tryz.ntmps33
  go_wp2_with (first | ((with_reducible refine Y3 (f := 37) rfl ?_); refine goesL_ (some 9) rfl rfl Tryz.func37 (by kernel_rfl) rfl #[.slice A0 l0.length c0] rfl V1 ?_; (with_reducible refine (cabinetryref03_ValidateFields.calls k _ _ l0 t373 _ ?side1 ?side2 A2.out).mono ?_); (case side1 => repeat (first | exact HR0.out | (with_reducible refine Kd.C_alloc ?_ _) | (with_reducible refine Kd.C_drewN ?_ _) | (with_reducible refine Kd.C_drew ?_))); (case side2 => exact HC0.out); rintro e w10 ⟨rfl, hb⟩; refine ⟨_, rfl, ?_⟩; have n0_ := Z0 (Z6 HB.out hb); clear HB; have HB := n0_; clear n0_; (try clear hb); (try clear hb2); (try clear hk); (try clear hi)))
  go_ret2
  exact ⟨_, rfl, by first | exact Kd.R_nil _ _ _ _ _ | exact Kd.N_nil _ _ _ _ _ | exact Kd.V_nil _ _ _ _ _ | exact Kd.Q_nil _ _ _ _ _ | exact Kd.S_nil _ _ _ _ _, V0⟩
def cabinetryref01_SameInts.l0 : Nat → List Int → List Int → Int → Option (Bool)
 | 0, _, _, _ => none
 | k + 1, x0, x1, x5 => if x5 < (x0.length : Int) then (if 0 ≤ x5 then (if x5 < (x1.length : Int) then (if (rd x0 x5) = (rd x1 x5) then (cabinetryref01_SameInts.l0 k x0 x1 (wrap64 (x5 + 1))) else (some false)) else (none)) else (none)) else (some true)
def cabinetryref01_SameInts.f (k : Nat) (l0 : List Int) (l1 : List Int) : Option (Bool) := if (l0.length : Int) = (l1.length : Int) then (cabinetryref01_SameInts.l0 k l0 l1 0) else (some false)
theorem cabinetryref01_SameInts.mono_l : ∀ k, (∀ y0 y1 y2, LeO (cabinetryref01_SameInts.l0 k y0 y1 y2) (cabinetryref01_SameInts.l0 (k + 1) y0 y1 y2))
 | 0 => fun _ _ _ r h => by simp [cabinetryref01_SameInts.l0] at h
 | k + 1 => by
  have ih0 := cabinetryref01_SameInts.mono_l k
  ·intro y0 y1 y2
   unfold cabinetryref01_SameInts.l0
   repeat' first
   | (with_reducible exact ih0 _ _ _)
   | (with_reducible exact LeO.refl _)
   | (with_reducible exact Y5 _)
   | (with_reducible refine Y7 ?_ ?_)
   | (with_reducible refine Y6 ?_ (fun _ => ?_))
   | exact ih0 _ _ _
   | exact Y5 _
   | refine Y7 ?_ ?_
   | refine Y6 ?_ (fun _ => ?_)
theorem cabinetryref01_SameInts.mono : ∀ a0 a1 k, LeO (cabinetryref01_SameInts.f k a0 a1) (cabinetryref01_SameInts.f (k + 1) a0 a1) := by
 intro a0 a1 k
 have ih0 := cabinetryref01_SameInts.mono_l k
 unfold cabinetryref01_SameInts.f
 repeat' first
   | (with_reducible exact ih0 _ _ _)
   | (with_reducible exact LeO.refl _)
   | (with_reducible exact Y5 _)
   | (with_reducible refine Y7 ?_ ?_)
   | (with_reducible refine Y6 ?_ (fun _ => ?_))
   | exact ih0 _ _ _
   | exact Y5 _
   | refine Y7 ?_ ?_
   | refine Y6 ?_ (fun _ => ?_)
set_option maxHeartbeats 8000000 in
set_option maxRecDepth 100000 in
theorem cabinetryref01_SameInts.calls (k : Nat) (A0 : Option Addr) (c0 : Nat) (l0 : List Int) (A1 : Option Addr) (c1 : Nat) (l1 : List Int) (r : Bool) (w : World) (hr0 : Kd.C (Kd.int .i64) w A0 l0.length l0) (hc0 : l0.length ≤ c0) (hr1 : Kd.C (Kd.int .i64) w A1 l1.length l1) (hc1 : l1.length ≤ c1) (h : cabinetryref01_SameInts.f k l0 l1 = some r) :
  Calls Tryz.prog 38 #[.slice A0 l0.length c0, .slice A1 l1.length c1] w fun e w' => e = .returned (.bool r) ∧ Drawn0 w w' := by
 have HR0 := Z0 hr0
 have HC0 := Z0 hc0
 clear hr0 hc0
 have HR1 := Z0 hr1
 have HC1 := Z0 hc1
 clear hr1 hc1
 have H : (if (l0.length : Int) = (l1.length : Int) then (cabinetryref01_SameInts.l0 k l0 l1 0) else (some false)) = some r := h
 clear h
 by_cases c3 : (l0.length : Int) = (l1.length : Int)
 ·rw [if_pos c3] at H
  have c3b0 : ((l0.length : Int) == (l1.length : Int)) = true := beq_iff_eq.mpr c3
  have c3b1 : ((l0.length : Int) != (l1.length : Int)) = false := bne_eq_false_iff_eq.mpr c3
  have c3b2 : (l0.length == l1.length) = true := by first | simpa using c3 | (simp at c3 ⊢; omega)
  clear c3
  have H' := Z0 H
  clear H
  go_enter Tryz.func38, Tryz.ntmps38
  go_wp2
  repeat (go_quiet (fail); try go_wp2)
  go_loopg [5] k (fun kq v5 w' => ∃ (x5_1 : Int), v5 = .int .i64 x5_1 ∧ Aside0 (cabinetryref01_SameInts.l0 kq l0 l1 x5_1 = some r) ∧ Aside0 (kq ≤ k) ∧ Drawn0 w w')
  case atStart => exact ⟨(0), V2, H', ⟨Nat.le_refl _⟩, by repeat (first | exact Y9 _ | apply Y8)⟩
  case round =>
   clear H'
   (try clear c1);(try clear p2);(try clear c3);(try clear c3b0);(try clear c3b1);(try clear c3b2)
   obtain ⟨x5_1, rfl, HA, HK1, ⟨m1, rfl⟩⟩ := hrel
   cases gk with
   | zero => exact absurd HA.out (by simp [cabinetryref01_SameInts.l0])
   | succ k1 =>
    have H := HA.out
    clear HA
    simp only [cabinetryref01_SameInts.l0] at H
    by_cases c4 : x5_1 < (l0.length : Int)
    ·rw [if_pos c4] at H
     have c4b0 : decide (x5_1 < (l0.length : Int)) = true := decide_eq_true c4
     clear c4
     by_cases c5 : 0 ≤ x5_1
     ·rw [if_pos c5] at H
      have c5b0 : decide (0 ≤ x5_1) = true := decide_eq_true c5
      clear c5
      by_cases c6 : x5_1 < (l1.length : Int)
      ·rw [if_pos c6] at H
       have c6b0 : decide (x5_1 < (l1.length : Int)) = true := decide_eq_true c6
       clear c6
       by_cases c7 : (rd l0 x5_1) = (rd l1 x5_1)
       ·rw [if_pos c7] at H
        have c7b0 : ((rd l0 x5_1) == (rd l1 x5_1)) = true := beq_iff_eq.mpr c7
        have c7b1 : ((rd l0 x5_1) != (rd l1 x5_1)) = false := bne_eq_false_iff_eq.mpr c7
        clear c7
        have H' := Z0 H
        clear H
        have p379 : 0 ≤ (x5_1 : Int) := of_decide_eq_true V3
        have q379 : x5_1 < (l0.length : Int) := of_decide_eq_true V3
        obtain ⟨ad379, e379, hx379_0⟩ := Kd.at_int HR0.out x5_1 p379 q379
        cases e379
        replace p379 := eq_true p379
        replace q379 := eq_true q379
        have p380 : 0 ≤ (x5_1 : Int) := of_decide_eq_true V3
        have q380 : x5_1 < (l1.length : Int) := of_decide_eq_true V3
        obtain ⟨ad380, e380, hx380_0⟩ := Kd.at_int HR1.out x5_1 p380 q380
        cases e380
        replace p380 := eq_true p380
        replace q380 := eq_true q380
        go_wp2
        repeat (go_quiet (fail); try go_wp2)
        go_roundg k1
        case measure => have := HK1.out; omega
        case rel => exact ⟨(wrap64 (x5_1 + 1)), V2, H', ⟨by have := HK1.out; omega⟩, by repeat (first | exact Y9 _ | apply Y8)⟩
       ·rw [if_neg c7] at H
        have c7b0 : ((rd l0 x5_1) == (rd l1 x5_1)) = false := beq_eq_false_iff_ne.mpr c7
        have c7b1 : ((rd l0 x5_1) != (rd l1 x5_1)) = true := bne_iff_ne.mpr c7
        obtain rfl := Option.some.inj H
        have p379 : 0 ≤ (x5_1 : Int) := of_decide_eq_true V3
        have q379 : x5_1 < (l0.length : Int) := of_decide_eq_true V3
        obtain ⟨ad379, e379, hx379_0⟩ := Kd.at_int HR0.out x5_1 p379 q379
        cases e379
        replace p379 := eq_true p379
        replace q379 := eq_true q379
        have p380 : 0 ≤ (x5_1 : Int) := of_decide_eq_true V3
        have q380 : x5_1 < (l1.length : Int) := of_decide_eq_true V3
        obtain ⟨ad380, e380, hx380_0⟩ := Kd.at_int HR1.out x5_1 p380 q380
        cases e380
        replace p380 := eq_true p380
        replace q380 := eq_true q380
        go_wp2
        repeat (go_quiet (fail); try go_wp2)
        go_ret
        exact ⟨V2, by repeat (first | exact Y9 _ | apply Y8)⟩
      ·rw [if_neg c6] at H
       exact absurd H (by simp)
     ·rw [if_neg c5] at H
      exact absurd H (by simp)
    ·rw [if_neg c4] at H
     have c4b0 : decide (x5_1 < (l0.length : Int)) = false := decide_eq_false c4
     clear c4
     obtain rfl := Option.some.inj H
     go_wp2
     repeat (go_quiet (fail); try go_wp2)
     go_ret
     exact ⟨V2, by repeat (first | exact Y9 _ | apply Y8)⟩
 ·rw [if_neg c3] at H
  have c3b0 : ((l0.length : Int) == (l1.length : Int)) = false := beq_eq_false_iff_ne.mpr c3
  have c3b1 : ((l0.length : Int) != (l1.length : Int)) = true := bne_iff_ne.mpr c3
  have c3b2 : (l0.length == l1.length) = false := by first | simpa using c3 | (simp at c3 ⊢; omega)
  obtain rfl := Option.some.inj H
  go_enter Tryz.func38, Tryz.ntmps38
  go_wp2
  repeat (go_quiet (fail); try go_wp2)
  go_ret
  exact ⟨V2, by repeat (first | exact Y9 _ | apply Y8)⟩
end Go.Proofs.YtldpdidlfbphcaaGreatDoor.P
end
section
namespace Go.Proofs.YtldpdidlfbphcaaGreatDoor.P
open Go.RowKit Go.Proofs.YtldpdidlfbphcaaGreatDoorW.PrintWords Go.Proofs.YtldpdidlfbphcaaGreatDoorW.PrintLast Go.Proofs.YtldpdidlfbphcaaGreatDoorW.PrintMore
def nameL (s : ByteArray) : List Int := s.data.toList.map (fun b => (b.toNat : Int)) ++ List.replicate (10 - s.size) 0
def kindLetter (n : Int) : Int := if n = 1 then 76 else if n = 2 then 78 else if n = 3 then 68 else if n = 4 then 67 else if n = 5 then 77 else 0
def descL (x : S23) : List Int := nameL x.f0 ++ [kindLetter x.f1, x.f2 % 256, if x.f3 = true then 1 else 0, 0, 0, 0]
def descO (x : S23) : Option (List Int) := if x.f0.size ≤ 10 then some (descL x) else none
theorem nameL_len {s : ByteArray} (h : s.size ≤ 10) : (nameL s).length = 10 := by
 unfold nameL
 rw [List.length_append, List.length_map, List.length_replicate]
 have e : s.data.toList.length = s.size := rfl
 omega
theorem descO_some {x : S23} {l : List Int} (h : descO x = some l) : x.f0.size ≤ 10 ∧ l.length = 16 ∧ l = descL x := by
 unfold descO at h
 split at h
 ·rename_i hs
  cases h
  refine ⟨hs, ?_, rfl⟩
  unfold descL
  rw [List.length_append, nameL_len hs]
  rfl
 ·cases h
def u8s (l : List Int) : Array Value := (l.map (Value.int .u8)).toArray
theorem set16 : ∀ (L : List Int), L.length = 10 → ∀ a b c d e f x : Int, (u8s (L ++ [a, b, c, d, e, f])).setIfInBounds 10 (.int .u8 x) = u8s (L ++ [x, b, c, d, e, f]) ∧ (u8s (L ++ [a, b, c, d, e, f])).setIfInBounds 11 (.int .u8 x) = u8s (L ++ [a, x, c, d, e, f]) ∧ (u8s (L ++ [a, b, c, d, e, f])).setIfInBounds 12 (.int .u8 x) = u8s (L ++ [a, b, x, d, e, f])
 | [a0, a1, a2, a3, a4, a5, a6, a7, a8, a9], _, _, _, _, _, _, _, _ => ⟨rfl, rfl, rfl⟩
theorem u8s_some {l : List Int} {i : Nat} (h : i < l.length) : (u8s l)[i]? = some ((u8s l)[i]'(by unfold u8s; simpa using h)) := Array.getElem?_eq_getElem _
theorem copy_arr (W : World) (g : Nat) (s : ByteArray) (hg : W.heap[g]? = some (.cells #[.int .u8 0, .int .u8 0, .int .u8 0, .int .u8 0, .int .u8 0, .int .u8 0, .int .u8 0, .int .u8 0, .int .u8 0, .int .u8 0, .int .u8 0, .int .u8 0, .int .u8 0, .int .u8 0, .int .u8 0, .int .u8 0] 123 (0, 0))) (hs : s.size ≤ 10) :
  (Builtin.copy_ #[37, 9] 3 #[.slice (some ⟨g, 0, none⟩) 10 10, .string s]).run Tryz.prog W = .ok (goInt s.size) (W.setRow g (u8s (nameL s ++ [0, 0, 0, 0, 0, 0]))) := by
 have h := Lib.run_copy_row_string (P := Tryz.prog) W 37 9 3 5 g 0 10 10 s _ 123 Tryz.underlying37 (by kernel_rfl) hg hs (by simp; omega)
 have e2 : ((#[.int .u8 0, .int .u8 0, .int .u8 0, .int .u8 0, .int .u8 0, .int .u8 0, .int .u8 0, .int .u8 0, .int .u8 0, .int .u8 0, .int .u8 0, .int .u8 0, .int .u8 0, .int .u8 0, .int .u8 0, .int .u8 0] : Array Value).toList.take 0 ++ Lib.byteCells s.data.toList ++ (#[.int .u8 0, .int .u8 0, .int .u8 0, .int .u8 0, .int .u8 0, .int .u8 0, .int .u8 0, .int .u8 0, .int .u8 0, .int .u8 0, .int .u8 0, .int .u8 0, .int .u8 0, .int .u8 0, .int .u8 0, .int .u8 0] : Array Value).toList.drop (0 + s.size)).toArray = u8s (nameL s ++ [0, 0, 0, 0, 0, 0]) := by
  unfold u8s nameL
  refine congrArg List.toArray ?_
  rw [List.map_append, List.map_append, List.map_map, List.map_replicate, Nat.zero_add]
  rw [List.take_zero, List.nil_append, List.append_assoc]
  show Lib.byteCells s.data.toList ++ _ = Lib.byteCells s.data.toList ++ _
  refine congrArg (Lib.byteCells s.data.toList ++ ·) ?_
  obtain ⟨n, hn⟩ : ∃ n, s.size = n := ⟨_, rfl⟩
  rw [hn] at hs ⊢
  rcases n with _ | _ | _ | _ | _ | _ | _ | _ | _ | _ | _ | n
  all_goals first | rfl | (exfalso; omega)
 rw [e2] at h
 exact h
theorem rowset_far {W : World} {g k : Nat} {o : Obj} (h : W.heap[k]? = some o) (hk : k ≠ g) (cs : Array Value) : (W.setRow g cs).heap[k]? = some o := (setRow_other W g k cs hk).trans h
theorem rowset_R {W : World} {g base : Nat} {v : Value} {xs : List Int} {cs0 : Array Value} {t : TypeId} (h : Kd.R (Kd.int .u8) 5 W base (fun _ => True) v xs) (hg : W.heap[g]? = some (.cells cs0 t (0, 0))) (cs : Array Value) (hne : (5 : Nat) ≠ t) : Kd.R (Kd.int .u8) 5 (W.setRow g cs) base (fun _ => True) v xs := by
 exact Kd.R_mono (Kd.R_step (Kd.R_types h hg (by intro q hq; rcases List.mem_cons.1 hq with rfl | hq; exact hne; exact absurd hq (by simp [Kd.int, Kd.scalar]))) (fun k ho _ => setRow_other W g k cs ho.2)) (fun _ _ => trivial)
theorem cellset_R {W : World} {g base j : Nat} {v u : Value} {xs : List Int} {cs0 : Array Value} {t : TypeId} (h : Kd.R (Kd.int .u8) 5 W base (fun _ => True) v xs) (hg : W.heap[g]? = some (.cells cs0 t (0, 0))) (hne : (5 : Nat) ≠ t) : Kd.R (Kd.int .u8) 5 (W.setCell ⟨g, j, none⟩ u) base (fun _ => True) v xs :=
 Kd.R_mono (Kd.R_far (p := ⟨g, j, none⟩) (Kd.R_types h hg (by intro q hq; rcases List.mem_cons.1 hq with rfl | hq; exact hne; exact absurd hq (by simp [Kd.int, Kd.scalar]))) (fun _ hk => hk.2) u) (fun _ _ => trivial)
theorem kindVal_letter (n : Int) : ∃ f1 f2 : Value, kindVal n = .agg #[.int .u8 (kindLetter n), .int .i64 (kindLo n), .int .i64 (kindHi n), f1, f2] := by
 by_cases h1 : n = 1
 ·subst h1; exact ⟨_, _, rfl⟩
 by_cases h2 : n = 2
 ·subst h2; exact ⟨_, _, rfl⟩
 by_cases h3 : n = 3
 ·subst h3; exact ⟨_, _, rfl⟩
 by_cases h4 : n = 4
 ·subst h4; exact ⟨_, _, rfl⟩
 by_cases h5 : n = 5
 ·subst h5; exact ⟨_, _, rfl⟩
 have e1 : kindLo n = 0 := by unfold kindLo kindFound; rw [if_neg (by omega), if_neg (by simp; omega)]
 have e2 : kindHi n = 0 := by unfold kindHi; rw [if_neg (by omega), if_neg h1, if_neg h2, if_neg h4]
 have e3 : kindLetter n = 0 := by unfold kindLetter; rw [if_neg h1, if_neg h2, if_neg h3, if_neg h4, if_neg h5]
 rw [e1, e2, e3]
 unfold kindVal
 rw [if_neg h1, if_neg h2, if_neg h3, if_neg h4, if_neg h5]
 exact ⟨_, _, rfl⟩
theorem run_look' (W : World) (r : Nat) (hb : W.heap[r]? = some (.map kindsEs 5)) (n : Int) (v : Value) (hv : kindVal n = v) : (Instr.lookup 104 (.map (some r)) (.int .i64 n) false).run Tryz.prog W = .ok v W := by
 rw [run_look W r hb n false, ← hv]; rfl
theorem blk_C {W : World} {g : Nat} {t : TypeId} (xs : List Int) (h : W.heap[g]? = some (.cells (u8s xs) t (0, 0))) (hl : xs.length ≤ 9223372036854775807) : (Kd.int .u8).C W (some ⟨g, 0, none⟩) xs.length xs := by
 refine ⟨rfl, hl, fun _ => ⟨_, rfl, fun j p hj => ⟨[.int .u8 p], rfl, rfl, fun i u hu => ?_⟩⟩⟩
 have hi : i = 0 := by
  have := (List.getElem?_eq_some_iff.1 hu).1
  simpa using this
 subst hi
 have hc := Z2 h j
 have e : (u8s xs)[j]? = some (.int .u8 p) := by
  unfold u8s
  rw [List.getElem?_toArray, List.getElem?_map, hj]
  rfl
 have hu' : Value.int .u8 p = u := by simpa using hu
 rw [← hu', ← e, ← hc]
 simp [Addr.add, Kd.int, Kd.scalar]
 split
 ·rename_i h0; rw [h0]
 ·rfl
theorem hd_C {W : World} {g : Nat} {t : TypeId} {l ys : List Int} (h : W.heap[g]? = some (.cells (u8s l) t (0, 0))) (hy : ys = l) (hl : ys.length = 16) : (Kd.int .u8).C W (some ⟨g, 0, none⟩) 16 ys := by
 subst hy
 have := blk_C ys h (by omega)
 rw [hl] at this
 exact this
def hd_T9 : Bool × List (List Nat × List Nat) := (true, [([], []), ([], []), ([1], [1]), ([0, 2], [0, 2])])
theorem hd_tab9 : rtab .any (opsOf Tryz.f62 9) = hd_T9 := by kernel_rfl
def hd_T10 : Bool × List (List Nat × List Nat) := (true, [([], []), ([], []), ([1], [1]), ([0, 2], [0, 2]), ([3], [3]), ([], []), ([5], [5]), ([6], [6]), ([0, 1, 2, 3, 4], []), ([8, 4, 0, 0, 1, 2, 3, 4], [4, 8]), ([0, 1, 2, 3, 4, 5, 6, 7, 8, 9], []), ([10, 7, 9, 0, 1, 2, 3, 4, 5, 6, 7, 8, 9], [7, 10])])
theorem hd_tab10 : rtab .any (opsOf Tryz.f62 10) = hd_T10 := by kernel_rfl
end Go.Proofs.YtldpdidlfbphcaaGreatDoor.P
end
section
namespace Go.Proofs.YtldpdidlfbphcaaGreatDoor.P
open Go.RowKit Go.Proofs.YtldpdidlfbphcaaGreatDoorW.PrintWords Go.Proofs.YtldpdidlfbphcaaGreatDoorW.PrintLast Go.Proofs.YtldpdidlfbphcaaGreatDoorW.PrintMore
attribute [local go_sem] max2_int min2_int max_two min_two max_three min_three max_four min_four
def table_writeTruth.f (a0_0 : ByteArray) (a0_1 : Int) (a0_2 : Int) (a0_3 : Bool) (a1_0 : Int) (a1_1 : Int) (a1_2 : ByteArray) : Option (ByteArray) := if 0 ≤ a1_1 then (if a1_1 ≤ (wrap64 (a1_1 + 1)) then (if (wrap64 (a1_1 + 1)) ≤ 2 then (some ((⟨#[70, 84]⟩ : ByteArray).extract (a1_1 : Int).toNat ((wrap64 (a1_1 + 1)) : Int).toNat)) else (none)) else (none)) else (none)
set_option maxHeartbeats 8000000 in
set_option maxRecDepth 100000 in
theorem table_writeTruth.calls (a0_0 : ByteArray) (a0_1 : Int) (a0_2 : Int) (a0_3 : Bool) (a1_0 : Int) (a1_1 : Int) (a1_2 : ByteArray) (r : ByteArray) (w : World) (h : table_writeTruth.f a0_0 a0_1 a0_2 a0_3 a1_0 a1_1 a1_2 = some r) :
  Calls Tryz.prog 125 #[.agg #[.string a0_0, .int .i64 a0_1, .int .i64 a0_2, .bool a0_3], .agg #[.int .i64 a1_0, .int .i64 a1_1, .string a1_2]] w fun e w' => e = .returned (.string r) ∧ Below w.heap.size w w' := by
 have hu23 := Tryz.underlying23
 have hu25 := Tryz.underlying25
 have HB := Z0 (Below.refl w.heap.size w)
 have H : (if 0 ≤ a1_1 then (if a1_1 ≤ (wrap64 (a1_1 + 1)) then (if (wrap64 (a1_1 + 1)) ≤ 2 then (some ((⟨#[70, 84]⟩ : ByteArray).extract (a1_1 : Int).toNat ((wrap64 (a1_1 + 1)) : Int).toNat)) else (none)) else (none)) else (none)) = some r := h
 clear h
 by_cases c3 : 0 ≤ a1_1
 ·rw [if_pos c3] at H
  have c3b0 := eq_true c3
  have c3b1 : decide (0 ≤ a1_1) = true := decide_eq_true c3
  clear c3
  by_cases c4 : a1_1 ≤ (wrap64 (a1_1 + 1))
  ·rw [if_pos c4] at H
   have c4b0 := eq_true c4
   have c4b1 : decide (a1_1 ≤ (wrap64 (a1_1 + 1))) = true := decide_eq_true c4
   by_cases c5 : (wrap64 (a1_1 + 1)) ≤ 2
   ·rw [if_pos c5] at H
    have c5b0 := eq_true c5
    have c5b1 : decide ((wrap64 (a1_1 + 1)) ≤ 2) = true := decide_eq_true c5
    obtain rfl := Option.some.inj H
    go_enter Tryz.func125, Tryz.ntmps125
    go_wp2_with (first | ((with_reducible refine Y4 (N := 2) rfl ?_); refine Y2 ?hg (N := 2) ?hd (cs := #[.string a0_0, .int .i64 a0_1, .int .i64 a0_2, .bool a0_3]) (t := 23) ?hr ?_; (case hd => rfl); (case hg => rfl); (case hr => go_simp; try rfl); intro gb552 hg w6 hbox hb; have n0_ := Z0 (Z6 HB.out hb); have n1_ := Z0 (hbox); have n3_ := Z0 ((by rw [hg]; exact (Y0 HB.out) : w.heap.size ≤ gb552)); clear HB; have HB := n0_; have BK552 := n1_; have GE552 := n3_; clear n0_ n1_ n3_; clear hb hbox hg) | ((with_reducible refine Y4 (N := 3) rfl ?_); refine Y2 ?hg (N := 3) ?hd (cs := #[.int .i64 a1_0, .int .i64 a1_1, .string a1_2]) (t := 25) ?hr ?_; (case hd => rfl); (case hg => rfl); (case hr => go_simp; try rfl); intro gb553 hg w7 hbox hb; have n0_ := Z0 (Z7 (g := gb552) (o := .cells #[.string a0_0, .int .i64 a0_1, .int .i64 a0_2, .bool a0_3] 23 (0, 0)) BK552.out hb); have n1_ := Z0 (Z6 HB.out hb); have n2_ := Z0 (hbox); have n4_ := Z0 ((by rw [hg]; exact (Y0 HB.out) : w.heap.size ≤ gb553)); have n5_ := Z0 ((by rw [hg]; exact Nat.ne_of_lt (blk_lt (g := gb552) (o := .cells #[.string a0_0, .int .i64 a0_1, .int .i64 a0_2, .bool a0_3] 23 (0, 0)) BK552.out) : gb552 ≠ gb553)); have n6_ := Z0 ((by rw [hg]; exact Nat.ne_of_gt (blk_lt (g := gb552) (o := .cells #[.string a0_0, .int .i64 a0_1, .int .i64 a0_2, .bool a0_3] 23 (0, 0)) BK552.out) : gb553 ≠ gb552)); clear BK552; clear HB; have BK552 := n0_; have HB := n1_; have BK553 := n2_; have GE553 := n4_; have NB552_553 := n5_; have NB553_552 := n6_; clear n0_ n1_ n2_ n4_ n5_ n6_; clear hb hbox hg; have hnb8 := NB553_552.out; have hnc8 := NB552_553.out; have hcz9_0 : w7.cell? ⟨gb553, 0, none⟩ = some (.int .i64 a1_0) := (Z2 BK553.out 0).trans rfl; have hcz9_1 : w7.cell? ⟨gb553, 1, none⟩ = some (.int .i64 a1_1) := (Z2 BK553.out 1).trans rfl; have hcz9_2 : w7.cell? ⟨gb553, 2, none⟩ = some (.string a1_2) := (Z2 BK553.out 2).trans rfl; have hfz9_0 := Z1 BK553.out 0; have hfz9_1 := Z1 BK553.out 1; have hfz9_2 := Z1 BK553.out 2))
    go_ret
    exact ⟨rfl, V0⟩
   ·rw [if_neg c5] at H
    exact absurd H (by simp)
  ·rw [if_neg c4] at H
   exact absurd H (by simp)
 ·rw [if_neg c3] at H
  exact absurd H (by simp)
def table_writeNum.f (k : Nat) (a0_0 : ByteArray) (a0_1 : Int) (a0_2 : Int) (a0_3 : Bool) (a1_0 : Int) (a1_1 : Int) (a1_2 : ByteArray) : Option (ByteArray) := (val_Str.f k a1_1 a0_2).bind fun bt543 => (some bt543.1)
theorem table_writeNum.mono : ∀ a0 a1 a2 a3 a4 a5 a6 k, LeO (table_writeNum.f k a0 a1 a2 a3 a4 a5 a6) (table_writeNum.f (k + 1) a0 a1 a2 a3 a4 a5 a6) := by
 intro a0 a1 a2 a3 a4 a5 a6 k
 unfold table_writeNum.f
 repeat' first
   | (with_reducible exact val_Str.mono _ _ _)
   | (with_reducible exact LeO.refl _)
   | (with_reducible exact Y5 _)
   | (with_reducible refine Y7 ?_ ?_)
   | (with_reducible refine Y6 ?_ (fun _ => ?_))
   | exact val_Str.mono _ _ _
   | exact Y5 _
   | refine Y7 ?_ ?_
   | refine Y6 ?_ (fun _ => ?_)
set_option maxHeartbeats 8000000 in
set_option maxRecDepth 100000 in
theorem table_writeNum.calls (k : Nat) (a0_0 : ByteArray) (a0_1 : Int) (a0_2 : Int) (a0_3 : Bool) (a1_0 : Int) (a1_1 : Int) (a1_2 : ByteArray) (r : ByteArray) (w : World) (h : table_writeNum.f k a0_0 a0_1 a0_2 a0_3 a1_0 a1_1 a1_2 = some r) :
  Calls Tryz.prog 127 #[.agg #[.string a0_0, .int .i64 a0_1, .int .i64 a0_2, .bool a0_3], .agg #[.int .i64 a1_0, .int .i64 a1_1, .string a1_2]] w fun e w' => e = .returned (.string r) ∧ Below w.heap.size w w' := by
 have hu23 := Tryz.underlying23
 have hu25 := Tryz.underlying25
 have HB := Z0 (Below.refl w.heap.size w)
 have H : ((val_Str.f k a1_1 a0_2).bind fun bt543 => (some bt543.1)) = some r := h
 clear h
 replace H := Option.bind_eq_some_iff.mp H
 obtain ⟨⟨t543, t544⟩, A30, H⟩ := H
 replace H : (some t543) = some r := H
 have A3 := Z0 A30
 clear A30
 obtain rfl := Option.some.inj H
 go_enter Tryz.func127, Tryz.ntmps127
 go_wp2_with (first | ((with_reducible refine Y4 (N := 2) rfl ?_); refine Y2 ?hg (N := 2) ?hd (cs := #[.string a0_0, .int .i64 a0_1, .int .i64 a0_2, .bool a0_3]) (t := 23) ?hr ?_; (case hd => rfl); (case hg => rfl); (case hr => go_simp; try rfl); intro gb541 hg w4 hbox hb; have n0_ := Z0 (Z6 HB.out hb); have n1_ := Z0 (hbox); have n3_ := Z0 ((by rw [hg]; exact (Y0 HB.out) : w.heap.size ≤ gb541)); clear HB; have HB := n0_; have BK541 := n1_; have GE541 := n3_; clear n0_ n1_ n3_; clear hb hbox hg) | ((with_reducible refine Y4 (N := 3) rfl ?_); refine Y2 ?hg (N := 3) ?hd (cs := #[.int .i64 a1_0, .int .i64 a1_1, .string a1_2]) (t := 25) ?hr ?_; (case hd => rfl); (case hg => rfl); (case hr => go_simp; try rfl); intro gb542 hg w5 hbox hb; have n0_ := Z0 (Z7 (g := gb541) (o := .cells #[.string a0_0, .int .i64 a0_1, .int .i64 a0_2, .bool a0_3] 23 (0, 0)) BK541.out hb); have n1_ := Z0 (Z6 HB.out hb); have n2_ := Z0 (hbox); have n4_ := Z0 ((by rw [hg]; exact (Y0 HB.out) : w.heap.size ≤ gb542)); have n5_ := Z0 ((by rw [hg]; exact Nat.ne_of_lt (blk_lt (g := gb541) (o := .cells #[.string a0_0, .int .i64 a0_1, .int .i64 a0_2, .bool a0_3] 23 (0, 0)) BK541.out) : gb541 ≠ gb542)); have n6_ := Z0 ((by rw [hg]; exact Nat.ne_of_gt (blk_lt (g := gb541) (o := .cells #[.string a0_0, .int .i64 a0_1, .int .i64 a0_2, .bool a0_3] 23 (0, 0)) BK541.out) : gb542 ≠ gb541)); clear BK541; clear HB; have BK541 := n0_; have HB := n1_; have BK542 := n2_; have GE542 := n4_; have NB541_542 := n5_; have NB542_541 := n6_; clear n0_ n1_ n2_ n4_ n5_ n6_; clear hb hbox hg; have hnb6 := NB542_541.out; have hnc6 := NB541_542.out; have hcz7_0 : w5.cell? ⟨gb542, 0, none⟩ = some (.int .i64 a1_0) := (Z2 BK542.out 0).trans rfl; have hcz7_1 : w5.cell? ⟨gb542, 1, none⟩ = some (.int .i64 a1_1) := (Z2 BK542.out 1).trans rfl; have hcz7_2 : w5.cell? ⟨gb542, 2, none⟩ = some (.string a1_2) := (Z2 BK542.out 2).trans rfl; have hfz7_0 := Z1 BK542.out 0; have hfz7_1 := Z1 BK542.out 1; have hfz7_2 := Z1 BK542.out 2; have hcz8_0 : w5.cell? ⟨gb541, 0, none⟩ = some (.string a0_0) := (Z2 BK541.out 0).trans rfl; have hcz8_1 : w5.cell? ⟨gb541, 1, none⟩ = some (.int .i64 a0_1) := (Z2 BK541.out 1).trans rfl; have hcz8_2 : w5.cell? ⟨gb541, 2, none⟩ = some (.int .i64 a0_2) := (Z2 BK541.out 2).trans rfl; have hcz8_3 : w5.cell? ⟨gb541, 3, none⟩ = some (.bool a0_3) := (Z2 BK541.out 3).trans rfl; have hfz8_0 := Z1 BK541.out 0; have hfz8_1 := Z1 BK541.out 1; have hfz8_2 := Z1 BK541.out 2; have hfz8_3 := Z1 BK541.out 3) | ((with_reducible refine Y3 (f := 53) rfl ?_); refine goesL_ (some 12) rfl rfl Tryz.func53 (by kernel_rfl) rfl #[.int .i64 a1_1, .int .i64 a0_2] rfl V1 ?_; (with_reducible refine (val_Str.calls k a1_1 a0_2 t543 t544 _ A3.out).mono ?_); rintro e w9 ⟨rfl, hb⟩; refine ⟨_, rfl, ?_⟩; have n0_ := Z0 (Z7 (g := gb541) (o := .cells #[.string a0_0, .int .i64 a0_1, .int .i64 a0_2, .bool a0_3] 23 (0, 0)) BK541.out hb); have n1_ := Z0 (Z7 (g := gb542) (o := .cells #[.int .i64 a1_0, .int .i64 a1_1, .string a1_2] 25 (0, 0)) BK542.out hb); have n2_ := Z0 (Z6 HB.out hb); clear BK541; clear BK542; clear HB; have BK541 := n0_; have BK542 := n1_; have HB := n2_; clear n0_ n1_ n2_; (try clear hb); (try clear hb2); (try clear hk); (try clear hi)))
 go_ret
 exact ⟨rfl, V0⟩
def val_yearsDays.f (a0 : Int) : Option (Int) := some (wrap64 ((wrap64 ((wrap64 ((wrap64 (365 * (wrap64 (a0 - 1)))) + (wrap64 (Int.tdiv (wrap64 (a0 - 1)) 4)))) - (wrap64 (Int.tdiv (wrap64 (a0 - 1)) 100)))) + (wrap64 (Int.tdiv (wrap64 (a0 - 1)) 400))))
set_option maxHeartbeats 8000000 in
set_option maxRecDepth 100000 in
theorem val_yearsDays.calls (a0 : Int) (r : Int) (w : World) (h : val_yearsDays.f a0 = some r) :
  Calls Tryz.prog 180 #[.int .i64 a0] w fun e w' => e = .returned (.int .i64 r) ∧ Drawn0 w w' := by
 have H : (some (wrap64 ((wrap64 ((wrap64 ((wrap64 (365 * (wrap64 (a0 - 1)))) + (wrap64 (Int.tdiv (wrap64 (a0 - 1)) 4)))) - (wrap64 (Int.tdiv (wrap64 (a0 - 1)) 100)))) + (wrap64 (Int.tdiv (wrap64 (a0 - 1)) 400))))) = some r := h
 clear h
 obtain rfl := Option.some.inj H
 go_enter Tryz.func180, Tryz.ntmps180
 go_wp2
 go_ret
 exact ⟨V2, by repeat (first | exact Y9 _ | apply Y8)⟩
def val_isLeap.j0 : Nat → Bool → Option (Bool)
 | 0, _ => none
 | k + 1, x2 => some x2
def val_isLeap.f (k : Nat) (a0 : Int) : Option (Bool) := if (Int.tmod a0 4) = 0 then (if (Int.tmod a0 100) = 0 then (val_isLeap.j0 k ((Int.tmod a0 400) == 0)) else (val_isLeap.j0 k true)) else (val_isLeap.j0 k false)
theorem val_isLeap.mono_l : ∀ k, (∀ y0, LeO (val_isLeap.j0 k y0) (val_isLeap.j0 (k + 1) y0))
 | 0 => fun _ r h => by simp [val_isLeap.j0] at h
 | k + 1 => by
  have ih0 := val_isLeap.mono_l k
  ·intro y0
   unfold val_isLeap.j0
   repeat' first
   | (with_reducible exact ih0 _)
   | (with_reducible exact LeO.refl _)
   | (with_reducible exact Y5 _)
   | (with_reducible refine Y7 ?_ ?_)
   | (with_reducible refine Y6 ?_ (fun _ => ?_))
   | exact ih0 _
   | exact Y5 _
   | refine Y7 ?_ ?_
   | refine Y6 ?_ (fun _ => ?_)
theorem val_isLeap.mono : ∀ a0 k, LeO (val_isLeap.f k a0) (val_isLeap.f (k + 1) a0) := by
 intro a0 k
 have ih0 := val_isLeap.mono_l k
 unfold val_isLeap.f
 repeat' first
   | (with_reducible exact ih0 _)
   | (with_reducible exact LeO.refl _)
   | (with_reducible exact Y5 _)
   | (with_reducible refine Y7 ?_ ?_)
   | (with_reducible refine Y6 ?_ (fun _ => ?_))
   | exact ih0 _
   | exact Y5 _
   | refine Y7 ?_ ?_
   | refine Y6 ?_ (fun _ => ?_)
set_option maxHeartbeats 8000000 in
set_option maxRecDepth 100000 in
theorem val_isLeap.calls (k : Nat) (a0 : Int) (r : Bool) (w : World) (h : val_isLeap.f k a0 = some r) :
  Calls Tryz.prog 183 #[.int .i64 a0] w fun e w' => e = .returned (.bool r) ∧ Drawn0 w w' := by
 have H : (if (Int.tmod a0 4) = 0 then (if (Int.tmod a0 100) = 0 then (val_isLeap.j0 k ((Int.tmod a0 400) == 0)) else (val_isLeap.j0 k true)) else (val_isLeap.j0 k false)) = some r := h
 clear h
 have HC2 := Z0 H
 clear H
 go_enter Tryz.func183, Tryz.ntmps183
 go_upto_region 1 with (fail)
 go_cut [2] (fun v2 wc => ∃ (kq : Nat) (x2_1 : Bool), v2 = .bool x2_1 ∧ Aside0 (val_isLeap.j0 kq x2_1 = some r) ∧ Aside0 (kq ≤ k) ∧ Drawn0 w wc)
 case first =>
  have H := HC2.out
  clear HC2
  by_cases c3 : (Int.tmod a0 4) = 0
  ·rw [if_pos c3] at H
   have c3b0 : ((Int.tmod a0 4) == 0) = true := beq_iff_eq.mpr c3
   have c3b1 : ((Int.tmod a0 4) != 0) = false := bne_eq_false_iff_eq.mpr c3
   clear c3
   (first | rw [c3b0] | (simp only [i64_w, i32_w]; rw [c3b0]) | skip)
   by_cases c4 : (Int.tmod a0 100) = 0
   ·rw [if_pos c4] at H
    have c4b0 : ((Int.tmod a0 100) == 0) = true := beq_iff_eq.mpr c4
    have c4b1 : ((Int.tmod a0 100) != 0) = false := bne_eq_false_iff_eq.mpr c4
    clear c4
    have H' := Z0 H
    clear H
    go_wp2
    go_meet
    case rel => exact ⟨_, (((Int.tmod a0 400) == 0)), V2, H', ⟨by first | omega | exact Nat.le_refl _⟩, by repeat (first | exact Y9 _ | apply Y8)⟩
   ·rw [if_neg c4] at H
    have c4b0 : ((Int.tmod a0 100) == 0) = false := beq_eq_false_iff_ne.mpr c4
    have c4b1 : ((Int.tmod a0 100) != 0) = true := bne_iff_ne.mpr c4
    have H' := Z0 H
    clear H
    go_wp2
    go_meet
    case rel => exact ⟨_, (true), V2, H', ⟨by first | omega | exact Nat.le_refl _⟩, by repeat (first | exact Y9 _ | apply Y8)⟩
  ·rw [if_neg c3] at H
   have c3b0 : ((Int.tmod a0 4) == 0) = false := beq_eq_false_iff_ne.mpr c3
   have c3b1 : ((Int.tmod a0 4) != 0) = true := bne_iff_ne.mpr c3
   (first | rw [c3b0] | (simp only [i64_w, i32_w]; rw [c3b0]) | skip)
   have H' := Z0 H
   clear H
   go_wp2
   go_meet
   case rel => exact ⟨_, (false), V2, H', ⟨by first | omega | exact Nat.le_refl _⟩, by repeat (first | exact Y9 _ | apply Y8)⟩
 case rest =>
  clear HC2
  (try clear c1);(try clear p2);(try clear c3);(try clear c3b0);(try clear c3b1);(try clear c4);(try clear c4b0);(try clear c4b1)
  obtain ⟨kq, x2_1, rfl, HA, HJ1, ⟨mc1, rfl⟩⟩ := hcut
  cases kq with
  | zero => exact absurd HA.out (by simp [val_isLeap.j0])
  | succ kj1 =>
   have H := HA.out
   clear HA
   simp only [val_isLeap.j0] at H
   obtain rfl := Option.some.inj H
   go_wp2
   go_ret
   exact ⟨V2, by repeat (first | exact Y9 _ | apply Y8)⟩
end Go.Proofs.YtldpdidlfbphcaaGreatDoor.P
end
section
namespace Go.Proofs.YtldpdidlfbphcaaGreatDoor.P
open Go.RowKit Go.Proofs.YtldpdidlfbphcaaGreatDoorW.PrintWords Go.Proofs.YtldpdidlfbphcaaGreatDoorW.PrintLast Go.Proofs.YtldpdidlfbphcaaGreatDoorW.PrintMore
def mdS (m : Int) : Int := if m = 2 then 28 else if m = 4 ∨ m = 6 ∨ m = 9 ∨ m = 11 then 30 else 31
def val_monthDays.f (a0 : Int) (a1 : Int) : Option (Int) := if 1 ≤ a1 ∧ a1 ≤ 12 then (if a1 = 2 then (val_isLeap.f 1 a0).bind fun l => some (if l = true then 29 else 28) else some (mdS a1)) else none
set_option maxHeartbeats 8000000 in
set_option maxRecDepth 100000 in
theorem md_1 (y : Int) (w : World) : Calls Tryz.prog 179 #[.int .i64 y, .int .i64 1] w fun e w' => e = .returned (.int .i64 31) ∧ Below w.heap.size w w' := by
 have HB := Z0 (Below.refl w.heap.size w)
 go_enter Tryz.func179, Tryz.ntmps179
 go_wp2_with (first | fail)
 go_ret
 exact ⟨rfl, by repeat (first | exact HB.out | exact below_alloc HB.out _ | refine below_set ?_ (Nat.le_refl _))⟩
set_option maxHeartbeats 8000000 in
set_option maxRecDepth 100000 in
theorem md_2t (y : Int) (w : World) (hl : ∀ W, Calls Tryz.prog 183 #[.int .i64 y] W fun e w' => e = .returned (.bool true) ∧ Below W.heap.size W w') : Calls Tryz.prog 179 #[.int .i64 y, .int .i64 2] w fun e w' => e = .returned (.int .i64 29) ∧ Below w.heap.size w w' := by
 have HB := Z0 (Below.refl w.heap.size w)
 go_enter Tryz.func179, Tryz.ntmps179
 go_wp2_with (first | fail | (go_at_call 183; refine (hl _).mono ?_; rintro e w7 ⟨rfl, hb⟩; have n0_ := Z0 (Z6 (by repeat (first | exact HB.out | exact below_alloc HB.out _ | refine below_set ?_ (Nat.le_refl _))) hb); clear HB; have HB := n0_; clear n0_ hb))
 go_ret
 exact ⟨rfl, by repeat (first | exact HB.out | exact below_alloc HB.out _ | refine below_set ?_ (Nat.le_refl _))⟩
set_option maxHeartbeats 8000000 in
set_option maxRecDepth 100000 in
theorem md_2f (y : Int) (w : World) (hl : ∀ W, Calls Tryz.prog 183 #[.int .i64 y] W fun e w' => e = .returned (.bool false) ∧ Below W.heap.size W w') : Calls Tryz.prog 179 #[.int .i64 y, .int .i64 2] w fun e w' => e = .returned (.int .i64 28) ∧ Below w.heap.size w w' := by
 have HB := Z0 (Below.refl w.heap.size w)
 go_enter Tryz.func179, Tryz.ntmps179
 go_wp2_with (first | fail | (go_at_call 183; refine (hl _).mono ?_; rintro e w7 ⟨rfl, hb⟩; have hk7 := Z7 (blk_new w _) hb; have hc7 : w7.cell? ⟨w.heap.size, 1, none⟩ = some (.int .i64 28) := (Z2 hk7 1).trans rfl; clear hk7; have n0_ := Z0 (Z6 (by repeat (first | exact HB.out | exact below_alloc HB.out _ | refine below_set ?_ (Nat.le_refl _))) hb); clear HB; have HB := n0_; clear n0_ hb))
 go_ret
 exact ⟨rfl, by repeat (first | exact HB.out | exact below_alloc HB.out _ | refine below_set ?_ (Nat.le_refl _))⟩
set_option maxHeartbeats 8000000 in
set_option maxRecDepth 100000 in
theorem md_3 (y : Int) (w : World) : Calls Tryz.prog 179 #[.int .i64 y, .int .i64 3] w fun e w' => e = .returned (.int .i64 31) ∧ Below w.heap.size w w' := by
 have HB := Z0 (Below.refl w.heap.size w)
 go_enter Tryz.func179, Tryz.ntmps179
 go_wp2_with (first | fail)
 go_ret
 exact ⟨rfl, by repeat (first | exact HB.out | exact below_alloc HB.out _ | refine below_set ?_ (Nat.le_refl _))⟩
set_option maxHeartbeats 8000000 in
set_option maxRecDepth 100000 in
theorem md_4 (y : Int) (w : World) : Calls Tryz.prog 179 #[.int .i64 y, .int .i64 4] w fun e w' => e = .returned (.int .i64 30) ∧ Below w.heap.size w w' := by
 have HB := Z0 (Below.refl w.heap.size w)
 go_enter Tryz.func179, Tryz.ntmps179
 go_wp2_with (first | fail)
 go_ret
 exact ⟨rfl, by repeat (first | exact HB.out | exact below_alloc HB.out _ | refine below_set ?_ (Nat.le_refl _))⟩
set_option maxHeartbeats 8000000 in
set_option maxRecDepth 100000 in
theorem md_5 (y : Int) (w : World) : Calls Tryz.prog 179 #[.int .i64 y, .int .i64 5] w fun e w' => e = .returned (.int .i64 31) ∧ Below w.heap.size w w' := by
 have HB := Z0 (Below.refl w.heap.size w)
 go_enter Tryz.func179, Tryz.ntmps179
 go_wp2_with (first | fail)
 go_ret
 exact ⟨rfl, by repeat (first | exact HB.out | exact below_alloc HB.out _ | refine below_set ?_ (Nat.le_refl _))⟩
set_option maxHeartbeats 8000000 in
set_option maxRecDepth 100000 in
theorem md_6 (y : Int) (w : World) : Calls Tryz.prog 179 #[.int .i64 y, .int .i64 6] w fun e w' => e = .returned (.int .i64 30) ∧ Below w.heap.size w w' := by
 have HB := Z0 (Below.refl w.heap.size w)
 go_enter Tryz.func179, Tryz.ntmps179
 go_wp2_with (first | fail)
 go_ret
 exact ⟨rfl, by repeat (first | exact HB.out | exact below_alloc HB.out _ | refine below_set ?_ (Nat.le_refl _))⟩
set_option maxHeartbeats 8000000 in
set_option maxRecDepth 100000 in
theorem md_7 (y : Int) (w : World) : Calls Tryz.prog 179 #[.int .i64 y, .int .i64 7] w fun e w' => e = .returned (.int .i64 31) ∧ Below w.heap.size w w' := by
 have HB := Z0 (Below.refl w.heap.size w)
 go_enter Tryz.func179, Tryz.ntmps179
 go_wp2_with (first | fail)
 go_ret
 exact ⟨rfl, by repeat (first | exact HB.out | exact below_alloc HB.out _ | refine below_set ?_ (Nat.le_refl _))⟩
set_option maxHeartbeats 8000000 in
set_option maxRecDepth 100000 in
theorem md_8 (y : Int) (w : World) : Calls Tryz.prog 179 #[.int .i64 y, .int .i64 8] w fun e w' => e = .returned (.int .i64 31) ∧ Below w.heap.size w w' := by
 have HB := Z0 (Below.refl w.heap.size w)
 go_enter Tryz.func179, Tryz.ntmps179
 go_wp2_with (first | fail)
 go_ret
 exact ⟨rfl, by repeat (first | exact HB.out | exact below_alloc HB.out _ | refine below_set ?_ (Nat.le_refl _))⟩
set_option maxHeartbeats 8000000 in
set_option maxRecDepth 100000 in
theorem md_9 (y : Int) (w : World) : Calls Tryz.prog 179 #[.int .i64 y, .int .i64 9] w fun e w' => e = .returned (.int .i64 30) ∧ Below w.heap.size w w' := by
 have HB := Z0 (Below.refl w.heap.size w)
 go_enter Tryz.func179, Tryz.ntmps179
 go_wp2_with (first | fail)
 go_ret
 exact ⟨rfl, by repeat (first | exact HB.out | exact below_alloc HB.out _ | refine below_set ?_ (Nat.le_refl _))⟩
set_option maxHeartbeats 8000000 in
set_option maxRecDepth 100000 in
theorem md_10 (y : Int) (w : World) : Calls Tryz.prog 179 #[.int .i64 y, .int .i64 10] w fun e w' => e = .returned (.int .i64 31) ∧ Below w.heap.size w w' := by
 have HB := Z0 (Below.refl w.heap.size w)
 go_enter Tryz.func179, Tryz.ntmps179
 go_wp2_with (first | fail)
 go_ret
 exact ⟨rfl, by repeat (first | exact HB.out | exact below_alloc HB.out _ | refine below_set ?_ (Nat.le_refl _))⟩
set_option maxHeartbeats 8000000 in
set_option maxRecDepth 100000 in
theorem md_11 (y : Int) (w : World) : Calls Tryz.prog 179 #[.int .i64 y, .int .i64 11] w fun e w' => e = .returned (.int .i64 30) ∧ Below w.heap.size w w' := by
 have HB := Z0 (Below.refl w.heap.size w)
 go_enter Tryz.func179, Tryz.ntmps179
 go_wp2_with (first | fail)
 go_ret
 exact ⟨rfl, by repeat (first | exact HB.out | exact below_alloc HB.out _ | refine below_set ?_ (Nat.le_refl _))⟩
set_option maxHeartbeats 8000000 in
set_option maxRecDepth 100000 in
theorem md_12 (y : Int) (w : World) : Calls Tryz.prog 179 #[.int .i64 y, .int .i64 12] w fun e w' => e = .returned (.int .i64 31) ∧ Below w.heap.size w w' := by
 have HB := Z0 (Below.refl w.heap.size w)
 go_enter Tryz.func179, Tryz.ntmps179
 go_wp2_with (first | fail)
 go_ret
 exact ⟨rfl, by repeat (first | exact HB.out | exact below_alloc HB.out _ | refine below_set ?_ (Nat.le_refl _))⟩
theorem val_monthDays.calls (a0 : Int) (a1 : Int) (r : Int) (w : World) (h : val_monthDays.f a0 a1 = some r) :
  Calls Tryz.prog 179 #[.int .i64 a0, .int .i64 a1] w fun e w' => e = .returned (.int .i64 r) ∧ Below w.heap.size w w' := by
 unfold val_monthDays.f at h
 split at h
 ·rename_i hm
  by_cases h2 : a1 = 2
  ·subst h2
   rw [if_pos rfl] at h
   obtain ⟨l, hl, h⟩ := Option.bind_eq_some_iff.mp h
   cases l with
   | true => cases h; exact md_2t a0 w (fun W => (val_isLeap.calls 1 a0 true W hl).mono (fun _ _ hx => ⟨hx.1, hx.2.below⟩))
   | false => cases h; exact md_2f a0 w (fun W => (val_isLeap.calls 1 a0 false W hl).mono (fun _ _ hx => ⟨hx.1, hx.2.below⟩))
  rw [if_neg h2] at h
  by_cases h1 : a1 = 1
  ·subst h1; cases h; exact md_1 a0 w
  by_cases h3 : a1 = 3
  ·subst h3; cases h; exact md_3 a0 w
  by_cases h4 : a1 = 4
  ·subst h4; cases h; exact md_4 a0 w
  by_cases h5 : a1 = 5
  ·subst h5; cases h; exact md_5 a0 w
  by_cases h6 : a1 = 6
  ·subst h6; cases h; exact md_6 a0 w
  by_cases h7 : a1 = 7
  ·subst h7; cases h; exact md_7 a0 w
  by_cases h8 : a1 = 8
  ·subst h8; cases h; exact md_8 a0 w
  by_cases h9 : a1 = 9
  ·subst h9; cases h; exact md_9 a0 w
  by_cases h10 : a1 = 10
  ·subst h10; cases h; exact md_10 a0 w
  by_cases h11 : a1 = 11
  ·subst h11; cases h; exact md_11 a0 w
  have h12 : a1 = 12 := by omega
  subst h12; cases h; exact md_12 a0 w
 ·cases h
end Go.Proofs.YtldpdidlfbphcaaGreatDoor.P
end
section
namespace Go.Proofs.YtldpdidlfbphcaaGreatDoor.P
open Go.RowKit Go.Proofs.YtldpdidlfbphcaaGreatDoorW.PrintWords Go.Proofs.YtldpdidlfbphcaaGreatDoorW.PrintLast Go.Proofs.YtldpdidlfbphcaaGreatDoorW.PrintMore
attribute [local go_sem] max2_int min2_int max_two min_two max_three min_three max_four min_four
mutual
def val_Split.l0 : Nat → Int → Int → Option (Int × Int × Int × Int)
 | 0, _, _ => none
 | k + 1, x0, x6 => (val_yearsDays.f (wrap64 (x6 + 1))).bind fun t562 => (if t562 < x0 then (val_Split.l0 k x0 (wrap64 (x6 + 1))) else ((val_yearsDays.f x6).bind fun t563 => (val_Split.l1 k x6 (wrap64 (x0 - t563)) 1)))
def val_Split.l1 : Nat → Int → Int → Int → Option (Int × Int × Int × Int)
 | 0, _, _, _ => none
 | k + 1, x6, x7, x8 => (val_monthDays.f x6 x8).bind fun t564 => (if x7 > t564 then ((val_monthDays.f x6 x8).bind fun t565 => (val_Split.l1 k x6 (wrap64 (x7 - t565)) (wrap64 (x8 + 1)))) else (some (x6, x8, x7, 0)))
end
def val_Split.f (k : Nat) (a0 : Int) : Option (Int × Int × Int × Int) := (val_isDay.f a0).bind fun t561 => (if t561 = true then (if a0 = 0 then (some (0, 0, 0, 0)) else (val_Split.l0 k a0 (wrap64 ((wrap64 (Int.tdiv a0 366)) + 1)))) else (some (0, 0, 0, 1)))
theorem val_Split.mono_l : ∀ k, (∀ y0 y1, LeO (val_Split.l0 k y0 y1) (val_Split.l0 (k + 1) y0 y1)) ∧ (∀ y0 y1 y2, LeO (val_Split.l1 k y0 y1 y2) (val_Split.l1 (k + 1) y0 y1 y2))
 | 0 => ⟨fun _ _ r h => by simp [val_Split.l0] at h, fun _ _ _ r h => by simp [val_Split.l1] at h⟩
 | k + 1 => by
  obtain ⟨ih0, ih1⟩ := val_Split.mono_l k
  refine ⟨?_, ?_⟩
  ·intro y0 y1
   unfold val_Split.l0
   repeat' first
   | (with_reducible exact ih0 _ _)
   | (with_reducible exact ih1 _ _ _)
   | (with_reducible exact LeO.refl _)
   | (with_reducible exact Y5 _)
   | (with_reducible refine Y7 ?_ ?_)
   | (with_reducible refine Y6 ?_ (fun _ => ?_))
   | exact ih0 _ _
   | exact ih1 _ _ _
   | exact Y5 _
   | refine Y7 ?_ ?_
   | refine Y6 ?_ (fun _ => ?_)
  ·intro y0 y1 y2
   unfold val_Split.l1
   repeat' first
   | (with_reducible exact ih0 _ _)
   | (with_reducible exact ih1 _ _ _)
   | (with_reducible exact LeO.refl _)
   | (with_reducible exact Y5 _)
   | (with_reducible refine Y7 ?_ ?_)
   | (with_reducible refine Y6 ?_ (fun _ => ?_))
   | exact ih0 _ _
   | exact ih1 _ _ _
   | exact Y5 _
   | refine Y7 ?_ ?_
   | refine Y6 ?_ (fun _ => ?_)
theorem val_Split.mono : ∀ a0 k, LeO (val_Split.f k a0) (val_Split.f (k + 1) a0) := by
 intro a0 k
 obtain ⟨ih0, ih1⟩ := val_Split.mono_l k
 unfold val_Split.f
 repeat' first
   | (with_reducible exact ih0 _ _)
   | (with_reducible exact ih1 _ _ _)
   | (with_reducible exact LeO.refl _)
   | (with_reducible exact Y5 _)
   | (with_reducible refine Y7 ?_ ?_)
   | (with_reducible refine Y6 ?_ (fun _ => ?_))
   | exact ih0 _ _
   | exact ih1 _ _ _
   | exact Y5 _
   | refine Y7 ?_ ?_
   | refine Y6 ?_ (fun _ => ?_)
set_option maxHeartbeats 8000000 in
set_option maxRecDepth 100000 in
theorem val_Split.calls (k : Nat) (a0 : Int) (r1 : Int) (r2 : Int) (r3 : Int) (r4 : Int) (w : World) (h : val_Split.f k a0 = some (r1, r2, r3, r4)) :
  Calls Tryz.prog 177 #[.int .i64 a0] w fun e w' => e = .returned (.tuple #[.int .i64 r1, .int .i64 r2, .int .i64 r3, .int .i64 r4]) ∧ Below w.heap.size w w' := by
 have HB := Z0 (Below.refl w.heap.size w)
 have H : ((val_isDay.f a0).bind fun t561 => (if t561 = true then (if a0 = 0 then (some (0, 0, 0, 0)) else (val_Split.l0 k a0 (wrap64 ((wrap64 (Int.tdiv a0 366)) + 1)))) else (some (0, 0, 0, 1)))) = some (r1, r2, r3, r4) := h
 clear h
 replace H := Option.bind_eq_some_iff.mp H
 obtain ⟨t561, A20, H⟩ := H
 replace H : (if t561 = true then (if a0 = 0 then (some (0, 0, 0, 0)) else (val_Split.l0 k a0 (wrap64 ((wrap64 (Int.tdiv a0 366)) + 1)))) else (some (0, 0, 0, 1))) = some (r1, r2, r3, r4) := H
 have A2 := Z0 A20
 clear A20
 by_cases c3 : t561 = true
 ·subst c3
  have H1 : (if a0 = 0 then (some (0, 0, 0, 0)) else (val_Split.l0 k a0 (wrap64 ((wrap64 (Int.tdiv a0 366)) + 1)))) = some (r1, r2, r3, r4) := by rw [if_pos rfl] at H; exact H
  clear H
  have H := H1
  clear H1
  by_cases c4 : a0 = 0
  ·rw [if_pos c4] at H
   have c4b0 : (a0 == 0) = true := beq_iff_eq.mpr c4
   have c4b1 : (a0 != 0) = false := bne_eq_false_iff_eq.mpr c4
   clear c4
   simp only [Option.some.injEq, Prod.mk.injEq] at H
   obtain ⟨rfl, rfl, rfl, rfl⟩ := H
   go_enter Tryz.func177, Tryz.ntmps177
   go_wp2_with (first | ((with_reducible refine Y3 (f := 136) rfl ?_); refine goesL_ (some 10) rfl rfl Tryz.func136 (by kernel_rfl) rfl #[.int .i64 a0] rfl V1 ?_; (with_reducible refine (val_isDay.calls a0 true _ A2.out).mono ?_); rintro e w' ⟨rfl, ⟨nd, rfl⟩⟩; refine ⟨_, rfl, ?_⟩))
   refine bodyPost_ret (results_list (rs := [.tmp 2, .tmp 3, .tmp 4, .tmp 5]) rfl (by simp) (.tmp (.tmp (.tmp (.tmp .nil))))) rfl ?_
   exact ⟨rfl, V0⟩
  ·rw [if_neg c4] at H
   have c4b0 : (a0 == 0) = false := beq_eq_false_iff_ne.mpr c4
   have c4b1 : (a0 != 0) = true := bne_iff_ne.mpr c4
   have H' := Z0 H
   clear H
   go_enter Tryz.func177, Tryz.ntmps177
   go_wp2_with (first | ((with_reducible refine Y3 (f := 136) rfl ?_); refine goesL_ (some 10) rfl rfl Tryz.func136 (by kernel_rfl) rfl #[.int .i64 a0] rfl V1 ?_; (with_reducible refine (val_isDay.calls a0 true _ A2.out).mono ?_); rintro e w' ⟨rfl, ⟨nd, rfl⟩⟩; refine ⟨_, rfl, ?_⟩))
   go_loopg [6] k (fun kq v6 w' => ∃ (x6_1 : Int), v6 = .int .i64 x6_1 ∧ Aside0 (val_Split.l0 kq a0 x6_1 = some (r1, r2, r3, r4)) ∧ Aside0 (kq ≤ k) ∧ Aside0 (Below w.heap.size w w'))
   case atStart => exact ⟨(wrap64 ((wrap64 (Int.tdiv a0 366)) + 1)), V2, H', ⟨Nat.le_refl _⟩, ⟨V0⟩⟩
   case round =>
    clear H'
    (try clear c1);(try clear p2);(try clear c3);(try clear c4);(try clear c4b0);(try clear c4b1)
    obtain ⟨x6_1, rfl, HA, HK1, HB⟩ := hrel
    cases gk with
    | zero => exact absurd HA.out (by simp [val_Split.l0])
    | succ k1 =>
     have H := HA.out
     clear HA
     simp only [val_Split.l0] at H
     replace H := Option.bind_eq_some_iff.mp H
     obtain ⟨t562, A50, H⟩ := H
     replace H : (if t562 < a0 then (val_Split.l0 k1 a0 (wrap64 (x6_1 + 1))) else ((val_yearsDays.f x6_1).bind fun t563 => (val_Split.l1 k1 x6_1 (wrap64 (a0 - t563)) 1))) = some (r1, r2, r3, r4) := H
     have A5 := Z0 A50
     clear A50
     by_cases c6 : t562 < a0
     ·rw [if_pos c6] at H
      have c6b0 : decide (t562 < a0) = true := decide_eq_true c6
      clear c6
      have H' := Z0 H
      clear H
      go_wp2_with (first | ((with_reducible refine Y3 (f := 180) rfl ?_); refine goesL_ (some 19) rfl rfl Tryz.func180 (by kernel_rfl) rfl #[.int .i64 (wrap64 (x6_1 + 1))] rfl V1 ?_; (with_reducible refine (val_yearsDays.calls (wrap64 (x6_1 + 1)) t562 _ A5.out).mono ?_); rintro e w' ⟨rfl, ⟨nd, rfl⟩⟩; refine ⟨_, rfl, ?_⟩))
      go_roundg k1
      case measure => have := HK1.out; omega
      case rel => exact ⟨(wrap64 (x6_1 + 1)), V2, H', ⟨by have := HK1.out; omega⟩, ⟨V0⟩⟩
     ·rw [if_neg c6] at H
      have c6b0 : decide (t562 < a0) = false := decide_eq_false c6
      clear c6
      replace H := Option.bind_eq_some_iff.mp H
      obtain ⟨t563, A70, H⟩ := H
      replace H : (val_Split.l1 k1 x6_1 (wrap64 (a0 - t563)) 1) = some (r1, r2, r3, r4) := H
      have A7 := Z0 A70
      clear A70
      have H' := Z0 H
      clear H
      go_wp2_with (first | ((with_reducible refine Y3 (f := 180) rfl ?_); refine goesL_ (some 19) rfl rfl Tryz.func180 (by kernel_rfl) rfl #[.int .i64 (wrap64 (x6_1 + 1))] rfl V1 ?_; (with_reducible refine (val_yearsDays.calls (wrap64 (x6_1 + 1)) t562 _ A5.out).mono ?_); rintro e w' ⟨rfl, ⟨nd, rfl⟩⟩; refine ⟨_, rfl, ?_⟩) | ((with_reducible refine Y3 (f := 180) rfl ?_); refine goesL_ (some 26) rfl rfl Tryz.func180 (by kernel_rfl) rfl #[.int .i64 x6_1] rfl V1 ?_; (with_reducible refine (val_yearsDays.calls x6_1 t563 _ A7.out).mono ?_); rintro e w' ⟨rfl, ⟨nd, rfl⟩⟩; refine ⟨_, rfl, ?_⟩))
      go_loopg [7, 8] k1 (fun kq v7 v8 w' => ∃ (x7_2 : Int) (x8_2 : Int), v7 = .int .i64 x7_2 ∧ v8 = .int .i64 x8_2 ∧ Aside0 (val_Split.l1 kq x6_1 x7_2 x8_2 = some (r1, r2, r3, r4)) ∧ Aside0 (kq ≤ k1) ∧ Aside0 (Below w.heap.size w w'))
      case atStart => exact ⟨(wrap64 (a0 - t563)), (1), V2, V2, H', ⟨Nat.le_refl _⟩, ⟨V0⟩⟩
      case round =>
       clear H'
       (try clear c1);(try clear p2);(try clear c3);(try clear c4);(try clear c4b0);(try clear c4b1);(try clear c6);(try clear c6b0);(try clear p6);(try clear p2)
       obtain ⟨x7_2, x8_2, rfl, rfl, HA, HK2, HB⟩ := hrel
       cases gk with
       | zero => exact absurd HA.out (by simp [val_Split.l1])
       | succ k2 =>
        have H := HA.out
        clear HA
        simp only [val_Split.l1] at H
        replace H := Option.bind_eq_some_iff.mp H
        obtain ⟨t564, A80, H⟩ := H
        replace H : (if x7_2 > t564 then ((val_monthDays.f x6_1 x8_2).bind fun t565 => (val_Split.l1 k2 x6_1 (wrap64 (x7_2 - t565)) (wrap64 (x8_2 + 1)))) else (some (x6_1, x8_2, x7_2, 0))) = some (r1, r2, r3, r4) := H
        have A8 := Z0 A80
        clear A80
        by_cases c9 : x7_2 > t564
        ·rw [if_pos c9] at H
         have c9b0 : decide (t564 < x7_2) = true := decide_eq_true c9
         clear c9
         replace H := Option.bind_eq_some_iff.mp H
         obtain ⟨t565, A100, H⟩ := H
         replace H : (val_Split.l1 k2 x6_1 (wrap64 (x7_2 - t565)) (wrap64 (x8_2 + 1))) = some (r1, r2, r3, r4) := H
         have A10 := Z0 A100
         clear A100
         have H' := Z0 H
         clear H
         go_wp2_with (first | ((with_reducible refine Y3 (f := 179) rfl ?_); refine goesL_ (some 31) rfl rfl Tryz.func179 (by kernel_rfl) rfl #[.int .i64 x6_1, .int .i64 x8_2] rfl V1 ?_; (with_reducible refine (val_monthDays.calls x6_1 x8_2 t564 _ A8.out).mono ?_); rintro e w11 ⟨rfl, hb⟩; refine ⟨_, rfl, ?_⟩; have n0_ := Z0 (Z6 HB.out hb); clear HB; have HB := n0_; clear n0_; (try clear hb); (try clear hb2); (try clear hk); (try clear hi)) | ((with_reducible refine Y3 (f := 179) rfl ?_); refine goesL_ (some 36) rfl rfl Tryz.func179 (by kernel_rfl) rfl #[.int .i64 x6_1, .int .i64 x8_2] rfl V1 ?_; (with_reducible refine (val_monthDays.calls x6_1 x8_2 t565 _ A10.out).mono ?_); rintro e w12 ⟨rfl, hb⟩; refine ⟨_, rfl, ?_⟩; have n0_ := Z0 (Z6 HB.out hb); clear HB; have HB := n0_; clear n0_; (try clear hb); (try clear hb2); (try clear hk); (try clear hi)))
         go_roundg k2
         case measure => have := HK1.out; have := HK2.out; omega
         case rel => exact ⟨(wrap64 (x7_2 - t565)), (wrap64 (x8_2 + 1)), V2, V2, H', ⟨by have := HK1.out; have := HK2.out; omega⟩, ⟨V0⟩⟩
        ·rw [if_neg c9] at H
         have c9b0 : decide (t564 < x7_2) = false := decide_eq_false c9
         clear c9
         simp only [Option.some.injEq, Prod.mk.injEq] at H
         obtain ⟨rfl, rfl, rfl, rfl⟩ := H
         go_wp2_with (first | ((with_reducible refine Y3 (f := 179) rfl ?_); refine goesL_ (some 31) rfl rfl Tryz.func179 (by kernel_rfl) rfl #[.int .i64 x6_1, .int .i64 x8_2] rfl V1 ?_; (with_reducible refine (val_monthDays.calls x6_1 x8_2 t564 _ A8.out).mono ?_); rintro e w13 ⟨rfl, hb⟩; refine ⟨_, rfl, ?_⟩; have n0_ := Z0 (Z6 HB.out hb); clear HB; have HB := n0_; clear n0_; (try clear hb); (try clear hb2); (try clear hk); (try clear hi)))
         refine bodyPost_ret (results_list (rs := [.tmp 2, .tmp 3, .tmp 4, .tmp 5]) rfl (by simp) (.tmp (.tmp (.tmp (.tmp .nil))))) rfl ?_
         exact ⟨rfl, V0⟩
 ·replace c3 := Bool.eq_false_iff.mpr c3
  subst c3
  have H1 : (some (0, 0, 0, 1)) = some (r1, r2, r3, r4) := by rw [if_neg (show ¬ (false = true) by decide)] at H; exact H
  clear H
  have H := H1
  clear H1
  simp only [Option.some.injEq, Prod.mk.injEq] at H
  obtain ⟨rfl, rfl, rfl, rfl⟩ := H
  go_enter Tryz.func177, Tryz.ntmps177
  go_wp2_with (first | ((with_reducible refine Y3 (f := 136) rfl ?_); refine goesL_ (some 10) rfl rfl Tryz.func136 (by kernel_rfl) rfl #[.int .i64 a0] rfl V1 ?_; (with_reducible refine (val_isDay.calls a0 false _ A2.out).mono ?_); rintro e w' ⟨rfl, ⟨nd, rfl⟩⟩; refine ⟨_, rfl, ?_⟩))
  refine bodyPost_ret (results_list (rs := [.tmp 2, .tmp 3, .tmp 4, .tmp 5]) rfl (by simp) (.tmp (.tmp (.tmp (.tmp .nil))))) rfl ?_
  exact ⟨rfl, V0⟩
def val_padded.f (a0 : Int) (a1 : Int) : Option (ByteArray) := (val_decimal.f a0).bind fun t566 => ((strings_Repeat.f (⟨#[48]⟩ : ByteArray) (wrap64 (a1 - (t566.size : Int)))).bind fun t567 => (if t567.size + t566.size ≤ 9223372036854775807 then (some (t567 ++ t566)) else (none)))
set_option maxHeartbeats 8000000 in
set_option maxRecDepth 100000 in
theorem val_padded.calls (a0 : Int) (a1 : Int) (r : ByteArray) (w : World) (h : val_padded.f a0 a1 = some r) :
  Calls Tryz.prog 178 #[.int .i64 a0, .int .i64 a1] w fun e w' => e = .returned (.string r) ∧ Below w.heap.size w w' := by
 have HB := Z0 (Below.refl w.heap.size w)
 have H : ((val_decimal.f a0).bind fun t566 => ((strings_Repeat.f (⟨#[48]⟩ : ByteArray) (wrap64 (a1 - (t566.size : Int)))).bind fun t567 => (if t567.size + t566.size ≤ 9223372036854775807 then (some (t567 ++ t566)) else (none)))) = some r := h
 clear h
 replace H := Option.bind_eq_some_iff.mp H
 obtain ⟨t566, A30, H⟩ := H
 replace H : ((strings_Repeat.f (⟨#[48]⟩ : ByteArray) (wrap64 (a1 - (t566.size : Int)))).bind fun t567 => (if t567.size + t566.size ≤ 9223372036854775807 then (some (t567 ++ t566)) else (none))) = some r := H
 have A3 := Z0 A30
 clear A30
 replace H := Option.bind_eq_some_iff.mp H
 obtain ⟨t567, A40, H⟩ := H
 replace H : (if t567.size + t566.size ≤ 9223372036854775807 then (some (t567 ++ t566)) else (none)) = some r := H
 have A4 := Z0 A40
 clear A40
 by_cases c5 : t567.size + t566.size ≤ 9223372036854775807
 ·rw [if_pos c5] at H
  have c5b0 := eq_true c5
  have c5b1 : decide (t567.size + t566.size ≤ 9223372036854775807) = true := decide_eq_true c5
  try have c5b2 : (9223372036854775807 < t567.size + t566.size) = False := eq_false (Nat.not_lt.2 c5)
  obtain rfl := Option.some.inj H
  go_enter Tryz.func178, Tryz.ntmps178
  go_wp2_with (first | ((with_reducible refine Y3 (f := 98) rfl ?_); refine goesL_ (some 7) rfl rfl Tryz.func98 (by kernel_rfl) rfl #[.int .i64 a0] rfl V1 ?_; (with_reducible refine (val_decimal.calls a0 t566 _ A3.out).mono ?_); rintro e w6 ⟨rfl, hb⟩; refine ⟨_, rfl, ?_⟩; have n0_ := Z0 (Z6 HB.out hb); clear HB; have HB := n0_; clear n0_; (try clear hb); (try clear hb2); (try clear hk); (try clear hi)) | ((with_reducible refine Y3 (f := 99) rfl ?_); refine goesL_ (some 12) rfl rfl Tryz.func99 (by kernel_rfl) rfl #[.string (⟨#[48]⟩ : ByteArray), .int .i64 (wrap64 (a1 - (t566.size : Int)))] rfl V1 ?_; (with_reducible refine (strings_Repeat.calls (⟨#[48]⟩ : ByteArray) (wrap64 (a1 - (t566.size : Int))) t567 _ A4.out).mono ?_); rintro e w7 ⟨rfl, hb⟩; refine ⟨_, rfl, ?_⟩; have n0_ := Z0 (Z6 HB.out hb); clear HB; have HB := n0_; clear n0_; (try clear hb); (try clear hb2); (try clear hk); (try clear hi)))
  go_ret
  exact ⟨rfl, V0⟩
 ·rw [if_neg c5] at H
  exact absurd H (by simp)
def val_stamp.f (k : Nat) (a0 : Int) : Option (ByteArray) := (val_Split.f k a0).bind fun bt561 => ((val_padded.f bt561.1 4).bind fun t565 => ((val_padded.f bt561.2.1 2).bind fun t566 => (if t565.size + t566.size ≤ 9223372036854775807 then ((val_padded.f bt561.2.2.1 2).bind fun t567 => (if (t565 ++ t566).size + t567.size ≤ 9223372036854775807 then (some ((t565 ++ t566) ++ t567)) else (none))) else (none))))
theorem val_stamp.mono : ∀ a0 k, LeO (val_stamp.f k a0) (val_stamp.f (k + 1) a0) := by
 intro a0 k
 unfold val_stamp.f
 repeat' first
   | (with_reducible exact val_Split.mono _ _)
   | (with_reducible exact LeO.refl _)
   | (with_reducible exact Y5 _)
   | (with_reducible refine Y7 ?_ ?_)
   | (with_reducible refine Y6 ?_ (fun _ => ?_))
   | exact val_Split.mono _ _
   | exact Y5 _
   | refine Y7 ?_ ?_
   | refine Y6 ?_ (fun _ => ?_)
set_option maxHeartbeats 8000000 in
set_option maxRecDepth 100000 in
theorem val_stamp.calls (k : Nat) (a0 : Int) (r : ByteArray) (w : World) (h : val_stamp.f k a0 = some r) :
  Calls Tryz.prog 167 #[.int .i64 a0] w fun e w' => e = .returned (.string r) ∧ Below w.heap.size w w' := by
 have HB := Z0 (Below.refl w.heap.size w)
 have H : ((val_Split.f k a0).bind fun bt561 => ((val_padded.f bt561.1 4).bind fun t565 => ((val_padded.f bt561.2.1 2).bind fun t566 => (if t565.size + t566.size ≤ 9223372036854775807 then ((val_padded.f bt561.2.2.1 2).bind fun t567 => (if (t565 ++ t566).size + t567.size ≤ 9223372036854775807 then (some ((t565 ++ t566) ++ t567)) else (none))) else (none))))) = some r := h
 clear h
 replace H := Option.bind_eq_some_iff.mp H
 obtain ⟨⟨t561, t562, t563, t564⟩, A20, H⟩ := H
 replace H : ((val_padded.f t561 4).bind fun t565 => ((val_padded.f t562 2).bind fun t566 => (if t565.size + t566.size ≤ 9223372036854775807 then ((val_padded.f t563 2).bind fun t567 => (if (t565 ++ t566).size + t567.size ≤ 9223372036854775807 then (some ((t565 ++ t566) ++ t567)) else (none))) else (none)))) = some r := H
 have A2 := Z0 A20
 clear A20
 replace H := Option.bind_eq_some_iff.mp H
 obtain ⟨t565, A30, H⟩ := H
 replace H : ((val_padded.f t562 2).bind fun t566 => (if t565.size + t566.size ≤ 9223372036854775807 then ((val_padded.f t563 2).bind fun t567 => (if (t565 ++ t566).size + t567.size ≤ 9223372036854775807 then (some ((t565 ++ t566) ++ t567)) else (none))) else (none))) = some r := H
 have A3 := Z0 A30
 clear A30
 replace H := Option.bind_eq_some_iff.mp H
 obtain ⟨t566, A40, H⟩ := H
 replace H : (if t565.size + t566.size ≤ 9223372036854775807 then ((val_padded.f t563 2).bind fun t567 => (if (t565 ++ t566).size + t567.size ≤ 9223372036854775807 then (some ((t565 ++ t566) ++ t567)) else (none))) else (none)) = some r := H
 have A4 := Z0 A40
 clear A40
 by_cases c5 : t565.size + t566.size ≤ 9223372036854775807
 ·rw [if_pos c5] at H
  have c5b0 := eq_true c5
  have c5b1 : decide (t565.size + t566.size ≤ 9223372036854775807) = true := decide_eq_true c5
  try have c5b2 : (9223372036854775807 < t565.size + t566.size) = False := eq_false (Nat.not_lt.2 c5)
  replace H := Option.bind_eq_some_iff.mp H
  obtain ⟨t567, A60, H⟩ := H
  replace H : (if (t565 ++ t566).size + t567.size ≤ 9223372036854775807 then (some ((t565 ++ t566) ++ t567)) else (none)) = some r := H
  have A6 := Z0 A60
  clear A60
  by_cases c7 : (t565 ++ t566).size + t567.size ≤ 9223372036854775807
  ·rw [if_pos c7] at H
   have c7b0 := eq_true c7
   have c7b1 : decide ((t565 ++ t566).size + t567.size ≤ 9223372036854775807) = true := decide_eq_true c7
   try have c7b2 : (9223372036854775807 < (t565 ++ t566).size + t567.size) = False := eq_false (Nat.not_lt.2 c7)
   have c7b3 : (9223372036854775807 < t565.size + t566.size + t567.size) = False := eq_false (by rw [ByteArray.size_append] at c7; omega)
   obtain rfl := Option.some.inj H
   go_enter Tryz.func167, Tryz.ntmps167
   go_wp2_with (first | ((with_reducible refine Y3 (f := 177) rfl ?_); refine goesL_ (some 9) rfl rfl Tryz.func177 (by kernel_rfl) rfl #[.int .i64 a0] rfl V1 ?_; (with_reducible refine (val_Split.calls k a0 t561 t562 t563 t564 _ A2.out).mono ?_); rintro e w8 ⟨rfl, hb⟩; refine ⟨_, rfl, ?_⟩; have n0_ := Z0 (Z6 HB.out hb); clear HB; have HB := n0_; clear n0_; (try clear hb); (try clear hb2); (try clear hk); (try clear hi)) | ((with_reducible refine Y3 (f := 178) rfl ?_); refine goesL_ (some 15) rfl rfl Tryz.func178 (by kernel_rfl) rfl #[.int .i64 t561, .int .i64 4] rfl V1 ?_; (with_reducible refine (val_padded.calls t561 4 t565 _ A3.out).mono ?_); rintro e w9 ⟨rfl, hb⟩; refine ⟨_, rfl, ?_⟩; have n0_ := Z0 (Z6 HB.out hb); clear HB; have HB := n0_; clear n0_; (try clear hb); (try clear hb2); (try clear hk); (try clear hi)) | ((with_reducible refine Y3 (f := 178) rfl ?_); refine goesL_ (some 17) rfl rfl Tryz.func178 (by kernel_rfl) rfl #[.int .i64 t562, .int .i64 2] rfl V1 ?_; (with_reducible refine (val_padded.calls t562 2 t566 _ A4.out).mono ?_); rintro e w10 ⟨rfl, hb⟩; refine ⟨_, rfl, ?_⟩; have n0_ := Z0 (Z6 HB.out hb); clear HB; have HB := n0_; clear n0_; (try clear hb); (try clear hb2); (try clear hk); (try clear hi)) | ((with_reducible refine Y3 (f := 178) rfl ?_); refine goesL_ (some 20) rfl rfl Tryz.func178 (by kernel_rfl) rfl #[.int .i64 t563, .int .i64 2] rfl V1 ?_; (with_reducible refine (val_padded.calls t563 2 t567 _ A6.out).mono ?_); rintro e w11 ⟨rfl, hb⟩; refine ⟨_, rfl, ?_⟩; have n0_ := Z0 (Z6 HB.out hb); clear HB; have HB := n0_; clear n0_; (try clear hb); (try clear hb2); (try clear hk); (try clear hi)))
   go_ret
   exact ⟨rfl, V0⟩
  ·rw [if_neg c7] at H
   exact absurd H (by simp)
 ·rw [if_neg c5] at H
  exact absurd H (by simp)
def val_Stamp.f (k : Nat) (a0 : Int) : Option (ByteArray × Int) := (val_isDay.f a0).bind fun t554 => (if t554 = true then (if a0 = 0 then (some ((⟨#[32, 32, 32, 32, 32, 32, 32, 32]⟩ : ByteArray), 0)) else ((val_stamp.f k a0).bind fun t555 => (some (t555, 0)))) else (some ((⟨#[]⟩ : ByteArray), 1)))
theorem val_Stamp.mono : ∀ a0 k, LeO (val_Stamp.f k a0) (val_Stamp.f (k + 1) a0) := by
 intro a0 k
 unfold val_Stamp.f
 repeat' first
   | (with_reducible exact val_stamp.mono _ _)
   | (with_reducible exact LeO.refl _)
   | (with_reducible exact Y5 _)
   | (with_reducible refine Y7 ?_ ?_)
   | (with_reducible refine Y6 ?_ (fun _ => ?_))
   | exact val_stamp.mono _ _
   | exact Y5 _
   | refine Y7 ?_ ?_
   | refine Y6 ?_ (fun _ => ?_)
set_option maxHeartbeats 8000000 in
set_option maxRecDepth 100000 in
theorem val_Stamp.calls (k : Nat) (a0 : Int) (r1 : ByteArray) (r2 : Int) (w : World) (h : val_Stamp.f k a0 = some (r1, r2)) :
  Calls Tryz.prog 156 #[.int .i64 a0] w fun e w' => e = .returned (.tuple #[.string r1, .int .i64 r2]) ∧ Below w.heap.size w w' := by
 have HB := Z0 (Below.refl w.heap.size w)
 have H : ((val_isDay.f a0).bind fun t554 => (if t554 = true then (if a0 = 0 then (some ((⟨#[32, 32, 32, 32, 32, 32, 32, 32]⟩ : ByteArray), 0)) else ((val_stamp.f k a0).bind fun t555 => (some (t555, 0)))) else (some ((⟨#[]⟩ : ByteArray), 1)))) = some (r1, r2) := h
 clear h
 replace H := Option.bind_eq_some_iff.mp H
 obtain ⟨t554, A20, H⟩ := H
 replace H : (if t554 = true then (if a0 = 0 then (some ((⟨#[32, 32, 32, 32, 32, 32, 32, 32]⟩ : ByteArray), 0)) else ((val_stamp.f k a0).bind fun t555 => (some (t555, 0)))) else (some ((⟨#[]⟩ : ByteArray), 1))) = some (r1, r2) := H
 have A2 := Z0 A20
 clear A20
 by_cases c3 : t554 = true
 ·subst c3
  have H1 : (if a0 = 0 then (some ((⟨#[32, 32, 32, 32, 32, 32, 32, 32]⟩ : ByteArray), 0)) else ((val_stamp.f k a0).bind fun t555 => (some (t555, 0)))) = some (r1, r2) := by rw [if_pos rfl] at H; exact H
  clear H
  have H := H1
  clear H1
  by_cases c4 : a0 = 0
  ·rw [if_pos c4] at H
   have c4b0 : (a0 == 0) = true := beq_iff_eq.mpr c4
   have c4b1 : (a0 != 0) = false := bne_eq_false_iff_eq.mpr c4
   clear c4
   simp only [Option.some.injEq, Prod.mk.injEq] at H
   obtain ⟨rfl, rfl⟩ := H
   go_enter Tryz.func156, Tryz.ntmps156
   go_wp2_with (first | ((with_reducible refine Y3 (f := 136) rfl ?_); refine goesL_ (some 5) rfl rfl Tryz.func136 (by kernel_rfl) rfl #[.int .i64 a0] rfl V1 ?_; (with_reducible refine (val_isDay.calls a0 true _ A2.out).mono ?_); rintro e w' ⟨rfl, ⟨nd, rfl⟩⟩; refine ⟨_, rfl, ?_⟩))
   go_ret2
   exact ⟨rfl, V0⟩
  ·rw [if_neg c4] at H
   have c4b0 : (a0 == 0) = false := beq_eq_false_iff_ne.mpr c4
   have c4b1 : (a0 != 0) = true := bne_iff_ne.mpr c4
   replace H := Option.bind_eq_some_iff.mp H
   obtain ⟨t555, A50, H⟩ := H
   replace H : (some (t555, 0)) = some (r1, r2) := H
   have A5 := Z0 A50
   clear A50
   simp only [Option.some.injEq, Prod.mk.injEq] at H
   obtain ⟨rfl, rfl⟩ := H
   go_enter Tryz.func156, Tryz.ntmps156
   go_wp2_with (first | ((with_reducible refine Y3 (f := 136) rfl ?_); refine goesL_ (some 5) rfl rfl Tryz.func136 (by kernel_rfl) rfl #[.int .i64 a0] rfl V1 ?_; (with_reducible refine (val_isDay.calls a0 true _ A2.out).mono ?_); rintro e w' ⟨rfl, ⟨nd, rfl⟩⟩; refine ⟨_, rfl, ?_⟩) | ((with_reducible refine Y3 (f := 167) rfl ?_); refine goesL_ (some 10) rfl rfl Tryz.func167 (by kernel_rfl) rfl #[.int .i64 a0] rfl V1 ?_; (with_reducible refine (val_stamp.calls k a0 t555 _ A5.out).mono ?_); rintro e w6 ⟨rfl, hb⟩; refine ⟨_, rfl, ?_⟩; have n0_ := Z0 (Z6 V0 hb); clear HB; have HB := n0_; clear n0_; (try clear hb); (try clear hb2); (try clear hk); (try clear hi)))
   go_ret2
   exact ⟨rfl, V0⟩
 ·replace c3 := Bool.eq_false_iff.mpr c3
  subst c3
  have H1 : (some ((⟨#[]⟩ : ByteArray), 1)) = some (r1, r2) := by rw [if_neg (show ¬ (false = true) by decide)] at H; exact H
  clear H
  have H := H1
  clear H1
  simp only [Option.some.injEq, Prod.mk.injEq] at H
  obtain ⟨rfl, rfl⟩ := H
  go_enter Tryz.func156, Tryz.ntmps156
  go_wp2_with (first | ((with_reducible refine Y3 (f := 136) rfl ?_); refine goesL_ (some 5) rfl rfl Tryz.func136 (by kernel_rfl) rfl #[.int .i64 a0] rfl V1 ?_; (with_reducible refine (val_isDay.calls a0 false _ A2.out).mono ?_); rintro e w' ⟨rfl, ⟨nd, rfl⟩⟩; refine ⟨_, rfl, ?_⟩))
  go_ret2
  exact ⟨rfl, V0⟩
def table_writeDate.f (k : Nat) (a0_0 : ByteArray) (a0_1 : Int) (a0_2 : Int) (a0_3 : Bool) (a1_0 : Int) (a1_1 : Int) (a1_2 : ByteArray) : Option (ByteArray) := (val_Stamp.f k a1_1).bind fun bt558 => (some bt558.1)
theorem table_writeDate.mono : ∀ a0 a1 a2 a3 a4 a5 a6 k, LeO (table_writeDate.f k a0 a1 a2 a3 a4 a5 a6) (table_writeDate.f (k + 1) a0 a1 a2 a3 a4 a5 a6) := by
 intro a0 a1 a2 a3 a4 a5 a6 k
 unfold table_writeDate.f
 repeat' first
   | (with_reducible exact val_Stamp.mono _ _)
   | (with_reducible exact LeO.refl _)
   | (with_reducible exact Y5 _)
   | (with_reducible refine Y7 ?_ ?_)
   | (with_reducible refine Y6 ?_ (fun _ => ?_))
   | exact val_Stamp.mono _ _
   | exact Y5 _
   | refine Y7 ?_ ?_
   | refine Y6 ?_ (fun _ => ?_)
set_option maxHeartbeats 8000000 in
set_option maxRecDepth 100000 in
theorem table_writeDate.calls (k : Nat) (a0_0 : ByteArray) (a0_1 : Int) (a0_2 : Int) (a0_3 : Bool) (a1_0 : Int) (a1_1 : Int) (a1_2 : ByteArray) (r : ByteArray) (w : World) (h : table_writeDate.f k a0_0 a0_1 a0_2 a0_3 a1_0 a1_1 a1_2 = some r) :
  Calls Tryz.prog 129 #[.agg #[.string a0_0, .int .i64 a0_1, .int .i64 a0_2, .bool a0_3], .agg #[.int .i64 a1_0, .int .i64 a1_1, .string a1_2]] w fun e w' => e = .returned (.string r) ∧ Below w.heap.size w w' := by
 have hu23 := Tryz.underlying23
 have hu25 := Tryz.underlying25
 have HB := Z0 (Below.refl w.heap.size w)
 have H : ((val_Stamp.f k a1_1).bind fun bt558 => (some bt558.1)) = some r := h
 clear h
 replace H := Option.bind_eq_some_iff.mp H
 obtain ⟨⟨t558, t559⟩, A30, H⟩ := H
 replace H : (some t558) = some r := H
 have A3 := Z0 A30
 clear A30
 obtain rfl := Option.some.inj H
 go_enter Tryz.func129, Tryz.ntmps129
 go_wp2_with (first | ((with_reducible refine Y4 (N := 2) rfl ?_); refine Y2 ?hg (N := 2) ?hd (cs := #[.string a0_0, .int .i64 a0_1, .int .i64 a0_2, .bool a0_3]) (t := 23) ?hr ?_; (case hd => rfl); (case hg => rfl); (case hr => go_simp; try rfl); intro gb556 hg w4 hbox hb; have n0_ := Z0 (Z6 HB.out hb); have n1_ := Z0 (hbox); have n3_ := Z0 ((by rw [hg]; exact (Y0 HB.out) : w.heap.size ≤ gb556)); clear HB; have HB := n0_; have BK556 := n1_; have GE556 := n3_; clear n0_ n1_ n3_; clear hb hbox hg) | ((with_reducible refine Y4 (N := 3) rfl ?_); refine Y2 ?hg (N := 3) ?hd (cs := #[.int .i64 a1_0, .int .i64 a1_1, .string a1_2]) (t := 25) ?hr ?_; (case hd => rfl); (case hg => rfl); (case hr => go_simp; try rfl); intro gb557 hg w5 hbox hb; have n0_ := Z0 (Z7 (g := gb556) (o := .cells #[.string a0_0, .int .i64 a0_1, .int .i64 a0_2, .bool a0_3] 23 (0, 0)) BK556.out hb); have n1_ := Z0 (Z6 HB.out hb); have n2_ := Z0 (hbox); have n4_ := Z0 ((by rw [hg]; exact (Y0 HB.out) : w.heap.size ≤ gb557)); have n5_ := Z0 ((by rw [hg]; exact Nat.ne_of_lt (blk_lt (g := gb556) (o := .cells #[.string a0_0, .int .i64 a0_1, .int .i64 a0_2, .bool a0_3] 23 (0, 0)) BK556.out) : gb556 ≠ gb557)); have n6_ := Z0 ((by rw [hg]; exact Nat.ne_of_gt (blk_lt (g := gb556) (o := .cells #[.string a0_0, .int .i64 a0_1, .int .i64 a0_2, .bool a0_3] 23 (0, 0)) BK556.out) : gb557 ≠ gb556)); clear BK556; clear HB; have BK556 := n0_; have HB := n1_; have BK557 := n2_; have GE557 := n4_; have NB556_557 := n5_; have NB557_556 := n6_; clear n0_ n1_ n2_ n4_ n5_ n6_; clear hb hbox hg; have hnb6 := NB557_556.out; have hnc6 := NB556_557.out; have hcz7_0 : w5.cell? ⟨gb557, 0, none⟩ = some (.int .i64 a1_0) := (Z2 BK557.out 0).trans rfl; have hcz7_1 : w5.cell? ⟨gb557, 1, none⟩ = some (.int .i64 a1_1) := (Z2 BK557.out 1).trans rfl; have hcz7_2 : w5.cell? ⟨gb557, 2, none⟩ = some (.string a1_2) := (Z2 BK557.out 2).trans rfl; have hfz7_0 := Z1 BK557.out 0; have hfz7_1 := Z1 BK557.out 1; have hfz7_2 := Z1 BK557.out 2) | ((with_reducible refine Y3 (f := 156) rfl ?_); refine goesL_ (some 10) rfl rfl Tryz.func156 (by kernel_rfl) rfl #[.int .i64 a1_1] rfl V1 ?_; (with_reducible refine (val_Stamp.calls k a1_1 t558 t559 _ A3.out).mono ?_); rintro e w8 ⟨rfl, hb⟩; refine ⟨_, rfl, ?_⟩; have n0_ := Z0 (Z7 (g := gb556) (o := .cells #[.string a0_0, .int .i64 a0_1, .int .i64 a0_2, .bool a0_3] 23 (0, 0)) BK556.out hb); have n1_ := Z0 (Z7 (g := gb557) (o := .cells #[.int .i64 a1_0, .int .i64 a1_1, .string a1_2] 25 (0, 0)) BK557.out hb); have n2_ := Z0 (Z6 HB.out hb); clear BK556; clear BK557; clear HB; have BK556 := n0_; have BK557 := n1_; have HB := n2_; clear n0_ n1_ n2_; (try clear hb); (try clear hb2); (try clear hk); (try clear hi)))
 go_ret
 exact ⟨rfl, V0⟩
def table_writeText.f (a0_0 : ByteArray) (a0_1 : Int) (a0_2 : Int) (a0_3 : Bool) (a1_0 : Int) (a1_1 : Int) (a1_2 : ByteArray) : Option (ByteArray) := (strings_Repeat.f (⟨#[32]⟩ : ByteArray) (wrap64 (a0_2 - (a1_2.size : Int)))).bind fun t551 => (if a1_2.size + t551.size ≤ 9223372036854775807 then (some (a1_2 ++ t551)) else (none))
def table_writeText.T1 : Bool × List (List Nat × List Nat) := (true, [([], []), ([0], [0]), ([], []), ([2], [2]), ([], []), ([4], [4]), ([5], [5]), ([3, 6], [3, 6]), ([7], [7]), ([1, 8], [1, 8]), ([9, 8, 0, 1, 2, 3, 4, 5, 6, 7, 8, 9], [9])])
def table_writeText.B1 : List Nat := [0, 1, 0, 4, 0, 16, 48, 124, 252, 511, 1023]
theorem table_writeText.tab1 : rtab .any (opsOf Tryz.f131 1) = table_writeText.T1 := by kernel_rfl
theorem table_writeText.bits1 : waitsOk table_writeText.T1.2 table_writeText.B1 = true := by kernel_rfl
set_option maxHeartbeats 8000000 in
set_option maxRecDepth 100000 in
theorem table_writeText.calls (a0_0 : ByteArray) (a0_1 : Int) (a0_2 : Int) (a0_3 : Bool) (a1_0 : Int) (a1_1 : Int) (a1_2 : ByteArray) (r : ByteArray) (w : World) (h : table_writeText.f a0_0 a0_1 a0_2 a0_3 a1_0 a1_1 a1_2 = some r) :
  Calls Tryz.prog 131 #[.agg #[.string a0_0, .int .i64 a0_1, .int .i64 a0_2, .bool a0_3], .agg #[.int .i64 a1_0, .int .i64 a1_1, .string a1_2]] w fun e w' => e = .returned (.string r) ∧ Below w.heap.size w w' := by
 have hu23 := Tryz.underlying23
 have hu25 := Tryz.underlying25
 have HB := Z0 (Below.refl w.heap.size w)
 have H : ((strings_Repeat.f (⟨#[32]⟩ : ByteArray) (wrap64 (a0_2 - (a1_2.size : Int)))).bind fun t551 => (if a1_2.size + t551.size ≤ 9223372036854775807 then (some (a1_2 ++ t551)) else (none))) = some r := h
 clear h
 replace H := Option.bind_eq_some_iff.mp H
 obtain ⟨t551, A30, H⟩ := H
 replace H : (if a1_2.size + t551.size ≤ 9223372036854775807 then (some (a1_2 ++ t551)) else (none)) = some r := H
 have A3 := Z0 A30
 clear A30
 by_cases c4 : a1_2.size + t551.size ≤ 9223372036854775807
 ·rw [if_pos c4] at H
  have c4b0 := eq_true c4
  have c4b1 : decide (a1_2.size + t551.size ≤ 9223372036854775807) = true := decide_eq_true c4
  try have c4b2 : (9223372036854775807 < a1_2.size + t551.size) = False := eq_false (Nat.not_lt.2 c4)
  obtain rfl := Option.some.inj H
  go_enter Tryz.func131, Tryz.ntmps131
  try go_wp2_with (first | ((with_reducible refine Y4 (N := 2) rfl ?_); refine Y2 ?hg (N := 2) ?hd (cs := #[.string a0_0, .int .i64 a0_1, .int .i64 a0_2, .bool a0_3]) (t := 23) ?hr ?_; (case hd => rfl); (case hg => rfl); (case hr => go_simp; try rfl); intro gb549 hg w5 hbox hb; have n0_ := Z0 (Z6 HB.out hb); have n1_ := Z0 (hbox); have n3_ := Z0 ((by rw [hg]; exact (Y0 HB.out) : w.heap.size ≤ gb549)); clear HB; have HB := n0_; have BK549 := n1_; have GE549 := n3_; clear n0_ n1_ n3_; clear hb hbox hg) | ((with_reducible refine Y4 (N := 3) rfl ?_); refine Y2 ?hg (N := 3) ?hd (cs := #[.int .i64 a1_0, .int .i64 a1_1, .string a1_2]) (t := 25) ?hr ?_; (case hd => rfl); (case hg => rfl); (case hr => go_simp; try rfl); intro gb550 hg w6 hbox hb; have n0_ := Z0 (Z7 (g := gb549) (o := .cells #[.string a0_0, .int .i64 a0_1, .int .i64 a0_2, .bool a0_3] 23 (0, 0)) BK549.out hb); have n1_ := Z0 (Z6 HB.out hb); have n2_ := Z0 (hbox); have n4_ := Z0 ((by rw [hg]; exact (Y0 HB.out) : w.heap.size ≤ gb550)); have n5_ := Z0 ((by rw [hg]; exact Nat.ne_of_lt (blk_lt (g := gb549) (o := .cells #[.string a0_0, .int .i64 a0_1, .int .i64 a0_2, .bool a0_3] 23 (0, 0)) BK549.out) : gb549 ≠ gb550)); have n6_ := Z0 ((by rw [hg]; exact Nat.ne_of_gt (blk_lt (g := gb549) (o := .cells #[.string a0_0, .int .i64 a0_1, .int .i64 a0_2, .bool a0_3] 23 (0, 0)) BK549.out) : gb550 ≠ gb549)); clear BK549; clear HB; have BK549 := n0_; have HB := n1_; have BK550 := n2_; have GE550 := n4_; have NB549_550 := n5_; have NB550_549 := n6_; clear n0_ n1_ n2_ n4_ n5_ n6_; clear hb hbox hg))
  have n0_ := Z0 (Y1 BK549.out)
  have n1_ := Z0 (Y1 BK550.out)
  have n2_ := Z0 (below_drew1 HB.out)
  clear BK549
  clear BK550
  clear HB
  have BK549 := n0_
  have BK550 := n1_
  have HB := n2_
  clear n0_ n1_ n2_
  refine start_ (n := 11) (S := fun w' => w'.cell? ⟨gb550, 0, none⟩ = some (.int .i64 a1_0) ∧ w'.cell? ⟨gb550, 1, none⟩ = some (.int .i64 a1_1) ∧ w'.cell? ⟨gb550, 2, none⟩ = some (.string a1_2) ∧ w'.cell? ⟨gb549, 0, none⟩ = some (.string a0_0) ∧ w'.cell? ⟨gb549, 1, none⟩ = some (.int .i64 a0_1) ∧ w'.cell? ⟨gb549, 2, none⟩ = some (.int .i64 a0_2) ∧ w'.cell? ⟨gb549, 3, none⟩ = some (.bool a0_3)) (ds := []) #[false, false, false, false, false, false, false, false, false, false, false] (by kernel_rfl) rfl rfl ⟨(Z2 BK550.out 0).trans rfl, (Z2 BK550.out 1).trans rfl, (Z2 BK550.out 2).trans rfl, (Z2 BK549.out 0).trans rfl, (Z2 BK549.out 1).trans rfl, (Z2 BK549.out 2).trans rfl, (Z2 BK549.out 3).trans rfl⟩ (fun hHeld => ?_); refine with_tabW table_writeText.tab1 table_writeText.bits1 (fun HT_ HW_ => ?_)
  generalize w6.drew = w7 at BK549 BK550 HB hHeld ⊢
  refine pure_ (i := 0) (N := some 5) (v := ?_) (a' := ?_) #[true, false, false, false, false, false, false, false, false, false, false] rfl rfl (any_of HT_.out (by kernel_rfl)) (fun _ _ _ h => h) (Or.inl ⟨by rfl, ?_⟩) ?_ ?_
  rotate_left
  ·intro w'
   go_simp
   with_reducible rfl
  rotate_left
  ·simp only [Act.put, Z3, Z4, Z5, i64_w, i32_w]
   rfl
  refine pure_ (i := 2) (N := some 7) (v := ?_) (a' := ?_) #[true, false, true, false, false, false, false, false, false, false, false] rfl rfl (any_of HT_.out (by kernel_rfl)) (fun _ _ _ h => h) (Or.inl ⟨by rfl, ?_⟩) ?_ ?_
  rotate_left
  ·intro w'
   go_simp
   with_reducible rfl
  rotate_left
  ·simp only [Act.put, Z3, Z4, Z5, i64_w, i32_w]
   rfl
  refine pure_ (i := 4) (N := some 9) (v := ?_) (a' := ?_) #[true, false, true, false, true, false, false, false, false, false, false] rfl rfl (any_of HT_.out (by kernel_rfl)) (fun _ _ _ h => h) (Or.inl ⟨by rfl, ?_⟩) ?_ ?_
  rotate_left
  ·intro w'
   go_simp
   with_reducible rfl
  rotate_left
  ·simp only [Act.put, Z3, Z4, Z5, i64_w, i32_w]
   rfl
  refine take_ (i := 1) (N := some 6) (v := ?_) (a' := ?_) #[true, true, true, false, true, false, false, false, false, false, false] rfl rfl (take_ofW HT_.out HW_.out (by kernel_rfl)) (fun _ _ _ h => h) (Or.inl ⟨by rfl, ?_⟩) hHeld ?_ ?_
  rotate_left
  ·rintro w' ⟨s0, s1, s2, s3, s4, s5, s6⟩
   go_simp
   with_reducible rfl
  rotate_left
  ·simp only [Act.put, Z3, Z4, Z5, i64_w, i32_w]
   rfl
  refine take_ (i := 3) (N := some 8) (v := ?_) (a' := ?_) #[true, true, true, true, true, false, false, false, false, false, false] rfl rfl (take_ofW HT_.out HW_.out (by kernel_rfl)) (fun _ _ _ h => h) (Or.inl ⟨by rfl, ?_⟩) hHeld ?_ ?_
  rotate_left
  ·rintro w' ⟨s0, s1, s2, s3, s4, s5, s6⟩
   go_simp
   with_reducible rfl
  rotate_left
  ·simp only [Act.put, Z3, Z4, Z5, i64_w, i32_w]
   rfl
  refine take_ (i := 5) (N := some 10) (v := ?_) (a' := ?_) #[true, true, true, true, true, true, false, false, false, false, false] rfl rfl (take_ofW HT_.out HW_.out (by kernel_rfl)) (fun _ _ _ h => h) (Or.inl ⟨by rfl, ?_⟩) hHeld ?_ ?_
  rotate_left
  ·rintro w' ⟨s0, s1, s2, s3, s4, s5, s6⟩
   go_simp
   with_reducible rfl
  rotate_left
  ·simp only [Act.put, Z3, Z4, Z5, i64_w, i32_w]
   rfl
  refine pure_ (i := 6) (N := some 11) (v := ?_) (a' := ?_) #[true, true, true, true, true, true, true, false, false, false, false] rfl rfl (any_of HT_.out (by kernel_rfl)) (fun _ _ _ h => h) (Or.inl ⟨by rfl, ?_⟩) ?_ ?_
  rotate_left
  ·intro w'
   go_simp
   with_reducible rfl
  rotate_left
  ·simp only [Act.put, Z3, Z4, Z5, i64_w, i32_w]
   rfl
  refine pure_ (i := 7) (N := some 12) (v := ?_) (a' := ?_) #[true, true, true, true, true, true, true, true, false, false, false] rfl rfl (any_of HT_.out (by kernel_rfl)) (fun _ _ _ h => h) (Or.inl ⟨by rfl, ?_⟩) ?_ ?_
  rotate_left
  ·intro w'
   go_simp
   with_reducible rfl
  rotate_left
  ·simp only [Act.put, Z3, Z4, Z5, i64_w, i32_w]
   rfl
  refine one_ (i := 8) (N := some 13) #[true, true, true, true, true, true, true, true, true, false, false] rfl rfl (one_of HT_.out (by kernel_rfl)) (by decide) (fun K hK => ?_)
  refine goes_ Tryz.func99 (by kernel_rfl) rfl #[.string (⟨#[32]⟩ : ByteArray), .int .i64 (wrap64 (a0_2 - (a1_2.size : Int)))] (by rfl) rfl rfl V1 ?_
  with_reducible refine (strings_Repeat.calls (⟨#[32]⟩ : ByteArray) (wrap64 (a0_2 - (a1_2.size : Int))) t551 _ A3.out).mono ?_
  rintro e w8 ⟨rfl, hb⟩
  refine ⟨_, rfl, ?_⟩
  have n0_ := Z0 (Z7 (g := gb549) (o := .cells #[.string a0_0, .int .i64 a0_1, .int .i64 a0_2, .bool a0_3] 23 (0, 0)) BK549.out hb)
  have n1_ := Z0 (Z7 (g := gb550) (o := .cells #[.int .i64 a1_0, .int .i64 a1_1, .string a1_2] 25 (0, 0)) BK550.out hb)
  have n2_ := Z0 (Z6 HB.out hb)
  clear BK549
  clear BK550
  clear HB
  have BK549 := n0_
  have BK550 := n1_
  have HB := n2_
  clear n0_ n1_ n2_
  (try clear hb)
  (try clear hb2)
  (try clear hk)
  (try clear hi)
  refine hK.out _ _ ⟨(Z2 BK550.out 0).trans rfl, (Z2 BK550.out 1).trans rfl, (Z2 BK550.out 2).trans rfl, (Z2 BK549.out 0).trans rfl, (Z2 BK549.out 1).trans rfl, (Z2 BK549.out 2).trans rfl, (Z2 BK549.out 3).trans rfl⟩ (fun hHeld => ?_)
  clear hK K
  refine norm_ (a' := ?_) ?_ ?_
  rotate_left
  ·show Act.put _ (some 13) _ = _
   simp only [Act.put, Z3, Z4, Z5, i64_w, i32_w]
   rfl
  refine pure_ (i := 9) (N := some 14) (v := ?_) (a' := ?_) #[true, true, true, true, true, true, true, true, true, true, false] rfl rfl (any_of HT_.out (by kernel_rfl)) (fun _ _ _ h => h) (Or.inl ⟨by rfl, ?_⟩) ?_ ?_
  rotate_left
  ·intro w'
   go_simp
   with_reducible rfl
  rotate_left
  ·simp only [Act.put, Z3, Z4, Z5, i64_w, i32_w]
   rfl
  refine pure_ (i := 10) (N := some 4) (v := ?_) (a' := ?_) #[true, true, true, true, true, true, true, true, true, true, true] rfl rfl (any_of HT_.out (by kernel_rfl)) (fun _ _ _ h => h) (Or.inl ⟨by rfl, ?_⟩) ?_ ?_
  rotate_left
  ·intro w'
   go_simp
   with_reducible rfl
  rotate_left
  ·simp only [Act.put, Z3, Z4, Z5, i64_w, i32_w]
   rfl
  refine done_ (done_of HT_.out (by kernel_rfl)) ?_
  try go_wp2
  go_ret
  exact ⟨rfl, V0⟩
 ·rw [if_neg c4] at H
  exact absurd H (by simp)
def table_writeMemo.f (k : Nat) (a0_0 : ByteArray) (a0_1 : Int) (a0_2 : Int) (a0_3 : Bool) (a1_0 : Int) (a1_1 : Int) (a1_2 : ByteArray) : Option (ByteArray) := if a1_1 = 0 then ((strings_Repeat.f (⟨#[32]⟩ : ByteArray) a0_2).bind fun t547 => (some t547)) else ((table_writeNum.f k a0_0 a0_1 a0_2 a0_3 a1_0 a1_1 a1_2).bind fun t548 => (some t548))
theorem table_writeMemo.mono : ∀ a0 a1 a2 a3 a4 a5 a6 k, LeO (table_writeMemo.f k a0 a1 a2 a3 a4 a5 a6) (table_writeMemo.f (k + 1) a0 a1 a2 a3 a4 a5 a6) := by
 intro a0 a1 a2 a3 a4 a5 a6 k
 unfold table_writeMemo.f
 repeat' first
   | (with_reducible exact table_writeNum.mono _ _ _ _ _ _ _ _)
   | (with_reducible exact LeO.refl _)
   | (with_reducible exact Y5 _)
   | (with_reducible refine Y7 ?_ ?_)
   | (with_reducible refine Y6 ?_ (fun _ => ?_))
   | exact table_writeNum.mono _ _ _ _ _ _ _ _
   | exact Y5 _
   | refine Y7 ?_ ?_
   | refine Y6 ?_ (fun _ => ?_)
set_option maxHeartbeats 8000000 in
set_option maxRecDepth 100000 in
theorem table_writeMemo.calls (k : Nat) (a0_0 : ByteArray) (a0_1 : Int) (a0_2 : Int) (a0_3 : Bool) (a1_0 : Int) (a1_1 : Int) (a1_2 : ByteArray) (r : ByteArray) (w : World) (h : table_writeMemo.f k a0_0 a0_1 a0_2 a0_3 a1_0 a1_1 a1_2 = some r) :
  Calls Tryz.prog 133 #[.agg #[.string a0_0, .int .i64 a0_1, .int .i64 a0_2, .bool a0_3], .agg #[.int .i64 a1_0, .int .i64 a1_1, .string a1_2]] w fun e w' => e = .returned (.string r) ∧ Below w.heap.size w w' := by
 have hu23 := Tryz.underlying23
 have hu25 := Tryz.underlying25
 have HB := Z0 (Below.refl w.heap.size w)
 have H : (if a1_1 = 0 then ((strings_Repeat.f (⟨#[32]⟩ : ByteArray) a0_2).bind fun t547 => (some t547)) else ((table_writeNum.f k a0_0 a0_1 a0_2 a0_3 a1_0 a1_1 a1_2).bind fun t548 => (some t548))) = some r := h
 clear h
 by_cases c3 : a1_1 = 0
 ·rw [if_pos c3] at H
  have c3b0 : (a1_1 == 0) = true := beq_iff_eq.mpr c3
  have c3b1 : (a1_1 != 0) = false := bne_eq_false_iff_eq.mpr c3
  clear c3
  replace H := Option.bind_eq_some_iff.mp H
  obtain ⟨t547, A40, H⟩ := H
  replace H : (some t547) = some r := H
  have A4 := Z0 A40
  clear A40
  obtain rfl := Option.some.inj H
  go_enter Tryz.func133, Tryz.ntmps133
  go_wp2_with (first | ((with_reducible refine Y4 (N := 2) rfl ?_); refine Y2 ?hg (N := 2) ?hd (cs := #[.string a0_0, .int .i64 a0_1, .int .i64 a0_2, .bool a0_3]) (t := 23) ?hr ?_; (case hd => rfl); (case hg => rfl); (case hr => go_simp; try rfl); intro gb545 hg w5 hbox hb; have n0_ := Z0 (Z6 HB.out hb); have n1_ := Z0 (hbox); have n3_ := Z0 ((by rw [hg]; exact (Y0 HB.out) : w.heap.size ≤ gb545)); clear HB; have HB := n0_; have BK545 := n1_; have GE545 := n3_; clear n0_ n1_ n3_; clear hb hbox hg) | ((with_reducible refine Y4 (N := 3) rfl ?_); refine Y2 ?hg (N := 3) ?hd (cs := #[.int .i64 a1_0, .int .i64 a1_1, .string a1_2]) (t := 25) ?hr ?_; (case hd => rfl); (case hg => rfl); (case hr => go_simp; try rfl); intro gb546 hg w6 hbox hb; have n0_ := Z0 (Z7 (g := gb545) (o := .cells #[.string a0_0, .int .i64 a0_1, .int .i64 a0_2, .bool a0_3] 23 (0, 0)) BK545.out hb); have n1_ := Z0 (Z6 HB.out hb); have n2_ := Z0 (hbox); have n4_ := Z0 ((by rw [hg]; exact (Y0 HB.out) : w.heap.size ≤ gb546)); have n5_ := Z0 ((by rw [hg]; exact Nat.ne_of_lt (blk_lt (g := gb545) (o := .cells #[.string a0_0, .int .i64 a0_1, .int .i64 a0_2, .bool a0_3] 23 (0, 0)) BK545.out) : gb545 ≠ gb546)); have n6_ := Z0 ((by rw [hg]; exact Nat.ne_of_gt (blk_lt (g := gb545) (o := .cells #[.string a0_0, .int .i64 a0_1, .int .i64 a0_2, .bool a0_3] 23 (0, 0)) BK545.out) : gb546 ≠ gb545)); clear BK545; clear HB; have BK545 := n0_; have HB := n1_; have BK546 := n2_; have GE546 := n4_; have NB545_546 := n5_; have NB546_545 := n6_; clear n0_ n1_ n2_ n4_ n5_ n6_; clear hb hbox hg; have hnb7 := NB546_545.out; have hnc7 := NB545_546.out; have hcz8_0 : w6.cell? ⟨gb546, 0, none⟩ = some (.int .i64 a1_0) := (Z2 BK546.out 0).trans rfl; have hcz8_1 : w6.cell? ⟨gb546, 1, none⟩ = some (.int .i64 a1_1) := (Z2 BK546.out 1).trans rfl; have hcz8_2 : w6.cell? ⟨gb546, 2, none⟩ = some (.string a1_2) := (Z2 BK546.out 2).trans rfl; have hfz8_0 := Z1 BK546.out 0; have hfz8_1 := Z1 BK546.out 1; have hfz8_2 := Z1 BK546.out 2; have hcz9_0 : w6.cell? ⟨gb545, 0, none⟩ = some (.string a0_0) := (Z2 BK545.out 0).trans rfl; have hcz9_1 : w6.cell? ⟨gb545, 1, none⟩ = some (.int .i64 a0_1) := (Z2 BK545.out 1).trans rfl; have hcz9_2 : w6.cell? ⟨gb545, 2, none⟩ = some (.int .i64 a0_2) := (Z2 BK545.out 2).trans rfl; have hcz9_3 : w6.cell? ⟨gb545, 3, none⟩ = some (.bool a0_3) := (Z2 BK545.out 3).trans rfl; have hfz9_0 := Z1 BK545.out 0; have hfz9_1 := Z1 BK545.out 1; have hfz9_2 := Z1 BK545.out 2; have hfz9_3 := Z1 BK545.out 3) | ((with_reducible refine Y3 (f := 99) rfl ?_); refine goesL_ (some 10) rfl rfl Tryz.func99 (by kernel_rfl) rfl #[.string (⟨#[32]⟩ : ByteArray), .int .i64 a0_2] rfl V1 ?_; (with_reducible refine (strings_Repeat.calls (⟨#[32]⟩ : ByteArray) a0_2 t547 _ A4.out).mono ?_); rintro e w10 ⟨rfl, hb⟩; refine ⟨_, rfl, ?_⟩; have n0_ := Z0 (Z7 (g := gb545) (o := .cells #[.string a0_0, .int .i64 a0_1, .int .i64 a0_2, .bool a0_3] 23 (0, 0)) BK545.out hb); have n1_ := Z0 (Z7 (g := gb546) (o := .cells #[.int .i64 a1_0, .int .i64 a1_1, .string a1_2] 25 (0, 0)) BK546.out hb); have n2_ := Z0 (Z6 HB.out hb); clear BK545; clear BK546; clear HB; have BK545 := n0_; have BK546 := n1_; have HB := n2_; clear n0_ n1_ n2_; (try clear hb); (try clear hb2); (try clear hk); (try clear hi)))
  go_ret
  exact ⟨rfl, V0⟩
 ·rw [if_neg c3] at H
  have c3b0 : (a1_1 == 0) = false := beq_eq_false_iff_ne.mpr c3
  have c3b1 : (a1_1 != 0) = true := bne_iff_ne.mpr c3
  replace H := Option.bind_eq_some_iff.mp H
  obtain ⟨t548, A110, H⟩ := H
  replace H : (some t548) = some r := H
  have A11 := Z0 A110
  clear A110
  obtain rfl := Option.some.inj H
  go_enter Tryz.func133, Tryz.ntmps133
  go_wp2_with (first | ((with_reducible refine Y4 (N := 2) rfl ?_); refine Y2 ?hg (N := 2) ?hd (cs := #[.string a0_0, .int .i64 a0_1, .int .i64 a0_2, .bool a0_3]) (t := 23) ?hr ?_; (case hd => rfl); (case hg => rfl); (case hr => go_simp; try rfl); intro gb545 hg w12 hbox hb; have n0_ := Z0 (Z6 HB.out hb); have n1_ := Z0 (hbox); have n3_ := Z0 ((by rw [hg]; exact (Y0 HB.out) : w.heap.size ≤ gb545)); clear HB; have HB := n0_; have BK545 := n1_; have GE545 := n3_; clear n0_ n1_ n3_; clear hb hbox hg) | ((with_reducible refine Y4 (N := 3) rfl ?_); refine Y2 ?hg (N := 3) ?hd (cs := #[.int .i64 a1_0, .int .i64 a1_1, .string a1_2]) (t := 25) ?hr ?_; (case hd => rfl); (case hg => rfl); (case hr => go_simp; try rfl); intro gb546 hg w13 hbox hb; have n0_ := Z0 (Z7 (g := gb545) (o := .cells #[.string a0_0, .int .i64 a0_1, .int .i64 a0_2, .bool a0_3] 23 (0, 0)) BK545.out hb); have n1_ := Z0 (Z6 HB.out hb); have n2_ := Z0 (hbox); have n4_ := Z0 ((by rw [hg]; exact (Y0 HB.out) : w.heap.size ≤ gb546)); have n5_ := Z0 ((by rw [hg]; exact Nat.ne_of_lt (blk_lt (g := gb545) (o := .cells #[.string a0_0, .int .i64 a0_1, .int .i64 a0_2, .bool a0_3] 23 (0, 0)) BK545.out) : gb545 ≠ gb546)); have n6_ := Z0 ((by rw [hg]; exact Nat.ne_of_gt (blk_lt (g := gb545) (o := .cells #[.string a0_0, .int .i64 a0_1, .int .i64 a0_2, .bool a0_3] 23 (0, 0)) BK545.out) : gb546 ≠ gb545)); clear BK545; clear HB; have BK545 := n0_; have HB := n1_; have BK546 := n2_; have GE546 := n4_; have NB545_546 := n5_; have NB546_545 := n6_; clear n0_ n1_ n2_ n4_ n5_ n6_; clear hb hbox hg; have hnb14 := NB546_545.out; have hnc14 := NB545_546.out; have hcz15_0 : w13.cell? ⟨gb546, 0, none⟩ = some (.int .i64 a1_0) := (Z2 BK546.out 0).trans rfl; have hcz15_1 : w13.cell? ⟨gb546, 1, none⟩ = some (.int .i64 a1_1) := (Z2 BK546.out 1).trans rfl; have hcz15_2 : w13.cell? ⟨gb546, 2, none⟩ = some (.string a1_2) := (Z2 BK546.out 2).trans rfl; have hfz15_0 := Z1 BK546.out 0; have hfz15_1 := Z1 BK546.out 1; have hfz15_2 := Z1 BK546.out 2; have hcz16_0 : w13.cell? ⟨gb545, 0, none⟩ = some (.string a0_0) := (Z2 BK545.out 0).trans rfl; have hcz16_1 : w13.cell? ⟨gb545, 1, none⟩ = some (.int .i64 a0_1) := (Z2 BK545.out 1).trans rfl; have hcz16_2 : w13.cell? ⟨gb545, 2, none⟩ = some (.int .i64 a0_2) := (Z2 BK545.out 2).trans rfl; have hcz16_3 : w13.cell? ⟨gb545, 3, none⟩ = some (.bool a0_3) := (Z2 BK545.out 3).trans rfl; have hfz16_0 := Z1 BK545.out 0; have hfz16_1 := Z1 BK545.out 1; have hfz16_2 := Z1 BK545.out 2; have hfz16_3 := Z1 BK545.out 3) | ((with_reducible refine Y3 (f := 127) rfl ?_); refine goesL_ (some 13) rfl rfl Tryz.func127 (by kernel_rfl) rfl #[.agg #[.string a0_0, .int .i64 a0_1, .int .i64 a0_2, .bool a0_3], .agg #[.int .i64 a1_0, .int .i64 a1_1, .string a1_2]] rfl V1 ?_; (with_reducible refine (table_writeNum.calls k a0_0 a0_1 a0_2 a0_3 a1_0 a1_1 a1_2 t548 _ A11.out).mono ?_); rintro e w17 ⟨rfl, hb⟩; refine ⟨_, rfl, ?_⟩; have n0_ := Z0 (Z7 (g := gb545) (o := .cells #[.string a0_0, .int .i64 a0_1, .int .i64 a0_2, .bool a0_3] 23 (0, 0)) BK545.out hb); have n1_ := Z0 (Z7 (g := gb546) (o := .cells #[.int .i64 a1_0, .int .i64 a1_1, .string a1_2] 25 (0, 0)) BK546.out hb); have n2_ := Z0 (Z6 HB.out hb); clear BK545; clear BK546; clear HB; have BK545 := n0_; have BK546 := n1_; have HB := n2_; clear n0_ n1_ n2_; (try clear hb); (try clear hb2); (try clear hk); (try clear hi)))
  go_ret
  exact ⟨rfl, V0⟩
end Go.Proofs.YtldpdidlfbphcaaGreatDoor.P
end
section
namespace Go.Proofs.YtldpdidlfbphcaaGreatDoor.P
open Go.RowKit Go.Proofs.YtldpdidlfbphcaaGreatDoorW.PrintWords Go.Proofs.YtldpdidlfbphcaaGreatDoorW.PrintLast Go.Proofs.YtldpdidlfbphcaaGreatDoorW.PrintMore
theorem store_box {P : Program} {ops : Array Oper} {rest : List Oper} {o : Oper} {a : Act} {Q : Exit → Act → World → Prop} {W : World} (hgd : o.guard = none) {ty : TypeId} {p : Tmp} {y : Operand} (ho : o.op = .store ty (.tmp p) y) (hd : o.dst = none)
  (g : Nat) {cells old : Array Value} {t : TypeId} (hx : a.eval (.tmp p) = .pointer (some ⟨g, 0, none⟩)) (hy : a.eval y = .agg cells) (hg : W.heap[g]? = some (.cells old t (0, 0))) (hi : (P.info? ty).map (·.size) = some cells.size) (hold : old.size = cells.size) (h1 : cells.all (·.oneCell') = true)
  (h : ∀ w1, w1.heap[g]? = some (.cells cells t (0, 0)) → (∀ B w0, Below B w0 W → B ≤ g → Below B w0 w1) → (∀ k, k ≠ g → w1.heap[k]? = W.heap[k]?) → wpList P ops Q rest a w1) : wpList P ops Q (o :: rest) a W := by
 refine wpList_store_row hgd ty (.tmp p) y ho g cells hx hy t old hg hi hold h1 ?_
 rw [hd]
 exact h _ (setRow_heap W g old cells t (0, 0) hg) (fun B w0 hb hB => below_setRow hb hB cells) (fun k hk => setRow_other W g k cells hk)
theorem R_append_str {ops : Array Oper} {rest : List Oper} {o : Oper} {a : Act} {Q : Exit → Act → World → Prop} {w0 W : World} (base : Nat) (hgd : o.guard = none) (s x : Operand)
  (ho : o.op = .call { callee := .builtin .append, args := #[s, x], argTypes := #[37, 9] }) (v : Value) (xs : List Int) (str : ByteArray) (ok : Nat → Prop) (hs : a.eval s = v) (hx : a.eval x = .string str)
  (HO : (Kd.int .u8).R 5 W base ok v xs) (HB : Below base w0 W) (hbase : base ≤ W.heap.size) (hl : xs.length + str.size ≤ 140737488355328)
  (h : ∀ v1 w1, (Kd.int .u8).R 5 w1 base (fun _ => True) v1 (xs ++ str.data.toList.map (fun b => (b.toNat : Int))) → Below base w0 w1 → wpList Tryz.prog ops Q rest (a.put o.dst v1) w1) : wpList Tryz.prog ops Q (o :: rest) a W := by
 obtain ⟨i0, hi, hz0, hz1, hz2⟩ := info_parts info5
 refine Lib.wpList_append_own_string W hgd s x 37 9 ho base 5 i0 Tryz.underlying37 Tryz.underlying9 hi hz0 hz1 hz2 v xs.length _ hs (Kd.own_of_R HO) str hx (by unfold maxLen; omega) hl hbase ?_
 intro v1 w1 hown hg _
 refine h v1 w1 (Kd.R_of_own ?_ (fun _ _ => trivial)) ?_
 ·have e1 : (xs ++ str.data.toList.map (fun b => (b.toNat : Int))).length = xs.length + str.size := by
   rw [List.length_append, List.length_map]; rfl
  have e2 : encs (Value.int .u8) (xs ++ str.data.toList.map (fun b => (b.toNat : Int))) = encs (Value.int .u8) xs ++ Lib.strCells str := by
   unfold encs Lib.strCells
   rw [List.map_append, List.map_map]
   rfl
  rw [e1, e2]
  exact hown
 ·exact HB.grown hg hbase (fun k hk => Kd.R_base HO k hk)
def writeO (f : S23) (v : S25) : Option ByteArray :=
 if f.f1 = 1 then table_writeTruth.f f.f0 f.f1 f.f2 f.f3 v.f0 v.f1 v.f2
 else if f.f1 = 2 then table_writeNum.f 100 f.f0 f.f1 f.f2 f.f3 v.f0 v.f1 v.f2
 else if f.f1 = 3 then table_writeDate.f 100 f.f0 f.f1 f.f2 f.f3 v.f0 v.f1 v.f2
 else if f.f1 = 4 then table_writeText.f f.f0 f.f1 f.f2 f.f3 v.f0 v.f1 v.f2
 else if f.f1 = 5 then table_writeMemo.f 100 f.f0 f.f1 f.f2 f.f3 v.f0 v.f1 v.f2
 else none
theorem write_any (f : S23) (v : S25) (p : ByteArray) (h : writeO f v = some p) : ∃ (c lo hi rf : Value) (K : Nat), kindVal f.f1 = .agg #[c, lo, hi, .func (.func K) #[] #[], rf] ∧ (∀ args W, (callFunc K args).run Tryz.prog W = .ok (.enter K args) W) ∧
  ∀ W, Calls Tryz.prog K #[.agg #[.string f.f0, .int .i64 f.f1, .int .i64 f.f2, .bool f.f3], .agg #[.int .i64 v.f0, .int .i64 v.f1, .string v.f2]] W fun e w' => e = .returned (.string p) ∧ Below W.heap.size W w' := by
 unfold writeO at h
 by_cases h1 : f.f1 = 1
 ·rw [if_pos h1] at h
  exact ⟨_, _, _, _, 125, by unfold kindVal; rw [if_pos h1]; rfl, fun args W => enters_ Tryz.func125 (by kernel_rfl) rfl args W, fun W => table_writeTruth.calls _ _ _ _ _ _ _ p W h⟩
 rw [if_neg h1] at h
 by_cases h2 : f.f1 = 2
 ·rw [if_pos h2] at h
  exact ⟨_, _, _, _, 127, by unfold kindVal; rw [if_neg h1, if_pos h2]; rfl, fun args W => enters_ Tryz.func127 (by kernel_rfl) rfl args W, fun W => table_writeNum.calls _ _ _ _ _ _ _ _ p W h⟩
 rw [if_neg h2] at h
 by_cases h3 : f.f1 = 3
 ·rw [if_pos h3] at h
  exact ⟨_, _, _, _, 129, by unfold kindVal; rw [if_neg h1, if_neg h2, if_pos h3]; rfl, fun args W => enters_ Tryz.func129 (by kernel_rfl) rfl args W, fun W => table_writeDate.calls _ _ _ _ _ _ _ _ p W h⟩
 rw [if_neg h3] at h
 by_cases h4 : f.f1 = 4
 ·rw [if_pos h4] at h
  exact ⟨_, _, _, _, 131, by unfold kindVal; rw [if_neg h1, if_neg h2, if_neg h3, if_pos h4]; rfl, fun args W => enters_ Tryz.func131 (by kernel_rfl) rfl args W, fun W => table_writeText.calls _ _ _ _ _ _ _ p W h⟩
 rw [if_neg h4] at h
 by_cases h5 : f.f1 = 5
 ·rw [if_pos h5] at h
  exact ⟨_, _, _, _, 133, by unfold kindVal; rw [if_neg h1, if_neg h2, if_neg h3, if_neg h4, if_pos h5]; rfl, fun args W => enters_ Tryz.func133 (by kernel_rfl) rfl args W, fun W => table_writeMemo.calls _ _ _ _ _ _ _ _ p W h⟩
 rw [if_neg h5] at h
 cases h
theorem goesV_ {P : Program} {ops : Array Oper} {Q : Exit → Act → World → Prop} {oi : Oper} {N : Option Tmp} {a : Act} {w : World} {K : Act → World → Prop} {f : FuncId} {x : Tmp} {xs0 : Array Operand} {ts : Array TypeId} (he : ∀ args W, (callFunc f args).run P W = .ok (.enter f args) W) (args : Array Value)
  (hw : Region.wanted oi (yielded ops a.tmps) = true) (hN : oi.dst = N) (hop : oi.op = .call { callee := .value (.tmp x), args := xs0, argTypes := ts }) (hx : a.eval (.tmp x) = .func (.func f) #[] #[]) (hargs : xs0.map a.eval = args)
  (h : Calls P f args w fun e w' => ∃ v, e = .returned v ∧ K (a.put N v) w') : if Region.wanted oi (yielded ops a.tmps) = true then Oper.wp P oi a w K Q else K (a.put N undef) w := by
 refine call_ f args hw hN ?_ h
 unfold execOp
 simp [hop, resolve, Deferred.ofValue, invoke, hx, hargs, he]
def rowFlag (f : S23) (v : S25) (x6 : List Int) (b : Int) : Option (List Int) :=
 if f.f3 = true then (if v.f0 = 0 then (if 0 ≤ wrap64 (Int.tdiv b 8) then (if wrap64 (Int.tdiv b 8) < (x6.length : Int) then (if 0 ≤ Int.tmod b 8 then some (x6.set (wrap64 (Int.tdiv b 8)).toNat (Go.bits .or .u8 (rd x6 (wrap64 (Int.tdiv b 8))) (shl .u8 1 (Int.tmod b 8)))) else none) else none) else none) else some x6) else some x6
def rowBit (f : S23) (b : Int) : Int := if f.f3 = true then wrap64 (b + 1) else b
def rowPart (f : S23) (v : S25) : Option ByteArray := if v.f0 = 0 then strings_Repeat.f (⟨#[32]⟩ : ByteArray) f.f2 else writeO f v
def rowL : List S23 → List S25 → List Int → Int → ByteArray → Option (List Int × ByteArray)
 | [], _, x6, _, X => some (x6, X)
 | _ :: _, [], _, _, _ => none
 | f :: fs, v :: vs, x6, b, X => (rowFlag f v x6 b).bind fun y6 => (rowPart f v).bind fun p => if X.size + p.size ≤ 140737488355328 then rowL fs vs y6 (rowBit f b) (X ++ p) else none
def bytesI (s : ByteArray) : List Int := s.data.toList.map (fun b => (b.toNat : Int))
def rowHead (g : Bool) : Int := if g = true then 42 else 32
def table_row.f (l0 : List S23) (g : Bool) (l1 : List S25) : Option (List Int) :=
 (table_nullBytes.f (l0.length + 2) l0).bind fun t => if 0 ≤ t then (if (t : Int).toNat ≤ 281474976710656 then (rowL l0 l1 (List.replicate (t : Int).toNat 0) 0 (⟨#[]⟩ : ByteArray)).bind fun FY => if l0.length ≤ 1000000000 ∧ FY.2.size ≠ 0 ∧ 1 + FY.1.length + FY.2.size ≤ 140737488355328 then some (([rowHead g] : List Int) ++ FY.1 ++ bytesI FY.2) else none else none) else none
def RowInv (w : World) (gr gB : Nat) (rc : Array Value) (vo vf : Value) (x5 x6 : List Int) (X : ByteArray) (W : World) : Prop :=
 Kd.R (Kd.int .u8) 5 W w.heap.size (fun k => k < gB) vo x5 ∧ Kd.R (Kd.int .u8) 5 W w.heap.size (fun k => k < gB) vf x6 ∧ (∀ k, vo.ownBlock = some k → vf.ownBlock ≠ some k) ∧
  W.heap[gr]? = some (.cells rc 46 (0, 0)) ∧ gr < gB ∧ w.heap.size ≤ gB ∧ Lib.IsBuilderF 126 5 gB gB (Lib.byteCells X.data.toList) W ∧ Below w.heap.size w W
theorem builder_below {T e : TypeId} {B b : Nat} {p : Value} {bs : List Value} {W W' : World} (h : Lib.BuilderAtF T e B b p bs W) (hb : Below W.heap.size W W') : Lib.BuilderAtF T e B b p bs W' := by
 have hlt := h.lt
 obtain ⟨hB, v, hv, hown, hne⟩ := h
 exact ⟨hB, v, (hb.block b hlt).trans hv, hown.kept (row := none) ⟨hb.os, hb.tape, hb.output, hb.size, fun k hk _ => hb.block k hk⟩ (Classical.em _), hne⟩
theorem isBuilder_below {T e : TypeId} {B b : Nat} {bs : List Value} {W W' : World} (h : Lib.IsBuilderF T e B b bs W) (hb : Below W.heap.size W W') : Lib.IsBuilderF T e B b bs W' :=
 h.elim (fun x => .inl (builder_below x hb)) (fun x => .inr (builder_below x hb))
theorem isBuilder_lt {T e : TypeId} {B b : Nat} {bs : List Value} {W : World} (h : Lib.IsBuilderF T e B b bs W) : b < W.heap.size := h.elim (·.lt) (·.lt)
theorem RowInv.below {w W W' : World} {gr gB : Nat} {rc : Array Value} {vo vf : Value} {x5 x6 : List Int} {X : ByteArray} (h : RowInv w gr gB rc vo vf x5 x6 X W) (hb : Below W.heap.size W W') : RowInv w gr gB rc vo vf x5 x6 X W' := by
 obtain ⟨h1, h2, h3, h4, h5, h6, h7, h8⟩ := h
 exact ⟨Kd.R_below h1 hb, Kd.R_below h2 hb, h3, Z7 h4 hb, h5, h6, isBuilder_below h7 hb, Z6 h8 hb⟩
theorem RowInv.flag {w W : World} {gr gB : Nat} {rc : Array Value} {vo : Value} {g cap n : Nat} {x5 x6 : List Int} {X : ByteArray} (h : RowInv w gr gB rc vo (.slice (some ⟨g, 0, none⟩) n cap) x5 x6 X W) (i x : Int) (h0 : 0 ≤ i) (hi : i < (x6.length : Int)) :
  RowInv w gr gB rc vo (.slice (some ⟨g, 0, none⟩) n cap) x5 (x6.set i.toNat x) X (W.setCell ⟨g, i.toNat, none⟩ (.int .u8 x)) ∧ g < gB := by
 obtain ⟨h1, h2, h3, h4, h5, h6, h7, h8⟩ := h
 obtain ⟨rfl, hnc, _⟩ := Kd.R_reads' h2
 have hlen : 0 < x6.length := by omega
 obtain ⟨g', cap', e', hbg, hlt, cells, hc⟩ := Kd.R_form h2 hlen
 injection e' with e1 _ _
 injection e1 with e1
 injection e1 with e1 _ _
 subst e1
 have hgB : g < gB := h2.1 g (by simp only [Value.ownBlock])
 have hoth : ∀ k, k ≠ g → (W.setCell ⟨g, i.toNat, none⟩ (.int .u8 x)).heap[k]? = W.heap[k]? := fun k hk => Below.heap_setCell W ⟨g, i.toNat, none⟩ _ k hk
 have hown : (Value.slice (some ⟨g, 0, none⟩) x6.length cap).ownBlock = some g := by
  simp only [Value.ownBlock]
 refine ⟨⟨?_, (Kd.R_put h2 i x).1, h3, ?_, h5, h6, ?_, below_set h8 hbg⟩, hgB⟩
 ·have h1' : Kd.R (Kd.int .u8) 5 W w.heap.size (fun k => k < gB ∧ k ≠ g) vo x5 := Kd.R_far1 h1 rfl (fun e => h3 g e.symm hown)
  exact Kd.R_mono (Kd.R_step h1' (fun k hk _ => hoth k hk.2)) (fun _ hk => hk.1)
 ·exact (hoth gr (fun e => by
   subst e
   rw [hc] at h4
   injection h4 with h4
   injection h4 with _ h4
   cases h4)).trans h4
 ·have hb : ∀ p, Lib.BuilderAtF 126 5 gB gB p (Lib.byteCells X.data.toList) W → Lib.BuilderAtF 126 5 gB gB p (Lib.byteCells X.data.toList) (W.setCell ⟨g, i.toNat, none⟩ (.int .u8 x)) := by
   rintro p ⟨hB, v, hv, ho, hne⟩
   refine ⟨hB, v, (hoth gB (by omega)).trans hv, ho.kept (row := some g) ⟨rfl, rfl, rfl, by simp [World.setCell], fun k _ hk => hoth k (fun e => hk (by rw [e]))⟩ (Or.inr ?_), hne⟩
   intro e
   rcases ho.2 with ⟨rfl, _⟩ | ⟨q, cap', cur, fz, rfl, hq, _⟩
   ·simp [Value.ownBlock] at e
   ·simp only [Value.ownBlock, Option.some.injEq] at e
    omega
  exact h7.elim (fun x => .inl (hb _ x)) (fun x => .inr (hb _ x))
theorem RowInv.write {w W W' : World} {gr gB : Nat} {rc : Array Value} {vo vf : Value} {x5 x6 : List Int} {X p : ByteArray} (h : RowInv w gr gB rc vo vf x5 x6 X W) (hw : Lib.BuilderAtF 126 5 gB gB (.pointer (some ⟨gB, 0, none⟩)) (Lib.byteCells X.data.toList ++ Lib.strCells p) W') (hb : Below gB W W') :
  RowInv w gr gB rc vo vf x5 x6 (X ++ p) W' := by
 obtain ⟨h1, h2, h3, h4, h5, h6, h7, h8⟩ := h
 refine ⟨Kd.R_step h1 (fun k hk _ => hb.block k hk), Kd.R_step h2 (fun k hk _ => hb.block k hk), h3, (hb.block gr h5).trans h4, h5, h6, .inr ?_, below_weaken h8 h6 hb⟩
 have e : Lib.byteCells (X ++ p).data.toList = Lib.byteCells X.data.toList ++ Lib.strCells p := by
  rw [Lib.strCells_eq]
  unfold Lib.byteCells
  rw [ByteArray.data_append, Array.toList_append, List.map_append]
 rw [e]
 exact hw
theorem isBuilder_grown {w W w1 : World} {gr gB : Nat} {rc : Array Value} {vo vf : Value} {x5 x6 : List Int} {X : ByteArray} (h : RowInv w gr gB rc vo vf x5 x6 X W) (hg : W.grownBy w1 vo.ownBlock) : Lib.IsBuilderF 126 5 gB gB (Lib.byteCells X.data.toList) w1 := by
 obtain ⟨h1, h2, h3, h4, h5, h6, h7, h8⟩ := h
 have hb : ∀ p, Lib.BuilderAtF 126 5 gB gB p (Lib.byteCells X.data.toList) W → Lib.BuilderAtF 126 5 gB gB p (Lib.byteCells X.data.toList) w1 := by
  rintro p ⟨hB, v, hv, ho, hne⟩
  refine ⟨hB, v, (hg.block gB (blk_lt hv) (fun e => by have := h1.1 gB e.symm; omega)).trans hv, ho.kept (row := vo.ownBlock) hg (Classical.byCases Or.inl (fun hn => Or.inr (fun e => hn ?_))), hne⟩
  rcases ho.2 with ⟨rfl, _⟩ | ⟨q, cap', cur, fz, rfl, hq, _⟩
  ·rfl
  ·simp only [Value.ownBlock] at e
   have := h1.1 q e.symm
   omega
 exact h7.elim (fun x => .inl (hb _ x)) (fun x => .inr (hb _ x))
theorem builder_away {w W w1 : World} {gr gB : Nat} {rc : Array Value} {vo vf v1 : Value} {x5 x6 : List Int} {X : ByteArray} (h : RowInv w gr gB rc vo vf x5 x6 X W) (hg : W.grownBy w1 vo.ownBlock) (hat : v1.ownBlock = vo.ownBlock ∨ ∃ b, v1.ownBlock = some b ∧ W.heap.size ≤ b) :
  ∀ k, v1.ownBlock = some k → ∀ v, w1.cell? ⟨gB, 1, none⟩ = some v → v.ownBlock ≠ some k := by
 intro k hk v hv hvk
 have hbb := h.2.2.2.2.2.2.1
 obtain ⟨p, hB, u, hu, ho, hne⟩ : ∃ p, Lib.BuilderAtF 126 5 gB gB p (Lib.byteCells X.data.toList) W := hbb.elim (fun x => ⟨_, x⟩) (fun x => ⟨_, x⟩)
 have hgB : w1.heap[gB]? = W.heap[gB]? := hg.block gB (blk_lt hu) (fun e => by have := h.1.1 gB e.symm; omega)
 have e1 : w1.cell? ⟨gB, 1, none⟩ = some u := by rw [Z2 (hgB.trans hu) 1]; rfl
 rw [e1] at hv
 obtain rfl := Option.some.inj hv
 rcases ho.2 with ⟨rfl, _⟩ | ⟨q, cap', cur, fz, rfl, hq, hqq, _⟩
 ·simp [Value.ownBlock] at hvk
 ·simp only [Value.ownBlock, Option.some.injEq] at hvk
  subst hvk
  have hlt := blk_lt hqq
  rcases hat with e | ⟨b, e, hb⟩
  ·have := h.1.1 q (e ▸ hk)
   omega
  ·rw [e] at hk
   injection hk with hk
   omega
set_option maxHeartbeats 2000000 in
set_option maxRecDepth 100000 in
theorem builder_string (b : Nat) (l : List UInt8) (w : World) (h : Lib.IsBuilderF 126 5 b b (Lib.byteCells l) w) (h0 : l ≠ []) :
  Calls Tryz.prog 112 #[.pointer (some ⟨b, 0, none⟩)] w fun e w' => e = .returned (.string ⟨l.toArray⟩) ∧ Below b w w' ∧ ∀ k o, w.heap[k]? = some o → (∀ v, w.cell? ⟨b, 1, none⟩ = some v → v.ownBlock ≠ some k) → w'.heap[k]? = some o := by
 obtain ⟨p, hB, v, hbk, hown, hne⟩ : ∃ p, Lib.BuilderAtF 126 5 b b p (Lib.byteCells l) w := h.elim (fun x => ⟨_, x⟩) (fun x => ⟨_, x⟩)
 have hl0 : l.length ≠ 0 := by simpa using h0
 rw [Lib.byteCells_length] at hown
 obtain ⟨g, cap, cur, fz, rfl, hbg, hg, hfz, hnc, hcm, hcs, htake⟩ : ∃ g cap cur fz, v = .slice (some ⟨g, 0, none⟩) l.length cap ∧ b ≤ g ∧ w.heap[g]? = some (.cells cur 5 fz) ∧ fz.2 ≤ l.length * 1 ∧ l.length ≤ cap ∧ cap ≤ maxLen ∧ cur.size = cap * 1 ∧ cur.toList.take (l.length * 1) = Lib.byteCells l := by
  rcases hown.2 with ⟨_, hz⟩ | ⟨g, cap, cur, fz, hv, r⟩
  ·exact absurd hz hl0
  ·exact ⟨g, cap, cur, fz, hv, r⟩
 have c1 : w.drew.cell? ⟨b, 1, none⟩ = some (.slice (some ⟨g, 0, none⟩) l.length cap) := by
  have : w.drew.heap[b]? = some (.cells #[p, .slice (some ⟨g, 0, none⟩) l.length cap] 126 (0, 0)) := hbk
  rw [Lib.cell_of_heap this]; rfl
 have hSD : (Builtin.unsafeSliceData_ #[37] 157 #[.slice (some ⟨g, 0, none⟩) l.length cap]).run Tryz.prog w.drew = .ok (.pointer (some ⟨g, 0, none⟩)) w.drew :=
  Lib.run_unsafeSliceData_row _ _ _ _ _ _ (by omega)
 have hUS : (Builtin.unsafeString_ #[157, 3] 9 #[.pointer (some ⟨g, 0, none⟩), .int .i64 l.length]).run Tryz.prog w.drew = .ok (.string ⟨l.toArray⟩) (w.drew.freeze ⟨g, 0, none⟩ l.length) := by
  refine Lib.run_unsafeString_row w.drew 157 3 9 5 Tryz.underlying157 (by kernel_rfl) g cur.size (by have hg' : w.drew.heap[g]? = some (.cells cur 5 fz) := hg; simp [World.shape?, hg']) l h0 (by omega) (by unfold maxLen at hcm; omega) ?_
  intro j x hx
  have := hown.cells (g := g) rfl j (.int .u8 x.toNat) (by simp [Lib.byteCells, hx])
  exact this
 have hcell : w.cell? ⟨b, 1, none⟩ = some (.slice (some ⟨g, 0, none⟩) l.length cap) := by
  rw [Z2 hbk 1]; rfl
 have hfz : ∀ k, k ≠ g → (w.drew.freeze ⟨g, 0, none⟩ l.length).heap[k]? = w.heap[k]? := by
  intro k hk
  unfold World.freeze
  split
  ·rfl
  ·simp only [Array.getElem?_modify]
   rw [if_neg (fun e => hk e.symm)]
   rfl
 have hfin : Below b w (w.drew.freeze ⟨g, 0, none⟩ l.length) ∧ ∀ k o, w.heap[k]? = some o → (∀ v, w.cell? ⟨b, 1, none⟩ = some v → v.ownBlock ≠ some k) → (w.drew.freeze ⟨g, 0, none⟩ l.length).heap[k]? = some o := by
  refine ⟨⟨?_, ?_, ?_, ?_, fun k hk => hfz k (by omega)⟩, fun k o ho hv => (hfz k (fun e => hv _ hcell (by subst e; simp [Value.ownBlock]))).trans ho⟩
  ·unfold World.freeze; split <;> rfl
  ·unfold World.freeze; split <;> rfl
  ·unfold World.freeze; split <;> rfl
  ·unfold World.freeze
   split
   ·exact Nat.le_refl _
   ·show _ ≤ (Array.modify _ _ _).size
    rw [Array.size_modify]
    exact Nat.le_refl _
 have HF := Z0 hfin
 clear hfin hfz hcell hg hown hbk hbg hne hB hcm hcs htake h hl0
 have hu126 := Tryz.underlying126
 have hu124 := Tryz.underlying124
 go_enter Tryz.func112, Tryz.ntmps112
 go_wp2
 go_region
 all_goals (go_wp2; go_ret; exact ⟨rfl, HF.out⟩)
end Go.Proofs.YtldpdidlfbphcaaGreatDoor.P
end
section
namespace Go.Proofs.YtldpdidlfbphcaaGreatDoor.P
open Go.RowKit Go.Proofs.YtldpdidlfbphcaaGreatDoorW.PrintWords Go.Proofs.YtldpdidlfbphcaaGreatDoorW.PrintLast Go.Proofs.YtldpdidlfbphcaaGreatDoorW.PrintMore
attribute [local go_sem] max2_int min2_int max_two min_two max_three min_three max_four min_four
def table_low.l0 : Nat → Int → List Int → Int → Int → Option (List Int)
 | 0, _, _, _, _ => none
 | k + 1, x0, x5, x6, x7 => if x7 < x6 then (if x5.length < 140737488355328 then (table_low.l0 k (x0 / 256) (x5 ++ [(x0) % 256]) x6 (wrap64 (x7 + 1))) else (none)) else (some x5)
def table_low.f (k : Nat) (a0 : Int) (a1 : Int) : Option (List Int) := table_low.l0 k a0 ([] : List Int) a1 0
theorem table_low.mono_l : ∀ k, (∀ y0 y1 y2 y3, LeO (table_low.l0 k y0 y1 y2 y3) (table_low.l0 (k + 1) y0 y1 y2 y3))
 | 0 => fun _ _ _ _ r h => by simp [table_low.l0] at h
 | k + 1 => by
  have ih0 := table_low.mono_l k
  ·intro y0 y1 y2 y3
   unfold table_low.l0
   repeat' first
   | (with_reducible exact ih0 _ _ _ _)
   | (with_reducible exact LeO.refl _)
   | (with_reducible exact Y5 _)
   | (with_reducible refine Y7 ?_ ?_)
   | (with_reducible refine Y6 ?_ (fun _ => ?_))
   | exact ih0 _ _ _ _
   | exact Y5 _
   | refine Y7 ?_ ?_
   | refine Y6 ?_ (fun _ => ?_)
theorem table_low.mono : ∀ a0 a1 k, LeO (table_low.f k a0 a1) (table_low.f (k + 1) a0 a1) := by
 intro a0 a1 k
 have ih0 := table_low.mono_l k
 unfold table_low.f
 repeat' first
   | (with_reducible exact ih0 _ _ _ _)
   | (with_reducible exact LeO.refl _)
   | (with_reducible exact Y5 _)
   | (with_reducible refine Y7 ?_ ?_)
   | (with_reducible refine Y6 ?_ (fun _ => ?_))
   | exact ih0 _ _ _ _
   | exact Y5 _
   | refine Y7 ?_ ?_
   | refine Y6 ?_ (fun _ => ?_)
set_option maxHeartbeats 8000000 in
set_option maxRecDepth 100000 in
theorem table_low.calls (k : Nat) (a0 : Int) (a1 : Int) (r : List Int) (w : World) (h : table_low.f k a0 a1 = some r) :
  Calls Tryz.prog 109 #[.int .i64 a0, .int .i64 a1] w fun e w' => ∃ v0_ : Value, e = .returned (v0_) ∧ Kd.R (Kd.int .u8) 5 w' w.heap.size (fun _ => True) v0_ r ∧ Below w.heap.size w w' := by
 have HB := Z0 (Below.refl w.heap.size w)
 have H : (table_low.l0 k a0 ([] : List Int) a1 0) = some r := h
 clear h
 have H' := Z0 H
 clear H
 go_enter Tryz.func109, Tryz.ntmps109
 go_wp2
 go_loopg [0, 5, 7] k (fun kq v0 v5 v7 w' => ∃ (x0_1 : Int) (x5_1 : List Int) (x7_1 : Int), v0 = .int .i64 x0_1 ∧ v7 = .int .i64 x7_1 ∧ Aside0 (table_low.l0 kq x0_1 x5_1 a1 x7_1 = some r) ∧ Aside0 (kq ≤ k) ∧ Aside0 (Kd.R (Kd.int .u8) 5 w' w.heap.size (fun _ => True) v5 x5_1) ∧ Aside0 (Below w.heap.size w w'))
 case atStart => exact ⟨(a0), (([] : List Int)), (0), V2, V2, H', ⟨Nat.le_refl _⟩, ⟨by first | exact Kd.R_nil _ _ _ _ _ | exact Kd.N_nil _ _ _ _ _ | exact Kd.V_nil _ _ _ _ _ | exact Kd.Q_nil _ _ _ _ _ | exact Kd.S_nil _ _ _ _ _⟩, ⟨V0⟩⟩
 case round =>
  clear H'
  (try clear c1);(try clear p2)
  obtain ⟨x0_1, x5_1, x7_1, rfl, rfl, HA, HK1, HO_5, HB⟩ := hrel
  cases gk with
  | zero => exact absurd HA.out (by simp [table_low.l0])
  | succ k1 =>
   have H := HA.out
   clear HA
   simp only [table_low.l0] at H
   by_cases c3 : x7_1 < a1
   ·rw [if_pos c3] at H
    have c3b0 : decide (x7_1 < a1) = true := decide_eq_true c3
    clear c3
    by_cases c4 : x5_1.length < 140737488355328
    ·rw [if_pos c4] at H
     have LMc4 := Z0 c4
     clear c4
     obtain ⟨y538, hy538⟩ : ∃ y_ : List Int, y_ = (x5_1 ++ [(x0_1) % 256]) := ⟨_, rfl⟩
     replace H : (table_low.l0 k1 (x0_1 / 256) y538 a1 (wrap64 (x7_1 + 1))) = some r := by rw [hy538]; exact H
     have Ny538 := Z0 hy538
     clear hy538
     have H' := Z0 H
     clear H
     go_wp2_with (first | ((with_reducible refine gate_builtin (b := .append) (xs := #[.tmp 9, .tmp 12]) rfl ?_); at_builtin; refine Kd.R_append (Kd.int .u8) (w0 := w) w.heap.size rfl (.tmp 9) (.tmp 12) 37 5 (.int .u8 0) 1 rfl Tryz.underlying37 info5 rfl (by decide) (by omega) u5 x5_1 ((x0_1) % 256) [.int .u8 ((x0_1) % 256)] (fun _ => True) (fun _ => False) rfl rfl ?aP (fun _ hk => hk.elim) ?aF ?aO ?aB ?aS ?aL ?_; (case aP => exact rfl); (case aB => exact HB.out); (case aF => exact (fun _ _ => trivial)); (case aO => exact HO_5.out); (case aS => exact (Y0 HB.out)); (case aL => have := LMc4.out; omega); intro v539 w5 ho hb hg hat; rw [← Ny538.out] at ho; have n0_ := Z0 (hb); have n1_ := Z0 (ho); clear HB; clear HO_5; have HB := n0_; have HO540 := n1_; clear n0_ n1_; clear ho hb hg hat))
     go_roundg k1
     case measure => have := HK1.out; omega
     case rel => exact ⟨(x0_1 / 256), (y538), (wrap64 (x7_1 + 1)), V2, V2, H', ⟨by have := HK1.out; omega⟩, ⟨by (with_reducible repeat (first | apply Kd.R_alloc | apply Kd.R_drewN | apply Kd.R_drew)); exact HO540.out⟩, ⟨V0⟩⟩
    ·rw [if_neg c4] at H
     exact absurd H (by simp)
   ·rw [if_neg c3] at H
    have c3b0 : decide (x7_1 < a1) = false := decide_eq_false c3
    clear c3
    obtain rfl := Option.some.inj H
    go_wp2
    go_ret
    exact ⟨_, rfl, by (with_reducible repeat (first | apply Kd.R_alloc | apply Kd.R_drewN | apply Kd.R_drew)); exact HO_5.out, V0⟩
def table_headerLength.f (a0 : Int) : Option (Int) := some (wrap64 (13 + (wrap64 (16 * a0))))
set_option maxHeartbeats 8000000 in
set_option maxRecDepth 100000 in
theorem table_headerLength.calls (a0 : Int) (r : Int) (w : World) (h : table_headerLength.f a0 = some r) :
  Calls Tryz.prog 110 #[.int .i64 a0] w fun e w' => e = .returned (.int .i64 r) ∧ Drawn0 w w' := by
 have H : (some (wrap64 (13 + (wrap64 (16 * a0))))) = some r := h
 clear h
 obtain rfl := Option.some.inj H
 go_enter Tryz.func110, Tryz.ntmps110
 go_wp2
 go_ret
 exact ⟨V2, by repeat (first | exact Y9 _ | apply Y8)⟩
def table_header.l0 : Nat → List Int → List (S23) → Int → Int → Option (List Int)
 | 0, _, _, _, _ => none
 | k + 1, x3, x37, x38, x39 => if x39 < x38 then (if 0 ≤ x39 then (if x39 < (x37.length : Int) then ((descO (rd_T23 x37 x39)).bind fun t200 => (if x3.length + t200.length < 140737488355328 then (table_header.l0 k (x3 ++ t200) x37 x38 (wrap64 (x39 + 1))) else (none))) else (none)) else (none)) else (if x3.length < 140737488355328 then (some (x3 ++ [13])) else (none))
def table_header.f (k : Nat) (a0_0 : Int) (l0_1 : List (S23)) (l0_2 : List (S46)) : Option (List Int) := (some (([67, (a0_0) % 256] : List Int) : List Int)).bind fun y169 => ((table_low.f k (l0_2.length : Int) 4).bind fun t172 => (if y169.length + t172.length < 140737488355328 then ((some (y169 ++ t172 : List Int)).bind fun y175 => ((table_headerLength.f (l0_1.length : Int)).bind fun t178 => ((table_low.f k t178 2).bind fun t179 => (if y175.length + t179.length < 140737488355328 then ((some (y175 ++ t179 : List Int)).bind fun y182 => ((table_length.f k l0_1).bind fun t185 => ((table_low.f k t185 2).bind fun t186 => (if y182.length + t186.length < 140737488355328 then ((some (y182 ++ t186 : List Int)).bind fun y189 => ((some (([((l0_1.length : Int)) % 256, 0] : List Int) : List Int)).bind fun y192 => (if y189.length + y192.length < 140737488355328 then (table_header.l0 k (y189 ++ y192) l0_1 (l0_1.length : Int) 0) else (none)))) else (none))))) else (none))))) else (none)))
theorem table_header.mono_l : ∀ k, (∀ y0 y1 y2 y3, LeO (table_header.l0 k y0 y1 y2 y3) (table_header.l0 (k + 1) y0 y1 y2 y3))
 | 0 => fun _ _ _ _ r h => by simp [table_header.l0] at h
 | k + 1 => by
  have ih0 := table_header.mono_l k
  ·intro y0 y1 y2 y3
   unfold table_header.l0
   repeat' first
   | (with_reducible exact ih0 _ _ _ _)
   | (with_reducible exact table_length.mono _ _)
   | (with_reducible exact table_low.mono _ _ _)
   | (with_reducible exact LeO.refl _)
   | (with_reducible exact Y5 _)
   | (with_reducible refine Y7 ?_ ?_)
   | (with_reducible refine Y6 ?_ (fun _ => ?_))
   | exact ih0 _ _ _ _
   | exact table_length.mono _ _
   | exact table_low.mono _ _ _
   | exact Y5 _
   | refine Y7 ?_ ?_
   | refine Y6 ?_ (fun _ => ?_)
theorem table_header.mono : ∀ a0 a1 a2 k, LeO (table_header.f k a0 a1 a2) (table_header.f (k + 1) a0 a1 a2) := by
 intro a0 a1 a2 k
 have ih0 := table_header.mono_l k
 unfold table_header.f
 repeat' first
   | (with_reducible exact ih0 _ _ _ _)
   | (with_reducible exact table_length.mono _ _)
   | (with_reducible exact table_low.mono _ _ _)
   | (with_reducible exact LeO.refl _)
   | (with_reducible exact Y5 _)
   | (with_reducible refine Y7 ?_ ?_)
   | (with_reducible refine Y6 ?_ (fun _ => ?_))
   | exact ih0 _ _ _ _
   | exact table_length.mono _ _
   | exact table_low.mono _ _ _
   | exact Y5 _
   | refine Y7 ?_ ?_
   | refine Y6 ?_ (fun _ => ?_)
def table_header.T1 : Bool × List (List Nat × List Nat) := (true, [([], []), ([0], [0]), ([1], [1]), ([2], [2]), ([], []), ([4], [4]), ([5], [5]), ([6], [6]), ([3, 7, 7], [3, 7]), ([8, 8, 0, 1, 2, 3, 4, 5, 6, 7, 8], [8])])
def table_header.B1 : List Nat := [0, 1, 3, 7, 0, 16, 48, 112, 255, 511]
theorem table_header.tab1 : rtab .any (opsOf Tryz.f62 1) = table_header.T1 := by kernel_rfl
theorem table_header.bits1 : waitsOk table_header.T1.2 table_header.B1 = true := by kernel_rfl
set_option maxHeartbeats 8000000 in
set_option maxRecDepth 100000 in
theorem table_header.calls (k : Nat) (a0_0 : Int) (A0_1 : Option Addr) (c0_1 : Nat) (l0_1 : List (S23)) (A0_2 : Option Addr) (c0_2 : Nat) (l0_2 : List (S46)) (r : List Int) (w : World) (hr0_1 : Kd.C k23 w A0_1 l0_1.length l0_1) (hc0_1 : l0_1.length ≤ c0_1) (hr0_2 : Kd.C k46 w A0_2 l0_2.length l0_2) (hc0_2 : l0_2.length ≤ c0_2) (h : table_header.f k a0_0 l0_1 l0_2 = some r) :
  Calls Tryz.prog 62 #[.agg #[.int .i64 a0_0, .slice A0_1 l0_1.length c0_1, .slice A0_2 l0_2.length c0_2]] w fun e w' => ∃ v0_ : Value, e = .returned (v0_) ∧ Kd.R (Kd.int .u8) 5 w' w.heap.size (fun _ => True) v0_ r ∧ Below w.heap.size w w' := by
 have hu35 := Tryz.underlying35
 have hu23 := Tryz.underlying23
 have HR0_1 := Z0 hr0_1
 have HC0_1 := Z0 hc0_1
 clear hr0_1 hc0_1
 have HR0_2 := Z0 hr0_2
 have HC0_2 := Z0 hc0_2
 clear hr0_2 hc0_2
 have HB := Z0 (Below.refl w.heap.size w)
 have H : ((some (([67, (a0_0) % 256] : List Int) : List Int)).bind fun y169 => ((table_low.f k (l0_2.length : Int) 4).bind fun t172 => (if y169.length + t172.length < 140737488355328 then ((some (y169 ++ t172 : List Int)).bind fun y175 => ((table_headerLength.f (l0_1.length : Int)).bind fun t178 => ((table_low.f k t178 2).bind fun t179 => (if y175.length + t179.length < 140737488355328 then ((some (y175 ++ t179 : List Int)).bind fun y182 => ((table_length.f k l0_1).bind fun t185 => ((table_low.f k t185 2).bind fun t186 => (if y182.length + t186.length < 140737488355328 then ((some (y182 ++ t186 : List Int)).bind fun y189 => ((some (([((l0_1.length : Int)) % 256, 0] : List Int) : List Int)).bind fun y192 => (if y189.length + y192.length < 140737488355328 then (table_header.l0 k (y189 ++ y192) l0_1 (l0_1.length : Int) 0) else (none)))) else (none))))) else (none))))) else (none)))) = some r := h
 clear h
 obtain ⟨y169, hy169⟩ : ∃ y_ : List Int, y_ = (([67, (a0_0) % 256] : List Int)) := ⟨_, rfl⟩
 replace H : ((table_low.f k (l0_2.length : Int) 4).bind fun t172 => (if y169.length + t172.length < 140737488355328 then ((some (y169 ++ t172 : List Int)).bind fun y175 => ((table_headerLength.f (l0_1.length : Int)).bind fun t178 => ((table_low.f k t178 2).bind fun t179 => (if y175.length + t179.length < 140737488355328 then ((some (y175 ++ t179 : List Int)).bind fun y182 => ((table_length.f k l0_1).bind fun t185 => ((table_low.f k t185 2).bind fun t186 => (if y182.length + t186.length < 140737488355328 then ((some (y182 ++ t186 : List Int)).bind fun y189 => ((some (([((l0_1.length : Int)) % 256, 0] : List Int) : List Int)).bind fun y192 => (if y189.length + y192.length < 140737488355328 then (table_header.l0 k (y189 ++ y192) l0_1 (l0_1.length : Int) 0) else (none)))) else (none))))) else (none))))) else (none))) = some r := by rw [hy169]; exact H
 have Ny169 := Z0 hy169
 clear hy169
 replace H := Option.bind_eq_some_iff.mp H
 obtain ⟨t172, A20, H⟩ := H
 replace H : (if y169.length + t172.length < 140737488355328 then ((some (y169 ++ t172 : List Int)).bind fun y175 => ((table_headerLength.f (l0_1.length : Int)).bind fun t178 => ((table_low.f k t178 2).bind fun t179 => (if y175.length + t179.length < 140737488355328 then ((some (y175 ++ t179 : List Int)).bind fun y182 => ((table_length.f k l0_1).bind fun t185 => ((table_low.f k t185 2).bind fun t186 => (if y182.length + t186.length < 140737488355328 then ((some (y182 ++ t186 : List Int)).bind fun y189 => ((some (([((l0_1.length : Int)) % 256, 0] : List Int) : List Int)).bind fun y192 => (if y189.length + y192.length < 140737488355328 then (table_header.l0 k (y189 ++ y192) l0_1 (l0_1.length : Int) 0) else (none)))) else (none))))) else (none))))) else (none)) = some r := H
 have A2 := Z0 A20
 clear A20
 by_cases c3 : y169.length + t172.length < 140737488355328
 ·rw [if_pos c3] at H
  have LMc3 := Z0 c3
  clear c3
  obtain ⟨y175, hy175⟩ : ∃ y_ : List Int, y_ = (y169 ++ t172) := ⟨_, rfl⟩
  replace H : ((table_headerLength.f (l0_1.length : Int)).bind fun t178 => ((table_low.f k t178 2).bind fun t179 => (if y175.length + t179.length < 140737488355328 then ((some (y175 ++ t179 : List Int)).bind fun y182 => ((table_length.f k l0_1).bind fun t185 => ((table_low.f k t185 2).bind fun t186 => (if y182.length + t186.length < 140737488355328 then ((some (y182 ++ t186 : List Int)).bind fun y189 => ((some (([((l0_1.length : Int)) % 256, 0] : List Int) : List Int)).bind fun y192 => (if y189.length + y192.length < 140737488355328 then (table_header.l0 k (y189 ++ y192) l0_1 (l0_1.length : Int) 0) else (none)))) else (none))))) else (none)))) = some r := by rw [hy175]; exact H
  have Ny175 := Z0 hy175
  clear hy175
  replace H := Option.bind_eq_some_iff.mp H
  obtain ⟨t178, A40, H⟩ := H
  replace H : ((table_low.f k t178 2).bind fun t179 => (if y175.length + t179.length < 140737488355328 then ((some (y175 ++ t179 : List Int)).bind fun y182 => ((table_length.f k l0_1).bind fun t185 => ((table_low.f k t185 2).bind fun t186 => (if y182.length + t186.length < 140737488355328 then ((some (y182 ++ t186 : List Int)).bind fun y189 => ((some (([((l0_1.length : Int)) % 256, 0] : List Int) : List Int)).bind fun y192 => (if y189.length + y192.length < 140737488355328 then (table_header.l0 k (y189 ++ y192) l0_1 (l0_1.length : Int) 0) else (none)))) else (none))))) else (none))) = some r := H
  have A4 := Z0 A40
  clear A40
  replace H := Option.bind_eq_some_iff.mp H
  obtain ⟨t179, A50, H⟩ := H
  replace H : (if y175.length + t179.length < 140737488355328 then ((some (y175 ++ t179 : List Int)).bind fun y182 => ((table_length.f k l0_1).bind fun t185 => ((table_low.f k t185 2).bind fun t186 => (if y182.length + t186.length < 140737488355328 then ((some (y182 ++ t186 : List Int)).bind fun y189 => ((some (([((l0_1.length : Int)) % 256, 0] : List Int) : List Int)).bind fun y192 => (if y189.length + y192.length < 140737488355328 then (table_header.l0 k (y189 ++ y192) l0_1 (l0_1.length : Int) 0) else (none)))) else (none))))) else (none)) = some r := H
  have A5 := Z0 A50
  clear A50
  by_cases c6 : y175.length + t179.length < 140737488355328
  ·rw [if_pos c6] at H
   have LMc6 := Z0 c6
   clear c6
   obtain ⟨y182, hy182⟩ : ∃ y_ : List Int, y_ = (y175 ++ t179) := ⟨_, rfl⟩
   replace H : ((table_length.f k l0_1).bind fun t185 => ((table_low.f k t185 2).bind fun t186 => (if y182.length + t186.length < 140737488355328 then ((some (y182 ++ t186 : List Int)).bind fun y189 => ((some (([((l0_1.length : Int)) % 256, 0] : List Int) : List Int)).bind fun y192 => (if y189.length + y192.length < 140737488355328 then (table_header.l0 k (y189 ++ y192) l0_1 (l0_1.length : Int) 0) else (none)))) else (none)))) = some r := by rw [hy182]; exact H
   have Ny182 := Z0 hy182
   clear hy182
   replace H := Option.bind_eq_some_iff.mp H
   obtain ⟨t185, A70, H⟩ := H
   replace H : ((table_low.f k t185 2).bind fun t186 => (if y182.length + t186.length < 140737488355328 then ((some (y182 ++ t186 : List Int)).bind fun y189 => ((some (([((l0_1.length : Int)) % 256, 0] : List Int) : List Int)).bind fun y192 => (if y189.length + y192.length < 140737488355328 then (table_header.l0 k (y189 ++ y192) l0_1 (l0_1.length : Int) 0) else (none)))) else (none))) = some r := H
   have A7 := Z0 A70
   clear A70
   replace H := Option.bind_eq_some_iff.mp H
   obtain ⟨t186, A80, H⟩ := H
   replace H : (if y182.length + t186.length < 140737488355328 then ((some (y182 ++ t186 : List Int)).bind fun y189 => ((some (([((l0_1.length : Int)) % 256, 0] : List Int) : List Int)).bind fun y192 => (if y189.length + y192.length < 140737488355328 then (table_header.l0 k (y189 ++ y192) l0_1 (l0_1.length : Int) 0) else (none)))) else (none)) = some r := H
   have A8 := Z0 A80
   clear A80
   by_cases c9 : y182.length + t186.length < 140737488355328
   ·rw [if_pos c9] at H
    have LMc9 := Z0 c9
    clear c9
    obtain ⟨y189, hy189⟩ : ∃ y_ : List Int, y_ = (y182 ++ t186) := ⟨_, rfl⟩
    replace H : ((some (([((l0_1.length : Int)) % 256, 0] : List Int) : List Int)).bind fun y192 => (if y189.length + y192.length < 140737488355328 then (table_header.l0 k (y189 ++ y192) l0_1 (l0_1.length : Int) 0) else (none))) = some r := by rw [hy189]; exact H
    have Ny189 := Z0 hy189
    clear hy189
    obtain ⟨y192, hy192⟩ : ∃ y_ : List Int, y_ = (([((l0_1.length : Int)) % 256, 0] : List Int)) := ⟨_, rfl⟩
    replace H : (if y189.length + y192.length < 140737488355328 then (table_header.l0 k (y189 ++ y192) l0_1 (l0_1.length : Int) 0) else (none)) = some r := by rw [hy192]; exact H
    have Ny192 := Z0 hy192
    clear hy192
    by_cases c10 : y189.length + y192.length < 140737488355328
    ·rw [if_pos c10] at H
     have LMc10 := Z0 c10
     clear c10
     obtain ⟨y195, hy195⟩ : ∃ y_ : List Int, y_ = (y189 ++ y192) := ⟨_, rfl⟩
     replace H : (table_header.l0 k y195 l0_1 (l0_1.length : Int) 0) = some r := by rw [hy195]; exact H
     have Ny195 := Z0 hy195
     clear hy195
     have H' := Z0 H
     clear H
     go_enter Tryz.func62, Tryz.ntmps62
     try go_wp2_with (first | ((with_reducible refine Y4 (N := 1) rfl ?_); refine Y2 ?hg (N := 1) ?hd (cs := #[.int .i64 a0_0, .slice A0_1 l0_1.length c0_1, .slice A0_2 l0_2.length c0_2]) (t := 35) ?hr ?_; (case hd => rfl); (case hg => rfl); (case hr => go_simp; try rfl); intro gb168 hg w11 hbox hb; have n0_ := Z0 (Z6 V0 hb); have n1_ := Z0 (hbox); have n3_ := Z0 ((by rw [hg]; exact (Y0 V0) : w.heap.size ≤ gb168)); clear HB; have HB := n0_; have BK168 := n1_; have GE168 := n3_; clear n0_ n1_ n3_; clear hb hbox hg))
     have n0_ := Z0 (Y1 BK168.out)
     have n1_ := Z0 (below_drew1 HB.out)
     clear BK168
     clear HB
     have BK168 := n0_
     have HB := n1_
     clear n0_ n1_
     refine start_ (n := 10) (S := fun w' => w'.cell? ⟨gb168, 0, none⟩ = some (.int .i64 a0_0) ∧ w'.cell? ⟨gb168, 1, none⟩ = some (.slice A0_1 l0_1.length c0_1) ∧ w'.cell? ⟨gb168, 2, none⟩ = some (.slice A0_2 l0_2.length c0_2)) (ds := []) #[false, false, false, false, false, false, false, false, false, false] (by kernel_rfl) rfl rfl ⟨(Z2 BK168.out 0).trans rfl, (Z2 BK168.out 1).trans rfl, (Z2 BK168.out 2).trans rfl⟩ (fun hHeld => ?_); refine with_tabW table_header.tab1 table_header.bits1 (fun HT_ HW_ => ?_)
     generalize w11.drew = w12 at BK168 HB hHeld ⊢
     refine pure_ (i := 0) (N := some 7) (v := ?_) (a' := ?_) #[true, false, false, false, false, false, false, false, false, false] rfl rfl (any_of HT_.out (by kernel_rfl)) (fun _ _ _ h => h) (Or.inl ⟨by rfl, ?_⟩) ?_ ?_
     rotate_left
     ·intro w'
      go_simp
      with_reducible rfl
     rotate_left
     ·simp only [Act.put, Z3, Z4, Z5, i64_w, i32_w]
      rfl
     refine pure_ (i := 4) (N := some 11) (v := ?_) (a' := ?_) #[true, false, false, false, true, false, false, false, false, false] rfl rfl (any_of HT_.out (by kernel_rfl)) (fun _ _ _ h => h) (Or.inl ⟨by rfl, ?_⟩) ?_ ?_
     rotate_left
     ·intro w'
      go_simp
      with_reducible rfl
     rotate_left
     ·simp only [Act.put, Z3, Z4, Z5, i64_w, i32_w]
      rfl
     refine take_ (i := 1) (N := some 8) (v := ?_) (a' := ?_) #[true, true, false, false, true, false, false, false, false, false] rfl rfl (take_ofW HT_.out HW_.out (by kernel_rfl)) (fun _ _ _ h => h) (Or.inl ⟨by rfl, ?_⟩) hHeld ?_ ?_
     rotate_left
     ·rintro w' ⟨s0, s1, s2⟩
      go_simp
      with_reducible rfl
     rotate_left
     ·simp only [Act.put, Z3, Z4, Z5, i64_w, i32_w]
      rfl
     refine pure_ (i := 2) (N := some 9) (v := ?_) (a' := ?_) #[true, true, true, false, true, false, false, false, false, false] rfl rfl (any_of HT_.out (by kernel_rfl)) (fun _ _ _ h => h) (Or.inl ⟨by rfl, ?_⟩) ?_ ?_
     rotate_left
     ·intro w'
      go_simp
      with_reducible rfl
     rotate_left
     ·simp only [Act.put, Z3, Z4, Z5, i64_w, i32_w]
      rfl
     refine take_ (i := 5) (N := some 12) (v := ?_) (a' := ?_) #[true, true, true, false, true, true, false, false, false, false] rfl rfl (take_ofW HT_.out HW_.out (by kernel_rfl)) (fun _ _ _ h => h) (Or.inl ⟨by rfl, ?_⟩) hHeld ?_ ?_
     rotate_left
     ·rintro w' ⟨s0, s1, s2⟩
      go_simp
      with_reducible rfl
     rotate_left
     ·simp only [Act.put, Z3, Z4, Z5, i64_w, i32_w]
      rfl
     refine pure_ (i := 6) (N := some 13) (v := ?_) (a' := ?_) #[true, true, true, false, true, true, true, false, false, false] rfl rfl (any_of HT_.out (by kernel_rfl)) (fun _ _ _ h => h) (Or.inl ⟨by rfl, ?_⟩) ?_ ?_
     rotate_left
     ·intro w'
      go_simp
      with_reducible rfl
     rotate_left
     ·simp only [Act.put, Z3, Z4, Z5, i64_w, i32_w]
      rfl
     refine join_ (σ := Value × Value) 2 #[true, true, true, true, true, true, true, true, false, false] (fun s_ => [(10, s_.1), (14, s_.2)]) (fun s_ w' => (w'.cell? ⟨gb168, 0, none⟩ = some (.int .i64 a0_0) ∧ w'.cell? ⟨gb168, 1, none⟩ = some (.slice A0_1 l0_1.length c0_1) ∧ w'.cell? ⟨gb168, 2, none⟩ = some (.slice A0_2 l0_2.length c0_2)) ∧ (Kd.R (Kd.int .u8) 5 w' w.heap.size (fun k_ => some k_ ≠ (s_.2 : Value).ownBlock) s_.1 y169) ∧ (Kd.R (Kd.int .u8) 5 w' w.heap.size (fun k_ => some k_ ≠ (s_.1 : Value).ownBlock) s_.2 t172) ∧ (w'.heap[gb168]? = some (.cells #[.int .i64 a0_0, .slice A0_1 l0_1.length c0_1, .slice A0_2 l0_2.length c0_2] 35 (0, 0))) ∧ (Below w.heap.size w w')) ?_ ?_
     rotate_left
     ·intro hCont
      refine two_ (i := 3) (j := 7) (Ni := some 10) (Nj := some 14) #[true, true, true, true, true, true, true, false, false, false] #[true, true, true, false, true, true, true, true, false, false] rfl rfl rfl rfl (two_of HT_.out (by kernel_rfl)) (by decide) (by decide) (fun K hK => ?_) (fun K hK => ?_)
      ·skip
       refine Kd.R_lit_step (Kd.int .u8) _ 5 ?hg (N := 10) ?hd (xs := ([67, (a0_0) % 256] : List Int)) (inner := [.int .u8 67, .int .u8 ((a0_0) % 256)]) (ok := fun _ => True) (okp := fun _ => True) ?hr ?hp (fun _ hk => hk) trivial (Below.refl _ _) (Nat.le_refl _) (by simp) ?_; (case hd => rfl); (case hg => rfl); (case hr => go_simp; try rfl); (case hp => exact (Reps.one (show Kd.M (Kd.int .u8) _ _ _ 67 [.int .u8 67] from rfl) (Reps.one (show Kd.M (Kd.int .u8) _ _ _ ((a0_0) % 256) [.int .u8 ((a0_0) % 256)] from rfl) (Reps.none _ _))))
       intro v170 w13 ho14 hb hg_ hnew_
       clear hg_ hnew_
       (first | rw [← Ny169.out] at ho14 | (simp only [Int.reduceToNat] at ho14; rw [← Ny169.out] at ho14))
       have n0_ := Z0 (Kd.R_lower ho14 (Y0 V0))
       have n1_ := Z0 (Z7 (g := gb168) (o := .cells #[.int .i64 a0_0, .slice A0_1 l0_1.length c0_1, .slice A0_2 l0_2.length c0_2] 35 (0, 0)) (by (with_reducible repeat (first | refine Z8 ?_ _ | refine Y1 ?_ | refine Z9 ?_ _)); exact BK168.out) hb)
       have n2_ := Z0 (Z6 V0 hb)
       clear BK168
       clear HB
       have HO171 := n0_
       have BK168 := n1_
       have HB := n2_
       clear n0_ n1_ n2_
       clear hb ho14
       refine hK.out _ _ ⟨(Z2 BK168.out 0).trans rfl, (Z2 BK168.out 1).trans rfl, (Z2 BK168.out 2).trans rfl⟩ (fun hHeld => ?_)
       clear hK K
       refine norm_ (a' := ?_) ?_ ?_
       rotate_left
       ·show Act.put _ (some 10) _ = _
        simp only [Act.put, Z3, Z4, Z5, i64_w, i32_w]
        rfl
       refine one_ (i := 7) (N := some 14) #[true, true, true, true, true, true, true, true, false, false] rfl rfl (one_of HT_.out (by kernel_rfl)) (by decide) (fun K hK => ?_)
       refine goes_ Tryz.func109 (by kernel_rfl) rfl #[.int .i64 (l0_2.length : Int), .int .i64 4] (by rfl) rfl rfl V1 ?_
       with_reducible refine (table_low.calls k (l0_2.length : Int) 4 t172 _ A2.out).mono ?_
       rintro e w15 ⟨v173, rfl, ho0, hb⟩
       refine ⟨_, rfl, ?_⟩
       have n0_ := Z0 (Kd.R_elder' (by (with_reducible repeat (first | apply Kd.R_alloc | apply Kd.R_drewN | apply Kd.R_drew)); exact HO171.out) (Kd.R_base ho0) hb)
       have n1_ := Z0 (Kd.R_lower (Kd.R_new' ho0 (Kd.R_lt (by (with_reducible repeat (first | apply Kd.R_alloc | apply Kd.R_drewN | apply Kd.R_drew)); exact HO171.out))) (Y0 V0))
       have n2_ := Z0 (Z7 (g := gb168) (o := .cells #[.int .i64 a0_0, .slice A0_1 l0_1.length c0_1, .slice A0_2 l0_2.length c0_2] 35 (0, 0)) (by (with_reducible repeat (first | refine Z8 ?_ _ | refine Y1 ?_ | refine Z9 ?_ _)); exact BK168.out) hb)
       have n3_ := Z0 (Z6 V0 hb)
       clear HO171
       clear BK168
       clear HB
       have HO171 := n0_
       have HO174 := n1_
       have BK168 := n2_
       have HB := n3_
       clear n0_ n1_ n2_ n3_
       (try clear hb)
       (try clear hb2)
       (try clear hk)
       (try clear hi)
       (try clear ho0)
       refine hK.out _ _ ⟨(Z2 BK168.out 0).trans rfl, (Z2 BK168.out 1).trans rfl, (Z2 BK168.out 2).trans rfl⟩ (fun hHeld => ?_)
       clear hK K
       refine norm_ (a' := ?_) ?_ ?_
       rotate_left
       ·show Act.put _ (some 14) _ = _
        simp only [Act.put, Z3, Z4, Z5, i64_w, i32_w]
        rfl
       exact norm_ (by simp only [putAll, Act.put, Z3, Z4, Z5]) (hCont (v170, v173) _ ⟨hHeld, (by (with_reducible repeat (first | apply Kd.R_alloc | apply Kd.R_drewN | apply Kd.R_drew)); exact Kd.R_mono HO171.out (fun _ hk => hk.2)), (by (with_reducible repeat (first | apply Kd.R_alloc | apply Kd.R_drewN | apply Kd.R_drew)); exact Kd.R_mono HO174.out (fun _ hk => hk.2)), (by (with_reducible repeat (first | refine Z8 ?_ _ | refine Y1 ?_ | refine Z9 ?_ _)); exact BK168.out), V0⟩)
      ·skip
       refine goes_ Tryz.func109 (by kernel_rfl) rfl #[.int .i64 (l0_2.length : Int), .int .i64 4] (by rfl) rfl rfl V1 ?_
       with_reducible refine (table_low.calls k (l0_2.length : Int) 4 t172 _ A2.out).mono ?_
       rintro e w13 ⟨v173, rfl, ho0, hb⟩
       refine ⟨_, rfl, ?_⟩
       have n0_ := Z0 (Kd.R_lower ho0 (Y0 V0))
       have n1_ := Z0 (Z7 (g := gb168) (o := .cells #[.int .i64 a0_0, .slice A0_1 l0_1.length c0_1, .slice A0_2 l0_2.length c0_2] 35 (0, 0)) (by (with_reducible repeat (first | refine Z8 ?_ _ | refine Y1 ?_ | refine Z9 ?_ _)); exact BK168.out) hb)
       have n2_ := Z0 (Z6 V0 hb)
       clear BK168
       clear HB
       have HO174 := n0_
       have BK168 := n1_
       have HB := n2_
       clear n0_ n1_ n2_
       (try clear hb)
       (try clear hb2)
       (try clear hk)
       (try clear hi)
       (try clear ho0)
       refine hK.out _ _ ⟨(Z2 BK168.out 0).trans rfl, (Z2 BK168.out 1).trans rfl, (Z2 BK168.out 2).trans rfl⟩ (fun hHeld => ?_)
       clear hK K
       refine norm_ (a' := ?_) ?_ ?_
       rotate_left
       ·show Act.put _ (some 14) _ = _
        simp only [Act.put, Z3, Z4, Z5, i64_w, i32_w]
        rfl
       refine one_ (i := 3) (N := some 10) #[true, true, true, true, true, true, true, true, false, false] rfl rfl (one_of HT_.out (by kernel_rfl)) (by decide) (fun K hK => ?_)
       refine Kd.R_lit_step (Kd.int .u8) _ 5 ?hg (N := 10) ?hd (xs := ([67, (a0_0) % 256] : List Int)) (inner := [.int .u8 67, .int .u8 ((a0_0) % 256)]) (ok := fun _ => True) (okp := fun _ => True) ?hr ?hp (fun _ hk => hk) trivial (Below.refl _ _) (Nat.le_refl _) (by simp) ?_; (case hd => rfl); (case hg => rfl); (case hr => go_simp; try rfl); (case hp => exact (Reps.one (show Kd.M (Kd.int .u8) _ _ _ 67 [.int .u8 67] from rfl) (Reps.one (show Kd.M (Kd.int .u8) _ _ _ ((a0_0) % 256) [.int .u8 ((a0_0) % 256)] from rfl) (Reps.none _ _))))
       intro v170 w14 ho15 hb hg_ hnew_
       clear hg_ hnew_
       (first | rw [← Ny169.out] at ho15 | (simp only [Int.reduceToNat] at ho15; rw [← Ny169.out] at ho15))
       have n0_ := Z0 (Kd.R_elder' (by (with_reducible repeat (first | apply Kd.R_alloc | apply Kd.R_drewN | apply Kd.R_drew)); exact HO174.out) (Kd.R_base ho15) hb)
       have n1_ := Z0 (Kd.R_lower (Kd.R_new' ho15 (Kd.R_lt (by (with_reducible repeat (first | apply Kd.R_alloc | apply Kd.R_drewN | apply Kd.R_drew)); exact HO174.out))) (Y0 V0))
       have n2_ := Z0 (Z7 (g := gb168) (o := .cells #[.int .i64 a0_0, .slice A0_1 l0_1.length c0_1, .slice A0_2 l0_2.length c0_2] 35 (0, 0)) (by (with_reducible repeat (first | refine Z8 ?_ _ | refine Y1 ?_ | refine Z9 ?_ _)); exact BK168.out) hb)
       have n3_ := Z0 (Z6 V0 hb)
       clear HO174
       clear BK168
       clear HB
       have HO174 := n0_
       have HO171 := n1_
       have BK168 := n2_
       have HB := n3_
       clear n0_ n1_ n2_ n3_
       clear hb ho15
       refine hK.out _ _ ⟨(Z2 BK168.out 0).trans rfl, (Z2 BK168.out 1).trans rfl, (Z2 BK168.out 2).trans rfl⟩ (fun hHeld => ?_)
       clear hK K
       refine norm_ (a' := ?_) ?_ ?_
       rotate_left
       ·show Act.put _ (some 10) _ = _
        simp only [Act.put, Z3, Z4, Z5, i64_w, i32_w]
        rfl
       exact norm_ (by simp only [putAll, Act.put, Z3, Z4, Z5]) (hCont (v170, v173) _ ⟨hHeld, (by (with_reducible repeat (first | apply Kd.R_alloc | apply Kd.R_drewN | apply Kd.R_drew)); exact Kd.R_mono HO171.out (fun _ hk => hk.2)), (by (with_reducible repeat (first | apply Kd.R_alloc | apply Kd.R_drewN | apply Kd.R_drew)); exact Kd.R_mono HO174.out (fun _ hk => hk.2)), (by (with_reducible repeat (first | refine Z8 ?_ _ | refine Y1 ?_ | refine Z9 ?_ _)); exact BK168.out), V0⟩)
     rintro ⟨v170, v173⟩ w16 ⟨hS_, h0_, h1_, h2_, h3_⟩
     have n0_ : Aside0 (Kd.R (Kd.int .u8) 5 w16 w.heap.size (fun k_ => some k_ ≠ (v173 : Value).ownBlock) v170 y169) := ⟨h0_⟩
     have n1_ : Aside0 (Kd.R (Kd.int .u8) 5 w16 w.heap.size (fun k_ => some k_ ≠ (v170 : Value).ownBlock) v173 t172) := ⟨h1_⟩
     have n2_ : Aside0 (w16.heap[gb168]? = some (.cells #[.int .i64 a0_0, .slice A0_1 l0_1.length c0_1, .slice A0_2 l0_2.length c0_2] 35 (0, 0))) := ⟨h2_⟩
     have n3_ : Aside0 (Below w.heap.size w w16) := ⟨h3_⟩
     clear BK168
     clear HB
     clear h0_ h1_ h2_ h3_
     have HO171 := n0_
     have HO174 := n1_
     have BK168 := n2_
     have HB := n3_
     clear n0_ n1_ n2_ n3_
     have hHeld : w16.cell? ⟨gb168, 0, none⟩ = some (.int .i64 a0_0) ∧ w16.cell? ⟨gb168, 1, none⟩ = some (.slice A0_1 l0_1.length c0_1) ∧ w16.cell? ⟨gb168, 2, none⟩ = some (.slice A0_2 l0_2.length c0_2) := hS_
     obtain ⟨Ao18, co18, eo18⟩ := Kd.R_slice HO174.out
     (first | subst eo18 | (injection eo18 with f1_ f2_ f3_; have f4_ := f1_.symm; have f5_ := f3_.symm; clear f1_ f2_ f3_; subst f4_; subst f5_))
     refine norm_ (a' := ?_) ?_ ?_
     rotate_left
     ·simp only [putAll, Act.put, Z3, Z4, Z5]
      rfl
     refine one_ (i := 8) (N := some 15) #[true, true, true, true, true, true, true, true, true, false] rfl rfl (one_of HT_.out (by kernel_rfl)) (by decide) (fun K hK => ?_)
     refine Kd.R_append_rows_step (Kd.int .u8) (w0 := w) w.heap.size (by rfl) (.tmp 10) (.tmp 14) 37 5 (.int .u8 0) 1 rfl Tryz.underlying37 info5 rfl (by decide) (by omega) v170 y169 t172 _ _ _ (fun k_ => some k_ ≠ (.slice Ao18 t172.length co18 : Value).ownBlock) (fun _ => False) rfl rfl ?aO ?aR (fun _ _ h => h) (fun _ h => h.elim) ?aF ?aB ?aS ?aL ?_
     (case aR => repeat (first | exact (Kd.R_reads' HO174.out).2.2 | (with_reducible refine Kd.C_alloc ?_ _) | (with_reducible refine Kd.C_drewN ?_ _) | (with_reducible refine Kd.C_drew ?_)))
     (case aB => exact V0)
     (case aF => exact (fun k_ hk => Kd.fresh' (Kd.R_lt (by (with_reducible repeat (first | apply Kd.R_alloc | apply Kd.R_drewN | apply Kd.R_drew)); exact HO174.out)) k_ hk))
     (case aO => exact (by (with_reducible repeat (first | apply Kd.R_alloc | apply Kd.R_drewN | apply Kd.R_drew)); exact HO171.out))
     (case aS => exact (Y0 V0))
     (case aL => have := LMc3.out; omega)
     intro v176 w17 ho hb hg hat
     rw [← Ny175.out] at ho
     have n0_ := Z0 (blk_grown (g := gb168) (o := .cells #[.int .i64 a0_0, .slice A0_1 l0_1.length c0_1, .slice A0_2 l0_2.length c0_2] 35 (0, 0)) (by (with_reducible repeat (first | refine Z8 ?_ _ | refine Y1 ?_ | refine Z9 ?_ _)); exact BK168.out) hg (Kd.R_ne HO171.out BK168.out (by decide)))
     have n1_ := Z0 (Kd.R_after (ok := (fun _ => True)) (by (with_reducible repeat (first | apply Kd.R_alloc | apply Kd.R_drewN | apply Kd.R_drew)); exact Kd.R_mono HO174.out (fun _ hk => ⟨trivial, hk⟩)) hg hat)
     have n2_ := Z0 (hb)
     have n3_ := Z0 (ho)
     clear BK168
     clear HO174
     clear HB
     clear HO171
     have BK168 := n0_
     have HO174 := n1_
     have HB := n2_
     have HO177 := n3_
     clear n0_ n1_ n2_ n3_
     clear ho hb hg hat
     refine hK.out _ _ ⟨(Z2 BK168.out 0).trans rfl, (Z2 BK168.out 1).trans rfl, (Z2 BK168.out 2).trans rfl⟩ (fun hHeld => ?_)
     clear hK K
     refine norm_ (a' := ?_) ?_ ?_
     rotate_left
     ·show Act.put _ (some 15) _ = _
      simp only [Act.put, Z3, Z4, Z5, i64_w, i32_w]
      rfl
     refine pure_ (i := 9) (N := some 3) (v := ?_) (a' := ?_) #[true, true, true, true, true, true, true, true, true, true] rfl rfl (any_of HT_.out (by kernel_rfl)) (fun _ _ _ h => h) (Or.inl ⟨by rfl, ?_⟩) ?_ ?_
     rotate_left
     ·intro w'
      go_simp
      with_reducible rfl
     rotate_left
     ·simp only [Act.put, Z3, Z4, Z5, i64_w, i32_w]
      rfl
     refine done_ (done_of HT_.out (by kernel_rfl)) ?_
     have hcz19_0 : w17.cell? ⟨gb168, 0, none⟩ = some (.int .i64 a0_0) := (Z2 BK168.out 0).trans rfl
     have hcz19_1 : w17.cell? ⟨gb168, 1, none⟩ = some (.slice A0_1 l0_1.length c0_1) := (Z2 BK168.out 1).trans rfl
     have hcz19_2 : w17.cell? ⟨gb168, 2, none⟩ = some (.slice A0_2 l0_2.length c0_2) := (Z2 BK168.out 2).trans rfl
     have hfz19_0 := Z1 BK168.out 0
     have hfz19_1 := Z1 BK168.out 1
     have hfz19_2 := Z1 BK168.out 2
     try go_wp2_with (first | ((with_reducible refine Y3 (f := 110) rfl ?_); refine goesL_ (some 20) rfl rfl Tryz.func110 (by kernel_rfl) rfl #[.int .i64 (l0_1.length : Int)] rfl V1 ?_; (with_reducible refine (table_headerLength.calls (l0_1.length : Int) t178 _ A4.out).mono ?_); rintro e w' ⟨rfl, ⟨nd, rfl⟩⟩; refine ⟨_, rfl, ?_⟩) | ((with_reducible refine Y3 (f := 109) rfl ?_); refine goesL_ (some 21) rfl rfl Tryz.func109 (by kernel_rfl) rfl #[.int .i64 t178, .int .i64 2] rfl V1 ?_; (with_reducible refine (table_low.calls k t178 2 t179 _ A5.out).mono ?_); rintro e w20 ⟨v180, rfl, ho0, hb⟩; refine ⟨_, rfl, ?_⟩; have n0_ := Z0 (Kd.R_elder' (by (with_reducible repeat (first | apply Kd.R_alloc | apply Kd.R_drewN | apply Kd.R_drew)); exact HO174.out) (Kd.R_base ho0) hb); have n1_ := Z0 (Kd.R_elder' (by (with_reducible repeat (first | apply Kd.R_alloc | apply Kd.R_drewN | apply Kd.R_drew)); exact HO177.out) (Kd.R_base ho0) hb); have n2_ := Z0 (Kd.R_lower (Kd.R_new' (Kd.R_new' ho0 (Kd.R_lt (by (with_reducible repeat (first | apply Kd.R_alloc | apply Kd.R_drewN | apply Kd.R_drew)); exact HO174.out))) (Kd.R_lt (by (with_reducible repeat (first | apply Kd.R_alloc | apply Kd.R_drewN | apply Kd.R_drew)); exact HO177.out))) (Y0 V0)); have n3_ := Z0 (Z7 (g := gb168) (o := .cells #[.int .i64 a0_0, .slice A0_1 l0_1.length c0_1, .slice A0_2 l0_2.length c0_2] 35 (0, 0)) (by (with_reducible repeat (first | refine Z8 ?_ _ | refine Y1 ?_ | refine Z9 ?_ _)); exact BK168.out) hb); have n4_ := Z0 (Z6 V0 hb); clear HO174; clear HO177; clear BK168; clear HB; have HO174 := n0_; have HO177 := n1_; have HO181 := n2_; have BK168 := n3_; have HB := n4_; clear n0_ n1_ n2_ n3_ n4_; (try clear hb); (try clear hb2); (try clear hk); (try clear hi); (try clear ho0); obtain ⟨Ao22, co22, eo22⟩ := Kd.R_slice HO181.out; subst eo22) | ((with_reducible refine gate_builtin (b := .append) (xs := #[.tmp 16, .tmp 21]) rfl ?_); at_builtin; refine Kd.R_append_rows (Kd.int .u8) (w0 := w) w.heap.size rfl (.tmp 16) (.tmp 21) 37 5 (.int .u8 0) 1 rfl Tryz.underlying37 info5 rfl (by decide) (by omega) v176 y175 t179 _ _ _ (fun k_ => some k_ ≠ (.slice Ao18 t172.length co18 : Value).ownBlock ∧ some k_ ≠ (.slice Ao22 t179.length co22 : Value).ownBlock) (fun _ => False) rfl rfl ?aO ?aR (fun _ _ h => h) (fun _ h => h.elim) ?aF ?aB ?aS ?aL ?_; (case aR => repeat (first | exact (Kd.R_reads' HO181.out).2.2 | (with_reducible refine Kd.C_alloc ?_ _) | (with_reducible refine Kd.C_drewN ?_ _) | (with_reducible refine Kd.C_drew ?_))); (case aB => exact V0); (case aF => exact (fun k_ hk => ⟨Kd.fresh' (Kd.R_lt (by (with_reducible repeat (first | apply Kd.R_alloc | apply Kd.R_drewN | apply Kd.R_drew)); exact HO174.out)) k_ hk, Kd.fresh' (Kd.R_lt (by (with_reducible repeat (first | apply Kd.R_alloc | apply Kd.R_drewN | apply Kd.R_drew)); exact HO181.out)) k_ hk⟩)); (case aO => exact (by (with_reducible repeat (first | apply Kd.R_alloc | apply Kd.R_drewN | apply Kd.R_drew)); exact HO177.out)); (case aS => exact (Y0 V0)); (case aL => have := LMc6.out; omega); intro v183 w21 ho hb hg hat; rw [← Ny182.out] at ho; have n0_ := Z0 (blk_grown (g := gb168) (o := .cells #[.int .i64 a0_0, .slice A0_1 l0_1.length c0_1, .slice A0_2 l0_2.length c0_2] 35 (0, 0)) (by (with_reducible repeat (first | refine Z8 ?_ _ | refine Y1 ?_ | refine Z9 ?_ _)); exact BK168.out) hg (Kd.R_ne HO177.out BK168.out (by decide))); have n1_ := Z0 (Kd.R_after (ok := (fun k_ => some k_ ≠ (.slice Ao22 t179.length co22 : Value).ownBlock)) (by (with_reducible repeat (first | apply Kd.R_alloc | apply Kd.R_drewN | apply Kd.R_drew)); exact Kd.R_mono HO174.out (fun _ hk => ⟨hk.2, hk.1.2⟩)) hg hat); have n2_ := Z0 (Kd.R_after (ok := (fun k_ => some k_ ≠ (.slice Ao18 t172.length co18 : Value).ownBlock)) (by (with_reducible repeat (first | apply Kd.R_alloc | apply Kd.R_drewN | apply Kd.R_drew)); exact Kd.R_mono HO181.out (fun _ hk => ⟨hk.1.2, hk.2⟩)) hg hat); have n3_ := Z0 (hb); have n4_ := Z0 (ho); clear BK168; clear HO174; clear HO181; clear HB; clear HO177; have BK168 := n0_; have HO174 := n1_; have HO181 := n2_; have HB := n3_; have HO184 := n4_; clear n0_ n1_ n2_ n3_ n4_; clear ho hb hg hat; have hcz23_0 : w21.cell? ⟨gb168, 0, none⟩ = some (.int .i64 a0_0) := (Z2 BK168.out 0).trans rfl; have hcz23_1 : w21.cell? ⟨gb168, 1, none⟩ = some (.slice A0_1 l0_1.length c0_1) := (Z2 BK168.out 1).trans rfl; have hcz23_2 : w21.cell? ⟨gb168, 2, none⟩ = some (.slice A0_2 l0_2.length c0_2) := (Z2 BK168.out 2).trans rfl; have hfz23_0 := Z1 BK168.out 0; have hfz23_1 := Z1 BK168.out 1; have hfz23_2 := Z1 BK168.out 2) | ((with_reducible refine Y3 (f := 69) rfl ?_); refine goesL_ (some 26) rfl rfl Tryz.func69 (by kernel_rfl) rfl #[.slice A0_1 l0_1.length c0_1] rfl V1 ?_; (with_reducible refine (table_length.calls k _ _ l0_1 t185 _ ?side1 ?side2 A7.out).mono ?_); (case side1 => repeat (first | exact (Kd.C_below HR0_1.out HB.out) | (with_reducible refine Kd.C_alloc ?_ _) | (with_reducible refine Kd.C_drewN ?_ _) | (with_reducible refine Kd.C_drew ?_))); (case side2 => exact HC0_1.out); rintro e w24 ⟨rfl, hb⟩; refine ⟨_, rfl, ?_⟩; have n0_ := Z0 (Kd.R_below (by (with_reducible repeat (first | apply Kd.R_alloc | apply Kd.R_drewN | apply Kd.R_drew)); exact HO174.out) hb); have n1_ := Z0 (Kd.R_below (by (with_reducible repeat (first | apply Kd.R_alloc | apply Kd.R_drewN | apply Kd.R_drew)); exact HO181.out) hb); have n2_ := Z0 (Kd.R_below (by (with_reducible repeat (first | apply Kd.R_alloc | apply Kd.R_drewN | apply Kd.R_drew)); exact HO184.out) hb); have n3_ := Z0 (Z7 (g := gb168) (o := .cells #[.int .i64 a0_0, .slice A0_1 l0_1.length c0_1, .slice A0_2 l0_2.length c0_2] 35 (0, 0)) (by (with_reducible repeat (first | refine Z8 ?_ _ | refine Y1 ?_ | refine Z9 ?_ _)); exact BK168.out) hb); have n4_ := Z0 (Z6 V0 hb); clear HO174; clear HO181; clear HO184; clear BK168; clear HB; have HO174 := n0_; have HO181 := n1_; have HO184 := n2_; have BK168 := n3_; have HB := n4_; clear n0_ n1_ n2_ n3_ n4_; (try clear hb); (try clear hb2); (try clear hk); (try clear hi)) | ((with_reducible refine Y3 (f := 109) rfl ?_); refine goesL_ (some 27) rfl rfl Tryz.func109 (by kernel_rfl) rfl #[.int .i64 t185, .int .i64 2] rfl V1 ?_; (with_reducible refine (table_low.calls k t185 2 t186 _ A8.out).mono ?_); rintro e w25 ⟨v187, rfl, ho0, hb⟩; refine ⟨_, rfl, ?_⟩; have n0_ := Z0 (Kd.R_elder' (by (with_reducible repeat (first | apply Kd.R_alloc | apply Kd.R_drewN | apply Kd.R_drew)); exact HO174.out) (Kd.R_base ho0) hb); have n1_ := Z0 (Kd.R_elder' (by (with_reducible repeat (first | apply Kd.R_alloc | apply Kd.R_drewN | apply Kd.R_drew)); exact HO181.out) (Kd.R_base ho0) hb); have n2_ := Z0 (Kd.R_elder' (by (with_reducible repeat (first | apply Kd.R_alloc | apply Kd.R_drewN | apply Kd.R_drew)); exact HO184.out) (Kd.R_base ho0) hb); have n3_ := Z0 (Kd.R_lower (Kd.R_new' (Kd.R_new' (Kd.R_new' ho0 (Kd.R_lt (by (with_reducible repeat (first | apply Kd.R_alloc | apply Kd.R_drewN | apply Kd.R_drew)); exact HO174.out))) (Kd.R_lt (by (with_reducible repeat (first | apply Kd.R_alloc | apply Kd.R_drewN | apply Kd.R_drew)); exact HO181.out))) (Kd.R_lt (by (with_reducible repeat (first | apply Kd.R_alloc | apply Kd.R_drewN | apply Kd.R_drew)); exact HO184.out))) (Y0 V0)); have n4_ := Z0 (Z7 (g := gb168) (o := .cells #[.int .i64 a0_0, .slice A0_1 l0_1.length c0_1, .slice A0_2 l0_2.length c0_2] 35 (0, 0)) (by (with_reducible repeat (first | refine Z8 ?_ _ | refine Y1 ?_ | refine Z9 ?_ _)); exact BK168.out) hb); have n5_ := Z0 (Z6 V0 hb); clear HO174; clear HO181; clear HO184; clear BK168; clear HB; have HO174 := n0_; have HO181 := n1_; have HO184 := n2_; have HO188 := n3_; have BK168 := n4_; have HB := n5_; clear n0_ n1_ n2_ n3_ n4_ n5_; (try clear hb); (try clear hb2); (try clear hk); (try clear hi); (try clear ho0); obtain ⟨Ao27, co27, eo27⟩ := Kd.R_slice HO188.out; subst eo27) | ((with_reducible refine gate_builtin (b := .append) (xs := #[.tmp 23, .tmp 27]) rfl ?_); at_builtin; refine Kd.R_append_rows (Kd.int .u8) (w0 := w) w.heap.size rfl (.tmp 23) (.tmp 27) 37 5 (.int .u8 0) 1 rfl Tryz.underlying37 info5 rfl (by decide) (by omega) v183 y182 t186 _ _ _ (fun k_ => some k_ ≠ (.slice Ao18 t172.length co18 : Value).ownBlock ∧ some k_ ≠ (.slice Ao22 t179.length co22 : Value).ownBlock ∧ some k_ ≠ (.slice Ao27 t186.length co27 : Value).ownBlock) (fun _ => False) rfl rfl ?aO ?aR (fun _ _ h => h) (fun _ h => h.elim) ?aF ?aB ?aS ?aL ?_; (case aR => repeat (first | exact (Kd.R_reads' HO188.out).2.2 | (with_reducible refine Kd.C_alloc ?_ _) | (with_reducible refine Kd.C_drewN ?_ _) | (with_reducible refine Kd.C_drew ?_))); (case aB => exact V0); (case aF => exact (fun k_ hk => ⟨Kd.fresh' (Kd.R_lt (by (with_reducible repeat (first | apply Kd.R_alloc | apply Kd.R_drewN | apply Kd.R_drew)); exact HO174.out)) k_ hk, Kd.fresh' (Kd.R_lt (by (with_reducible repeat (first | apply Kd.R_alloc | apply Kd.R_drewN | apply Kd.R_drew)); exact HO181.out)) k_ hk, Kd.fresh' (Kd.R_lt (by (with_reducible repeat (first | apply Kd.R_alloc | apply Kd.R_drewN | apply Kd.R_drew)); exact HO188.out)) k_ hk⟩)); (case aO => exact (by (with_reducible repeat (first | apply Kd.R_alloc | apply Kd.R_drewN | apply Kd.R_drew)); exact Kd.R_mono HO184.out (fun _ hk => ⟨hk.1.1, ⟨hk.1.2, hk.2⟩⟩))); (case aS => exact (Y0 V0)); (case aL => have := LMc9.out; omega); intro v190 w26 ho hb hg hat; rw [← Ny189.out] at ho; have n0_ := Z0 (blk_grown (g := gb168) (o := .cells #[.int .i64 a0_0, .slice A0_1 l0_1.length c0_1, .slice A0_2 l0_2.length c0_2] 35 (0, 0)) (by (with_reducible repeat (first | refine Z8 ?_ _ | refine Y1 ?_ | refine Z9 ?_ _)); exact BK168.out) hg (Kd.R_ne HO184.out BK168.out (by decide))); have n1_ := Z0 (Kd.R_after (ok := (fun k_ => some k_ ≠ (.slice Ao22 t179.length co22 : Value).ownBlock ∧ some k_ ≠ (.slice Ao27 t186.length co27 : Value).ownBlock)) (by (with_reducible repeat (first | apply Kd.R_alloc | apply Kd.R_drewN | apply Kd.R_drew)); exact Kd.R_mono HO174.out (fun _ hk => ⟨⟨hk.1.1, hk.2⟩, hk.1.2⟩)) hg hat); have n2_ := Z0 (Kd.R_after (ok := (fun k_ => some k_ ≠ (.slice Ao18 t172.length co18 : Value).ownBlock ∧ some k_ ≠ (.slice Ao27 t186.length co27 : Value).ownBlock)) (by (with_reducible repeat (first | apply Kd.R_alloc | apply Kd.R_drewN | apply Kd.R_drew)); exact Kd.R_mono HO181.out (fun _ hk => ⟨⟨hk.1.1, hk.2⟩, hk.1.2⟩)) hg hat); have n3_ := Z0 (Kd.R_after (ok := (fun k_ => some k_ ≠ (.slice Ao18 t172.length co18 : Value).ownBlock ∧ some k_ ≠ (.slice Ao22 t179.length co22 : Value).ownBlock)) (by (with_reducible repeat (first | apply Kd.R_alloc | apply Kd.R_drewN | apply Kd.R_drew)); exact Kd.R_mono HO188.out (fun _ hk => ⟨⟨hk.1.1.2, hk.1.2⟩, hk.2⟩)) hg hat); have n4_ := Z0 (hb); have n5_ := Z0 (ho); clear BK168; clear HO174; clear HO181; clear HO188; clear HB; clear HO184; have BK168 := n0_; have HO174 := n1_; have HO181 := n2_; have HO188 := n3_; have HB := n4_; have HO191 := n5_; clear n0_ n1_ n2_ n3_ n4_ n5_; clear ho hb hg hat; have hcz28_0 : w26.cell? ⟨gb168, 0, none⟩ = some (.int .i64 a0_0) := (Z2 BK168.out 0).trans rfl; have hcz28_1 : w26.cell? ⟨gb168, 1, none⟩ = some (.slice A0_1 l0_1.length c0_1) := (Z2 BK168.out 1).trans rfl; have hcz28_2 : w26.cell? ⟨gb168, 2, none⟩ = some (.slice A0_2 l0_2.length c0_2) := (Z2 BK168.out 2).trans rfl; have hfz28_0 := Z1 BK168.out 0; have hfz28_1 := Z1 BK168.out 1; have hfz28_2 := Z1 BK168.out 2) | ((with_reducible refine Y4 (N := 34) rfl ?_); refine Kd.R_lit (Kd.int .u8) _ 5 ?hg (N := 34) ?hd (xs := ([((l0_1.length : Int)) % 256, 0] : List Int)) (inner := [.int .u8 (((l0_1.length : Int)) % 256), .int .u8 0]) (ok := fun _ => True) (okp := fun _ => True) ?hr ?hp (fun _ hk => hk) trivial (Below.refl _ _) (Nat.le_refl _) (by simp) ?_; (case hd => rfl); (case hg => rfl); (case hr => go_simp; try rfl); (case hp => exact (Reps.one (show Kd.M (Kd.int .u8) _ _ _ (((l0_1.length : Int)) % 256) [.int .u8 (((l0_1.length : Int)) % 256)] from rfl) (Reps.one (show Kd.M (Kd.int .u8) _ _ _ 0 [.int .u8 0] from rfl) (Reps.none _ _)))); intro v193 w29 ho30 hb hg_ hnew_; clear hg_ hnew_; (first | rw [← Ny192.out] at ho30 | (simp only [Int.reduceToNat] at ho30; rw [← Ny192.out] at ho30)); have n0_ := Z0 (Kd.R_elder' (by (with_reducible repeat (first | apply Kd.R_alloc | apply Kd.R_drewN | apply Kd.R_drew)); exact HO174.out) (Kd.R_base ho30) hb); have n1_ := Z0 (Kd.R_elder' (by (with_reducible repeat (first | apply Kd.R_alloc | apply Kd.R_drewN | apply Kd.R_drew)); exact HO181.out) (Kd.R_base ho30) hb); have n2_ := Z0 (Kd.R_elder' (by (with_reducible repeat (first | apply Kd.R_alloc | apply Kd.R_drewN | apply Kd.R_drew)); exact HO188.out) (Kd.R_base ho30) hb); have n3_ := Z0 (Kd.R_elder' (by (with_reducible repeat (first | apply Kd.R_alloc | apply Kd.R_drewN | apply Kd.R_drew)); exact HO191.out) (Kd.R_base ho30) hb); have n4_ := Z0 (Kd.R_lower (Kd.R_new' (Kd.R_new' (Kd.R_new' (Kd.R_new' ho30 (Kd.R_lt (by (with_reducible repeat (first | apply Kd.R_alloc | apply Kd.R_drewN | apply Kd.R_drew)); exact HO174.out))) (Kd.R_lt (by (with_reducible repeat (first | apply Kd.R_alloc | apply Kd.R_drewN | apply Kd.R_drew)); exact HO181.out))) (Kd.R_lt (by (with_reducible repeat (first | apply Kd.R_alloc | apply Kd.R_drewN | apply Kd.R_drew)); exact HO188.out))) (Kd.R_lt (by (with_reducible repeat (first | apply Kd.R_alloc | apply Kd.R_drewN | apply Kd.R_drew)); exact HO191.out))) (Y0 V0)); have n5_ := Z0 (Z7 (g := gb168) (o := .cells #[.int .i64 a0_0, .slice A0_1 l0_1.length c0_1, .slice A0_2 l0_2.length c0_2] 35 (0, 0)) (by (with_reducible repeat (first | refine Z8 ?_ _ | refine Y1 ?_ | refine Z9 ?_ _)); exact BK168.out) hb); have n6_ := Z0 (Z6 V0 hb); clear HO174; clear HO181; clear HO188; clear HO191; clear BK168; clear HB; have HO174 := n0_; have HO181 := n1_; have HO188 := n2_; have HO191 := n3_; have HO194 := n4_; have BK168 := n5_; have HB := n6_; clear n0_ n1_ n2_ n3_ n4_ n5_ n6_; clear hb ho30; obtain ⟨Ao32, co32, eo32⟩ := Kd.R_slice HO194.out; subst eo32) | ((with_reducible refine gate_builtin (b := .append) (xs := #[.tmp 29, .tmp 34]) rfl ?_); at_builtin; refine Kd.R_append_rows (Kd.int .u8) (w0 := w) w.heap.size rfl (.tmp 29) (.tmp 34) 37 5 (.int .u8 0) 1 rfl Tryz.underlying37 info5 rfl (by decide) (by omega) v190 y189 y192 _ _ _ (fun k_ => some k_ ≠ (.slice Ao18 t172.length co18 : Value).ownBlock ∧ some k_ ≠ (.slice Ao22 t179.length co22 : Value).ownBlock ∧ some k_ ≠ (.slice Ao27 t186.length co27 : Value).ownBlock ∧ some k_ ≠ (.slice Ao32 y192.length co32 : Value).ownBlock) (fun _ => False) rfl rfl ?aO ?aR (fun _ _ h => h) (fun _ h => h.elim) ?aF ?aB ?aS ?aL ?_; (case aR => repeat (first | exact (Kd.R_reads' HO194.out).2.2 | (with_reducible refine Kd.C_alloc ?_ _) | (with_reducible refine Kd.C_drewN ?_ _) | (with_reducible refine Kd.C_drew ?_))); (case aB => exact V0); (case aF => exact (fun k_ hk => ⟨Kd.fresh' (Kd.R_lt (by (with_reducible repeat (first | apply Kd.R_alloc | apply Kd.R_drewN | apply Kd.R_drew)); exact HO174.out)) k_ hk, Kd.fresh' (Kd.R_lt (by (with_reducible repeat (first | apply Kd.R_alloc | apply Kd.R_drewN | apply Kd.R_drew)); exact HO181.out)) k_ hk, Kd.fresh' (Kd.R_lt (by (with_reducible repeat (first | apply Kd.R_alloc | apply Kd.R_drewN | apply Kd.R_drew)); exact HO188.out)) k_ hk, Kd.fresh' (Kd.R_lt (by (with_reducible repeat (first | apply Kd.R_alloc | apply Kd.R_drewN | apply Kd.R_drew)); exact HO194.out)) k_ hk⟩)); (case aO => exact (by (with_reducible repeat (first | apply Kd.R_alloc | apply Kd.R_drewN | apply Kd.R_drew)); exact Kd.R_mono HO191.out (fun _ hk => ⟨hk.1.1, ⟨hk.1.2.1, ⟨hk.1.2.2, hk.2⟩⟩⟩))); (case aS => exact (Y0 V0)); (case aL => have := LMc10.out; omega); intro v196 w31 ho hb hg hat; rw [← Ny195.out] at ho; have n0_ := Z0 (blk_grown (g := gb168) (o := .cells #[.int .i64 a0_0, .slice A0_1 l0_1.length c0_1, .slice A0_2 l0_2.length c0_2] 35 (0, 0)) (by (with_reducible repeat (first | refine Z8 ?_ _ | refine Y1 ?_ | refine Z9 ?_ _)); exact BK168.out) hg (Kd.R_ne HO191.out BK168.out (by decide))); have n1_ := Z0 (Kd.R_after (ok := (fun k_ => some k_ ≠ (.slice Ao22 t179.length co22 : Value).ownBlock ∧ some k_ ≠ (.slice Ao27 t186.length co27 : Value).ownBlock ∧ some k_ ≠ (.slice Ao32 y192.length co32 : Value).ownBlock)) (by (with_reducible repeat (first | apply Kd.R_alloc | apply Kd.R_drewN | apply Kd.R_drew)); exact Kd.R_mono HO174.out (fun _ hk => ⟨⟨hk.1.1.1, ⟨hk.1.1.2, hk.2⟩⟩, hk.1.2⟩)) hg hat); have n2_ := Z0 (Kd.R_after (ok := (fun k_ => some k_ ≠ (.slice Ao18 t172.length co18 : Value).ownBlock ∧ some k_ ≠ (.slice Ao27 t186.length co27 : Value).ownBlock ∧ some k_ ≠ (.slice Ao32 y192.length co32 : Value).ownBlock)) (by (with_reducible repeat (first | apply Kd.R_alloc | apply Kd.R_drewN | apply Kd.R_drew)); exact Kd.R_mono HO181.out (fun _ hk => ⟨⟨hk.1.1.1, ⟨hk.1.1.2, hk.2⟩⟩, hk.1.2⟩)) hg hat); have n3_ := Z0 (Kd.R_after (ok := (fun k_ => some k_ ≠ (.slice Ao18 t172.length co18 : Value).ownBlock ∧ some k_ ≠ (.slice Ao22 t179.length co22 : Value).ownBlock ∧ some k_ ≠ (.slice Ao32 y192.length co32 : Value).ownBlock)) (by (with_reducible repeat (first | apply Kd.R_alloc | apply Kd.R_drewN | apply Kd.R_drew)); exact Kd.R_mono HO188.out (fun _ hk => ⟨⟨hk.1.1.1, ⟨hk.1.1.2, hk.2⟩⟩, hk.1.2⟩)) hg hat); have n4_ := Z0 (Kd.R_after (ok := (fun k_ => some k_ ≠ (.slice Ao18 t172.length co18 : Value).ownBlock ∧ some k_ ≠ (.slice Ao22 t179.length co22 : Value).ownBlock ∧ some k_ ≠ (.slice Ao27 t186.length co27 : Value).ownBlock)) (by (with_reducible repeat (first | apply Kd.R_alloc | apply Kd.R_drewN | apply Kd.R_drew)); exact Kd.R_mono HO194.out (fun _ hk => ⟨⟨hk.1.1.1.2, ⟨hk.1.1.2, hk.1.2⟩⟩, hk.2⟩)) hg hat); have n5_ := Z0 (hb); have n6_ := Z0 (ho); clear BK168; clear HO174; clear HO181; clear HO188; clear HO194; clear HB; clear HO191; have BK168 := n0_; have HO174 := n1_; have HO181 := n2_; have HO188 := n3_; have HO194 := n4_; have HB := n5_; have HO197 := n6_; clear n0_ n1_ n2_ n3_ n4_ n5_ n6_; clear ho hb hg hat; have hcz33_0 : w31.cell? ⟨gb168, 0, none⟩ = some (.int .i64 a0_0) := (Z2 BK168.out 0).trans rfl; have hcz33_1 : w31.cell? ⟨gb168, 1, none⟩ = some (.slice A0_1 l0_1.length c0_1) := (Z2 BK168.out 1).trans rfl; have hcz33_2 : w31.cell? ⟨gb168, 2, none⟩ = some (.slice A0_2 l0_2.length c0_2) := (Z2 BK168.out 2).trans rfl; have hfz33_0 := Z1 BK168.out 0; have hfz33_1 := Z1 BK168.out 1; have hfz33_2 := Z1 BK168.out 2))
     go_loopg [3, 39] k (fun kq v3 v39 w' => ∃ (x3_1 : List Int) (x39_1 : Int), v39 = .int .i64 x39_1 ∧ Aside0 (table_header.l0 kq x3_1 l0_1 (l0_1.length : Int) x39_1 = some r) ∧ Aside0 (kq ≤ k) ∧ Aside0 (Kd.R (Kd.int .u8) 5 w' w.heap.size (fun _ => True) v3 x3_1) ∧ Aside0 (w'.heap[gb168]? = some (.cells #[.int .i64 a0_0, (.slice A0_1 l0_1.length c0_1), (.slice A0_2 l0_2.length c0_2)] 35 (0, 0))) ∧ Aside0 (Below w.heap.size w w'))
     case atStart => exact ⟨(y195), (0), V2, H', ⟨Nat.le_refl _⟩, ⟨by (with_reducible repeat (first | apply Kd.R_alloc | apply Kd.R_drewN | apply Kd.R_drew)); exact Kd.R_mono HO197.out (fun _ hk => trivial)⟩, ⟨by (with_reducible repeat (first | refine Z8 ?_ _ | refine Y1 ?_ | refine Z9 ?_ _)); exact BK168.out⟩, ⟨V0⟩⟩
     case round =>
      clear H'
      (try clear c1);(try clear p2);(try clear c3);(try clear c6);(try clear c9);(try clear c10);(try clear c11);(try clear hcz19_0);(try clear hcz19_1);(try clear hcz19_2);(try clear hcz23_0);(try clear hcz23_1);(try clear hcz23_2);(try clear hcz28_0);(try clear hcz28_1);(try clear hcz28_2);(try clear hcz33_0);(try clear hcz33_1);(try clear hcz33_2);(try clear hfz19_0);(try clear hfz19_1);(try clear hfz19_2);(try clear hfz23_0);(try clear hfz23_1);(try clear hfz23_2);(try clear hfz28_0);(try clear hfz28_1);(try clear hfz28_2);(try clear hfz33_0);(try clear hfz33_1);(try clear hfz33_2)
      obtain ⟨x3_1, x39_1, rfl, HA, HK1, HO_3, BK168, HB⟩ := hrel
      cases gk with
      | zero => exact absurd HA.out (by simp [table_header.l0])
      | succ k1 =>
       have H := HA.out
       clear HA
       simp only [table_header.l0] at H
       by_cases c34 : x39_1 < (l0_1.length : Int)
       ·rw [if_pos c34] at H
        have c34b0 : decide (x39_1 < (l0_1.length : Int)) = true := decide_eq_true c34
        clear c34
        by_cases c35 : 0 ≤ x39_1
        ·rw [if_pos c35] at H
         have c35b0 : decide (0 ≤ x39_1) = true := decide_eq_true c35
         clear c35
         by_cases c36 : x39_1 < (l0_1.length : Int)
         ·rw [if_pos c36] at H
          have c36b0 : decide (x39_1 < (l0_1.length : Int)) = true := decide_eq_true c36
          clear c36
          replace H := Option.bind_eq_some_iff.mp H
          obtain ⟨t200, A370, H⟩ := H
          replace H : (if x3_1.length + t200.length < 140737488355328 then (table_header.l0 k1 (x3_1 ++ t200) l0_1 (l0_1.length : Int) (wrap64 (x39_1 + 1))) else (none)) = some r := H
          have A37 := Z0 A370
          clear A370
          by_cases c38 : x3_1.length + t200.length < 140737488355328
          ·rw [if_pos c38] at H
           have LMc38 := Z0 c38
           clear c38
           obtain ⟨y203, hy203⟩ : ∃ y_ : List Int, y_ = (x3_1 ++ t200) := ⟨_, rfl⟩
           replace H : (table_header.l0 k1 y203 l0_1 (l0_1.length : Int) (wrap64 (x39_1 + 1))) = some r := by rw [hy203]; exact H
           have Ny203 := Z0 hy203
           clear hy203
           have H' := Z0 H
           clear H
           have p198 : 0 ≤ (x39_1 : Int) := of_decide_eq_true V3
           have q198 : x39_1 < (l0_1.length : Int) := of_decide_eq_true V3
           obtain ⟨ad198, e198, hx198_0, hx198_1, hx198_2, hx198_3⟩ := at_T23 HR0_1.out x39_1 p198 q198
           cases e198
           replace hx198_0 := (HB.out.cell (World.block_lt_of_cell? w _ hx198_0)).trans hx198_0
           replace hx198_1 := (HB.out.cell (World.block_lt_of_cell? w _ hx198_1)).trans hx198_1
           replace hx198_2 := (HB.out.cell (World.block_lt_of_cell? w _ hx198_2)).trans hx198_2
           replace hx198_3 := (HB.out.cell (World.block_lt_of_cell? w _ hx198_3)).trans hx198_3
           replace p198 := eq_true p198
           replace q198 := eq_true q198
           obtain ⟨hs10, htl, htd⟩ := descO_some A37.out
           have HS10 := Z0 hs10
           have HTL := Z0 htl
           have HTD := Z0 htd
           clear hs10 htl htd
           go_wp2_with (first | ((with_reducible refine Y4 (N := 5) rfl ?_); refine Y2 ?hg (N := 5) ?hd (cs := #[.string (⟨#[]⟩ : ByteArray), .int .i64 0, .int .i64 0, .bool false]) (t := 23) ?hr ?_; (case hd => rfl); (case hg => rfl); (case hr => go_simp; try rfl); intro gb199 hg w39 hbox hb; have n0_ := Z0 (Kd.R_below (by (with_reducible repeat (first | apply Kd.R_alloc | apply Kd.R_drewN | apply Kd.R_drew)); exact HO_3.out) hb); have n1_ := Z0 (Z7 (g := gb168) (o := .cells #[.int .i64 a0_0, .slice (some ad198) l0_1.length c0_1, .slice A0_2 l0_2.length c0_2] 35 (0, 0)) (by (with_reducible repeat (first | refine Z8 ?_ _ | refine Y1 ?_ | refine Z9 ?_ _)); exact BK168.out) hb); have n2_ := Z0 (Z6 V0 hb); have n3_ := Z0 (hbox); have n5_ := Z0 ((by rw [hg]; exact (Y0 V0) : w.heap.size ≤ gb199)); have n6_ := Z0 ((by rw [hg]; exact Nat.ne_of_lt (blk_lt (g := gb168) (o := .cells #[.int .i64 a0_0, .slice (some ad198) l0_1.length c0_1, .slice A0_2 l0_2.length c0_2] 35 (0, 0)) (by (with_reducible repeat (first | refine Z8 ?_ _ | refine Y1 ?_ | refine Z9 ?_ _)); exact BK168.out)) : gb168 ≠ gb199)); have n7_ := Z0 ((by rw [hg]; exact Nat.ne_of_gt (blk_lt (g := gb168) (o := .cells #[.int .i64 a0_0, .slice (some ad198) l0_1.length c0_1, .slice A0_2 l0_2.length c0_2] 35 (0, 0)) (by (with_reducible repeat (first | refine Z8 ?_ _ | refine Y1 ?_ | refine Z9 ?_ _)); exact BK168.out)) : gb199 ≠ gb168)); clear HO_3; clear BK168; clear HB; have HO_3 := n0_; have BK168 := n1_; have HB := n2_; have BK199 := n3_; have GE199 := n5_; have NB168_199 := n6_; have NB199_168 := n7_; clear n0_ n1_ n2_ n3_ n5_ n6_ n7_; clear hb hbox hg; have hnb40 := NB199_168.out; have hnc40 := NB168_199.out; have hcz41_0 : w39.cell? ⟨gb199, 0, none⟩ = some (.string (⟨#[]⟩ : ByteArray)) := (Z2 BK199.out 0).trans rfl; have hcz41_1 : w39.cell? ⟨gb199, 1, none⟩ = some (.int .i64 0) := (Z2 BK199.out 1).trans rfl; have hcz41_2 : w39.cell? ⟨gb199, 2, none⟩ = some (.int .i64 0) := (Z2 BK199.out 2).trans rfl; have hcz41_3 : w39.cell? ⟨gb199, 3, none⟩ = some (.bool false) := (Z2 BK199.out 3).trans rfl; have hfz41_0 := Z1 BK199.out 0; have hfz41_1 := Z1 BK199.out 1; have hfz41_2 := Z1 BK199.out 2; have hfz41_3 := Z1 BK199.out 3) | ((with_reducible refine Y4 (N := 6) rfl ?_); refine Y2 ?hg (N := 6) ?hd (cs := #[.int .u8 0, .int .u8 0, .int .u8 0, .int .u8 0, .int .u8 0, .int .u8 0, .int .u8 0, .int .u8 0, .int .u8 0, .int .u8 0, .int .u8 0, .int .u8 0, .int .u8 0, .int .u8 0, .int .u8 0, .int .u8 0]) (t := 123) ?hr ?_; (case hd => rfl); (case hg => rfl); (case hr => go_simp; try rfl); intro g6 hg w6 hbox hb; have n0_ := Z0 (Kd.R_below (by (with_reducible repeat (first | apply Kd.R_alloc | apply Kd.R_drewN | apply Kd.R_drew)); exact (Kd.R_mono (Kd.R_far (p := ⟨gb199, 3, none⟩) (Kd.R_far (p := ⟨gb199, 2, none⟩) (Kd.R_far (p := ⟨gb199, 1, none⟩) (Kd.R_far (p := ⟨gb199, 0, none⟩) (Kd.R_types HO_3.out BK199.out (by decide)) (fun _ hk => hk.2) (.string ((rd_T23 l0_1 x39_1).f0))) (fun _ hk => hk.2) (.int .i64 ((rd_T23 l0_1 x39_1).f1))) (fun _ hk => hk.2) (.int .i64 ((rd_T23 l0_1 x39_1).f2))) (fun _ hk => hk.2) (.bool ((rd_T23 l0_1 x39_1).f3))) (fun _ h_ => h_.1))) hb); have n2_ := Z0 (Z7 (g := gb168) (o := .cells #[.int .i64 a0_0, .slice (some ad198) l0_1.length c0_1, .slice A0_2 l0_2.length c0_2] 35 (0, 0)) (by (with_reducible repeat (first | refine Z8 ?_ _ | refine Y1 ?_ | refine Z9 ?_ _)); refine blk_far ?_ NB168_199.out _; (with_reducible repeat (first | refine Z8 ?_ _ | refine Y1 ?_ | refine Z9 ?_ _)); refine blk_far ?_ NB168_199.out _; (with_reducible repeat (first | refine Z8 ?_ _ | refine Y1 ?_ | refine Z9 ?_ _)); refine blk_far ?_ NB168_199.out _; (with_reducible repeat (first | refine Z8 ?_ _ | refine Y1 ?_ | refine Z9 ?_ _)); refine blk_far ?_ NB168_199.out _; (with_reducible repeat (first | refine Z8 ?_ _ | refine Y1 ?_ | refine Z9 ?_ _)); exact BK168.out) hb); have n3_ := Z0 (Z7 (g := gb199) (o := .cells #[.string ((rd_T23 l0_1 x39_1).f0), .int .i64 ((rd_T23 l0_1 x39_1).f1), .int .i64 ((rd_T23 l0_1 x39_1).f2), .bool ((rd_T23 l0_1 x39_1).f3)] 23 (0, 0)) (by (with_reducible repeat (first | refine Z8 ?_ _ | refine Y1 ?_ | refine Z9 ?_ _)); refine blk_put (cs := #[.string ((rd_T23 l0_1 x39_1).f0), .int .i64 ((rd_T23 l0_1 x39_1).f1), .int .i64 ((rd_T23 l0_1 x39_1).f2), .bool false]) ?_ 3 _ rfl; (with_reducible repeat (first | refine Z8 ?_ _ | refine Y1 ?_ | refine Z9 ?_ _)); refine blk_put (cs := #[.string ((rd_T23 l0_1 x39_1).f0), .int .i64 ((rd_T23 l0_1 x39_1).f1), .int .i64 0, .bool false]) ?_ 2 _ rfl; (with_reducible repeat (first | refine Z8 ?_ _ | refine Y1 ?_ | refine Z9 ?_ _)); refine blk_put (cs := #[.string ((rd_T23 l0_1 x39_1).f0), .int .i64 0, .int .i64 0, .bool false]) ?_ 1 _ rfl; (with_reducible repeat (first | refine Z8 ?_ _ | refine Y1 ?_ | refine Z9 ?_ _)); refine blk_put (cs := #[.string (⟨#[]⟩ : ByteArray), .int .i64 0, .int .i64 0, .bool false]) ?_ 0 _ rfl; (with_reducible repeat (first | refine Z8 ?_ _ | refine Y1 ?_ | refine Z9 ?_ _)); exact BK199.out) hb); have n4_ := Z0 (Z6 V0 hb); have n5_ := Z0 ((by rw [hg]; exact Nat.ne_of_lt (blk_lt (g := gb168) (o := .cells #[.int .i64 a0_0, .slice (some ad198) l0_1.length c0_1, .slice A0_2 l0_2.length c0_2] 35 (0, 0)) (by (with_reducible repeat (first | refine Z8 ?_ _ | refine Y1 ?_ | refine Z9 ?_ _)); refine blk_far ?_ NB168_199.out _; (with_reducible repeat (first | refine Z8 ?_ _ | refine Y1 ?_ | refine Z9 ?_ _)); refine blk_far ?_ NB168_199.out _; (with_reducible repeat (first | refine Z8 ?_ _ | refine Y1 ?_ | refine Z9 ?_ _)); refine blk_far ?_ NB168_199.out _; (with_reducible repeat (first | refine Z8 ?_ _ | refine Y1 ?_ | refine Z9 ?_ _)); refine blk_far ?_ NB168_199.out _; (with_reducible repeat (first | refine Z8 ?_ _ | refine Y1 ?_ | refine Z9 ?_ _)); exact BK168.out))) : gb168 ≠ g6); have n6_ := Z0 ((by rw [hg]; exact Nat.ne_of_lt (blk_lt (g := gb199) (o := .cells #[.string ((rd_T23 l0_1 x39_1).f0), .int .i64 ((rd_T23 l0_1 x39_1).f1), .int .i64 ((rd_T23 l0_1 x39_1).f2), .bool ((rd_T23 l0_1 x39_1).f3)] 23 (0, 0)) (by (with_reducible repeat (first | refine Z8 ?_ _ | refine Y1 ?_ | refine Z9 ?_ _)); refine blk_put (cs := #[.string ((rd_T23 l0_1 x39_1).f0), .int .i64 ((rd_T23 l0_1 x39_1).f1), .int .i64 ((rd_T23 l0_1 x39_1).f2), .bool false]) ?_ 3 _ rfl; (with_reducible repeat (first | refine Z8 ?_ _ | refine Y1 ?_ | refine Z9 ?_ _)); refine blk_put (cs := #[.string ((rd_T23 l0_1 x39_1).f0), .int .i64 ((rd_T23 l0_1 x39_1).f1), .int .i64 0, .bool false]) ?_ 2 _ rfl; (with_reducible repeat (first | refine Z8 ?_ _ | refine Y1 ?_ | refine Z9 ?_ _)); refine blk_put (cs := #[.string ((rd_T23 l0_1 x39_1).f0), .int .i64 0, .int .i64 0, .bool false]) ?_ 1 _ rfl; (with_reducible repeat (first | refine Z8 ?_ _ | refine Y1 ?_ | refine Z9 ?_ _)); refine blk_put (cs := #[.string (⟨#[]⟩ : ByteArray), .int .i64 0, .int .i64 0, .bool false]) ?_ 0 _ rfl; (with_reducible repeat (first | refine Z8 ?_ _ | refine Y1 ?_ | refine Z9 ?_ _)); exact BK199.out))) : gb199 ≠ g6); have n7_ := Z0 ((by rw [hg]; exact Y0 V0) : w.heap.size ≤ g6); have n8_ := Z0 hbox; clear HO_3; clear BK168; clear BK199; clear HB; have HO_3 := n0_; have BK168 := n2_; have BK199 := n3_; have HB := n4_; have N168_6 := n5_; have N199_6 := n6_; have GE6 := n7_; have BK6 := n8_; clear n0_ n2_ n3_ n4_ n5_ n6_ n7_ n8_; clear hb hbox hg))
           (try clear hcz41_0);(try clear hcz41_1);(try clear hcz41_2);(try clear hcz41_3);(try clear hfz41_0);(try clear hfz41_1);(try clear hfz41_2);(try clear hfz41_3);(try clear hx198_0);(try clear hx198_1);(try clear hx198_2);(try clear hx198_3)
           have nO := Z0 (Kd.R_drew HO_3.out)
           have n1 := Z0 (Y1 BK168.out)
           have n2 := Z0 (Y1 BK199.out)
           have n3 := Z0 (Y1 BK6.out)
           have nB := Z0 (below_drew1 HB.out)
           clear HO_3 BK168 BK199 BK6 HB
           have HO_3 := nO
           have BK168 := n1
           have BK199 := n2
           have BK6 := n3
           have HB := nB
           clear nO n1 n2 n3 nB
           refine start_ (n := 4) (S := fun w' => w'.heap[gb199]? = some (.cells #[.string ((rd_T23 l0_1 x39_1).f0), .int .i64 ((rd_T23 l0_1 x39_1).f1), .int .i64 ((rd_T23 l0_1 x39_1).f2), .bool ((rd_T23 l0_1 x39_1).f3)] 23 (0, 0))) (ds := []) #[false, false, false, false] (by kernel_rfl) rfl rfl BK199.out (fun hHeld => ?_)
           refine with_tab hd_tab9 (fun HT_ => ?_)
           generalize w6.drew = w7 at HO_3 BK168 BK199 BK6 HB hHeld ⊢
           refine pure_ (i := 0) (N := some 43) (v := ?_) (a' := ?_) #[true, false, false, false] rfl rfl (any_of HT_.out (by kernel_rfl)) (fun _ _ _ h => h) (Or.inl ⟨by rfl, ?_⟩) ?_ ?_
           rotate_left
           ·intro w'
            go_simp
            with_reducible rfl
           rotate_left
           ·simp only [Act.put, Z3, Z4, Z5, i64_w, i32_w]
            rfl
           refine pure_ (i := 1) (N := some 44) (v := ?_) (a' := ?_) #[true, true, false, false] rfl rfl (any_of HT_.out (by kernel_rfl)) (fun _ _ _ h => h) (Or.inl ⟨by rfl, ?_⟩) ?_ ?_
           rotate_left
           ·intro w'
            go_simp
            with_reducible rfl
           rotate_left
           ·simp only [Act.put, Z3, Z4, Z5, i64_w, i32_w]
            rfl
           refine take_ (i := 2) (N := some 45) (v := ?_) (a' := ?_) #[true, true, true, false] rfl rfl (take_of HT_.out (by kernel_rfl)) (fun _ _ _ h => h) (Or.inl ⟨by rfl, ?_⟩) hHeld ?_ ?_
           rotate_left
           ·rintro w' s0
            have sc := (Z2 s0 0).trans rfl
            go_simp
            with_reducible rfl
           rotate_left
           ·simp only [Act.put, Z3, Z4, Z5, i64_w, i32_w]
            rfl
           refine one_ (i := 3) (N := some 46) #[true, true, true, true] rfl rfl (one_of HT_.out (by kernel_rfl)) (by decide) (fun K hK => ?_)
           have hcp := copy_arr w7 g6 (rd_T23 l0_1 x39_1).f0 BK6.out HS10.out
           refine event_step (v := .int .i64 (rd_T23 l0_1 x39_1).f0.size) (w1 := w7.setRow g6 (u8s (nameL (rd_T23 l0_1 x39_1).f0 ++ [0, 0, 0, 0, 0, 0]))) rfl (by first | (go_simp; done) | (go_simp; exact ⟨rfl, rfl⟩)) ?_
           clear hcp
           have nO := Z0 (rowset_R HO_3.out BK6.out (u8s (nameL (rd_T23 l0_1 x39_1).f0 ++ [0, 0, 0, 0, 0, 0])) (by decide))
           have n1 := Z0 (rowset_far BK168.out N168_6.out (u8s (nameL (rd_T23 l0_1 x39_1).f0 ++ [0, 0, 0, 0, 0, 0])))
           have n2 := Z0 (rowset_far BK199.out N199_6.out (u8s (nameL (rd_T23 l0_1 x39_1).f0 ++ [0, 0, 0, 0, 0, 0])))
           have n3 := Z0 (setRow_heap w7 g6 _ (u8s (nameL (rd_T23 l0_1 x39_1).f0 ++ [0, 0, 0, 0, 0, 0])) 123 _ BK6.out)
           have nB := Z0 (below_setRow HB.out GE6.out (u8s (nameL (rd_T23 l0_1 x39_1).f0 ++ [0, 0, 0, 0, 0, 0])))
           clear HO_3 BK168 BK199 BK6 HB
           have HO_3 := nO
           have BK168 := n1
           have BK199 := n2
           have BK6 := n3
           have HB := nB
           clear nO n1 n2 n3 nB
           generalize w7.setRow g6 (u8s (nameL (rd_T23 l0_1 x39_1).f0 ++ [0, 0, 0, 0, 0, 0])) = w8 at HO_3 BK168 BK199 BK6 HB ⊢
           refine hK.out _ _ BK199.out (fun hHeld => ?_)
           clear hK K
           refine norm_ (a' := ?_) ?_ ?_
           rotate_left
           ·show Act.put _ (some 46) _ = _
            simp only [Act.put, Z3, Z4, Z5, i64_w, i32_w]
            rfl
           refine done_ (done_of HT_.out (by kernel_rfl)) ?_
           clear hHeld HT_
           go_wp2
           obtain ⟨kf1, kf2, hkv⟩ := kindVal_letter (rd_T23 l0_1 x39_1).f1
           have HKV := Z0 hkv
           clear hkv
           have hfl : ∀ (a b c d e : Value) (W : World), (Instr.field 102 (.agg #[a, b, c, d, e]) 0).run Tryz.prog W = .ok a W := fun _ _ _ _ _ _ => by kernel_rfl
           have nO := Z0 (Kd.R_drew HO_3.out)
           have n1 := Z0 (Y1 BK168.out)
           have n2 := Z0 (Y1 BK199.out)
           have n3 := Z0 (Y1 BK6.out)
           have nB := Z0 (below_drew1 HB.out)
           clear HO_3 BK168 BK199 BK6 HB
           have HO_3 := nO
           have BK168 := n1
           have BK199 := n2
           have BK6 := n3
           have HB := nB
           clear nO n1 n2 n3 nB
           refine start_ (n := 12) (S := fun w' => w'.heap[gb199]? = some (.cells #[.string ((rd_T23 l0_1 x39_1).f0), .int .i64 ((rd_T23 l0_1 x39_1).f1), .int .i64 ((rd_T23 l0_1 x39_1).f2), .bool ((rd_T23 l0_1 x39_1).f3)] 23 (0, 0))) (ds := []) #[false, false, false, false, false, false, false, false, false, false, false, false] (by kernel_rfl) rfl rfl BK199.out (fun hHeld => ?_)
           refine with_tab hd_tab10 (fun HT_ => ?_)
           generalize w8.drew = w9 at HO_3 BK168 BK199 BK6 HB hHeld ⊢
           refine pure_ (i := 1) (N := some 48) (v := ?_) (a' := ?_) #[false, true, false, false, false, false, false, false, false, false, false, false] rfl rfl (any_of HT_.out (by kernel_rfl)) (fun _ _ _ h => h) (Or.inl ⟨by rfl, ?_⟩) ?_ ?_
           rotate_left
           ·intro w'
            go_simp
            with_reducible rfl
           rotate_left
           ·simp only [Act.put, Z3, Z4, Z5, i64_w, i32_w]
            rfl
           refine take_ (i := 2) (N := some 49) (v := ?_) (a' := ?_) #[false, true, true, false, false, false, false, false, false, false, false, false] rfl rfl (take_of HT_.out (by kernel_rfl)) (fun _ _ _ h => h) (Or.inl ⟨by rfl, ?_⟩) hHeld ?_ ?_
           rotate_left
           ·rintro w' s0
            have sc := (Z2 s0 1).trans rfl
            go_simp
            with_reducible rfl
           rotate_left
           ·simp only [Act.put, Z3, Z4, Z5, i64_w, i32_w]
            rfl
           refine pure_ (i := 5) (N := some 52) (v := ?_) (a' := ?_) #[false, true, true, false, false, true, false, false, false, false, false, false] rfl rfl (any_of HT_.out (by kernel_rfl)) (fun _ _ _ h => h) (Or.inl ⟨by rfl, ?_⟩) ?_ ?_
           rotate_left
           ·intro w'
            go_simp
            with_reducible rfl
           rotate_left
           ·simp only [Act.put, Z3, Z4, Z5, i64_w, i32_w]
            rfl
           refine take_ (i := 6) (N := some 53) (v := ?_) (a' := ?_) #[false, true, true, false, false, true, true, false, false, false, false, false] rfl rfl (take_of HT_.out (by kernel_rfl)) (fun _ _ _ h => h) (Or.inl ⟨by rfl, ?_⟩) hHeld ?_ ?_
           rotate_left
           ·rintro w' s0
            have sc := (Z2 s0 2).trans rfl
            go_simp
            with_reducible rfl
           rotate_left
           ·simp only [Act.put, Z3, Z4, Z5, i64_w, i32_w]
            rfl
           refine pure_ (i := 7) (N := some 54) (v := ?_) (a' := ?_) #[false, true, true, false, false, true, true, true, false, false, false, false] rfl rfl (any_of HT_.out (by kernel_rfl)) (fun _ _ _ h => h) (Or.inl ⟨by rfl, ?_⟩) ?_ ?_
           rotate_left
           ·intro w'
            go_simp
            with_reducible rfl
           rotate_left
           ·simp only [Act.put, Z3, Z4, Z5, i64_w, i32_w]
            rfl
           refine one_ (i := 0) (N := some 47) #[true, true, true, false, false, true, true, true, false, false, false, false] rfl rfl (one_of HT_.out (by kernel_rfl)) (by decide) (fun K hK => ?_)
           refine goes_ Tryz.func89 (by kernel_rfl) rfl #[] (by rfl) rfl rfl V1 ?_
           refine (table_kinds w9).mono ?_
           rintro e w10 ⟨rk, rfl, hkb, hb⟩
           refine ⟨_, rfl, ?_⟩
           have HKB := Z0 hkb
           clear hkb
           have nO := Z0 (Kd.R_below HO_3.out hb)
           have n1 := Z0 (Z7 BK168.out hb)
           have n2 := Z0 (Z7 BK199.out hb)
           have n3 := Z0 (Z7 BK6.out hb)
           have nB := Z0 (Z6 HB.out hb)
           clear HO_3 BK168 BK199 BK6 HB
           have HO_3 := nO
           have BK168 := n1
           have BK199 := n2
           have BK6 := n3
           have HB := nB
           clear nO n1 n2 n3 nB
           clear hb
           refine hK.out _ _ BK199.out (fun hHeld => ?_)
           clear hK K
           refine norm_ (a' := ?_) ?_ ?_
           rotate_left
           ·show Act.put _ (some 47) _ = _
            simp only [Act.put, Z3, Z4, Z5, i64_w, i32_w]
            rfl
           refine one_ (i := 3) (N := some 50) #[true, true, true, true, false, true, true, true, false, false, false, false] rfl rfl (one_of HT_.out (by kernel_rfl)) (by decide) (fun K hK => ?_)
           have hlk := run_look' w10 rk HKB.out _ _ HKV.out
           refine event_step (v := .agg #[.int .u8 (kindLetter (rd_T23 l0_1 x39_1).f1), .int .i64 (kindLo (rd_T23 l0_1 x39_1).f1), .int .i64 (kindHi (rd_T23 l0_1 x39_1).f1), kf1, kf2]) (w1 := w10) rfl (by first | (go_simp; done) | (go_simp; rfl) | (go_simp; exact ⟨rfl, rfl⟩)) ?_
           refine hK.out _ _ BK199.out (fun hHeld => ?_)
           clear hK K
           refine norm_ (a' := ?_) ?_ ?_
           rotate_left
           ·show Act.put _ (some 50) _ = _
            simp only [Act.put, Z3, Z4, Z5, i64_w, i32_w]
            rfl
           clear hlk
           refine one_ (i := 4) (N := some 51) #[true, true, true, true, true, true, true, true, false, false, false, false] rfl rfl (one_of HT_.out (by kernel_rfl)) (by decide) (fun K hK => ?_)
           refine event_step (v := .int .u8 (kindLetter (rd_T23 l0_1 x39_1).f1)) (w1 := w10) rfl (by first | (go_simp; done) | (go_simp; rfl) | (go_simp; exact ⟨rfl, rfl⟩)) ?_
           refine hK.out _ _ BK199.out (fun hHeld => ?_)
           clear hK K
           refine norm_ (a' := ?_) ?_ ?_
           rotate_left
           ·show Act.put _ (some 51) _ = _
            simp only [Act.put, Z3, Z4, Z5, i64_w, i32_w]
            rfl
           refine one_ (i := 8) (N := some 55) #[true, true, true, true, true, true, true, true, true, false, false, false] rfl rfl (one_of HT_.out (by kernel_rfl)) (by decide) (fun K hK => ?_)
           refine event_step (v := .pointer (some ⟨g6, 10, none⟩)) (w1 := w10) rfl (by first | (go_simp; done) | (go_simp; rfl) | (go_simp; exact ⟨rfl, rfl⟩)) ?_
           refine hK.out _ _ BK199.out (fun hHeld => ?_)
           clear hK K
           refine norm_ (a' := ?_) ?_ ?_
           rotate_left
           ·show Act.put _ (some 55) _ = _
            simp only [Act.put, Z3, Z4, Z5, i64_w, i32_w]
            rfl
           have HN10 := Z0 (nameL_len HS10.out)
           refine one_ (i := 9) (N := none) #[true, true, true, true, true, true, true, true, true, true, false, false] rfl rfl (one_of HT_.out (by kernel_rfl)) (by decide) (fun K hK => ?_)
           have hcc : ∃ x, w10.cell? ⟨g6, 10, none⟩ = some x := ⟨_, (Z2 BK6.out 10).trans (u8s_some (by rw [List.length_append, HN10.out]; simp))⟩
           obtain ⟨x0, hcc⟩ := hcc
           have hff := Z1 BK6.out 10
           refine skip_event (w1 := w10.setCell ⟨g6, 10, none⟩ (.int .u8 (kindLetter (rd_T23 l0_1 x39_1).f1))) rfl (by rfl) (by first | (go_simp; done) | (go_simp; rfl) | (go_simp; exact ⟨rfl, rfl⟩)) ?_
           clear hcc hff
           have nO := Z0 (cellset_R (j := 10) (u := .int .u8 (kindLetter (rd_T23 l0_1 x39_1).f1)) HO_3.out BK6.out (by decide))
           have n1 := Z0 (blk_far BK168.out (p := ⟨g6, 10, none⟩) N168_6.out (.int .u8 (kindLetter (rd_T23 l0_1 x39_1).f1)))
           have n2 := Z0 (blk_far BK199.out (p := ⟨g6, 10, none⟩) N199_6.out (.int .u8 (kindLetter (rd_T23 l0_1 x39_1).f1)))
           have n3 := Z0 (blk_put BK6.out 10 (.int .u8 (kindLetter (rd_T23 l0_1 x39_1).f1)) ((set16 _ HN10.out 0 0 0 0 0 0 _).1))
           have nB := Z0 (below_set (j := 10) (v := .int .u8 (kindLetter (rd_T23 l0_1 x39_1).f1)) HB.out GE6.out)
           clear HO_3 BK168 BK199 BK6 HB
           have HO_3 := nO
           have BK168 := n1
           have BK199 := n2
           have BK6 := n3
           have HB := nB
           clear nO n1 n2 n3 nB
           generalize w10.setCell ⟨g6, 10, none⟩ (.int .u8 (kindLetter (rd_T23 l0_1 x39_1).f1)) = w11 at HO_3 BK168 BK199 BK6 HB ⊢
           refine hK.out _ _ BK199.out (fun hHeld => ?_)
           clear hK K
           refine one_ (i := 10) (N := some 56) #[true, true, true, true, true, true, true, true, true, true, true, false] rfl rfl (one_of HT_.out (by kernel_rfl)) (by decide) (fun K hK => ?_)
           refine event_step (v := .pointer (some ⟨g6, 11, none⟩)) (w1 := w11) rfl (by first | (go_simp; done) | (go_simp; rfl) | (go_simp; exact ⟨rfl, rfl⟩)) ?_
           refine hK.out _ _ BK199.out (fun hHeld => ?_)
           clear hK K
           refine norm_ (a' := ?_) ?_ ?_
           rotate_left
           ·show Act.put _ (some 56) _ = _
            simp only [Act.put, Z3, Z4, Z5, i64_w, i32_w]
            rfl
           refine one_ (i := 11) (N := none) #[true, true, true, true, true, true, true, true, true, true, true, true] rfl rfl (one_of HT_.out (by kernel_rfl)) (by decide) (fun K hK => ?_)
           have hcc : ∃ x, w11.cell? ⟨g6, 11, none⟩ = some x := ⟨_, (Z2 BK6.out 11).trans (u8s_some (by rw [List.length_append, HN10.out]; simp))⟩
           obtain ⟨x0, hcc⟩ := hcc
           have hff := Z1 BK6.out 11
           refine skip_event (w1 := w11.setCell ⟨g6, 11, none⟩ (.int .u8 ((rd_T23 l0_1 x39_1).f2 % 256))) rfl (by rfl) (by first | (go_simp; done) | (go_simp; rfl) | (go_simp; exact ⟨rfl, rfl⟩)) ?_
           clear hcc hff
           have nO := Z0 (cellset_R (j := 11) (u := .int .u8 ((rd_T23 l0_1 x39_1).f2 % 256)) HO_3.out BK6.out (by decide))
           have n1 := Z0 (blk_far BK168.out (p := ⟨g6, 11, none⟩) N168_6.out (.int .u8 ((rd_T23 l0_1 x39_1).f2 % 256)))
           have n2 := Z0 (blk_far BK199.out (p := ⟨g6, 11, none⟩) N199_6.out (.int .u8 ((rd_T23 l0_1 x39_1).f2 % 256)))
           have n3 := Z0 (blk_put BK6.out 11 (.int .u8 ((rd_T23 l0_1 x39_1).f2 % 256)) ((set16 _ HN10.out _ 0 0 0 0 0 _).2.1))
           have nB := Z0 (below_set (j := 11) (v := .int .u8 ((rd_T23 l0_1 x39_1).f2 % 256)) HB.out GE6.out)
           clear HO_3 BK168 BK199 BK6 HB
           have HO_3 := nO
           have BK168 := n1
           have BK199 := n2
           have BK6 := n3
           have HB := nB
           clear nO n1 n2 n3 nB
           generalize w11.setCell ⟨g6, 11, none⟩ (.int .u8 ((rd_T23 l0_1 x39_1).f2 % 256)) = w12 at HO_3 BK168 BK199 BK6 HB ⊢
           refine hK.out _ _ BK199.out (fun hHeld => ?_)
           clear hK K
           refine done_ (done_of HT_.out (by kernel_rfl)) ?_
           clear hHeld HT_ hfl HKV HKB
           have k3 : w12.cell? ⟨gb199, 3, none⟩ = some (.bool (rd_T23 l0_1 x39_1).f3) := (Z2 BK199.out 3).trans rfl
           have hcc : ∃ x, w12.cell? ⟨g6, 12, none⟩ = some x := ⟨_, (Z2 BK6.out 12).trans (u8s_some (by rw [List.length_append, HN10.out]; simp))⟩
           obtain ⟨x0, hcc⟩ := hcc
           have hff := Z1 BK6.out 12
           by_cases hnl : (rd_T23 l0_1 x39_1).f3 = true
           ·have HTD' : Aside0 (t200 = nameL (rd_T23 l0_1 x39_1).f0 ++ [kindLetter (rd_T23 l0_1 x39_1).f1, (rd_T23 l0_1 x39_1).f2 % 256, 1, 0, 0, 0]) := ⟨by rw [HTD.out]; unfold descL; rw [hnl]; rfl⟩
            go_wp2_with (first | ((with_reducible refine gate_builtin (b := .append) (xs := #[.tmp 60, .tmp 61]) rfl ?_); at_builtin; refine Kd.R_append_rows (Kd.int .u8) (w0 := w) w.heap.size rfl (.tmp 60) (.tmp 61) 37 5 (.int .u8 0) 1 rfl Tryz.underlying37 info5 rfl (by decide) (by omega) u3 x3_1 t200 _ _ _ (fun _ => True) (fun _ => False) rfl rfl ?aO ?aR (fun _ _ h => h) (fun _ h => h.elim) ?aF ?aB ?aS ?aL ?_; (case aR => exact hd_C (blk_put BK6.out 12 (.int .u8 1) (set16 _ HN10.out _ _ 0 0 0 0 _).2.2) HTD'.out HTL.out); (case aB => exact (below_set (j := 12) (v := .int .u8 1) HB.out GE6.out)); (case aF => exact (fun _ _ => trivial)); (case aO => exact (cellset_R (j := 12) (u := .int .u8 1) HO_3.out BK6.out (by decide))); (case aS => exact (Y0 (below_set (j := 12) (v := .int .u8 1) HB.out GE6.out))); (case aL => have := LMc38.out; have := HTL.out; omega); intro v204 w43 ho hb hg hat; rw [← Ny203.out] at ho; have n0_ := Z0 (blk_grown (g := gb168) (o := .cells #[.int .i64 a0_0, .slice (some ad198) l0_1.length c0_1, .slice A0_2 l0_2.length c0_2] 35 (0, 0)) (blk_far BK168.out (p := ⟨g6, 12, none⟩) N168_6.out (.int .u8 1)) hg (Kd.R_ne (cellset_R (j := 12) (u := .int .u8 1) HO_3.out BK6.out (by decide)) (blk_far BK168.out (p := ⟨g6, 12, none⟩) N168_6.out (.int .u8 1)) (by decide))); have n3_ := Z0 (hb); have n4_ := Z0 (ho); clear BK168; clear HB; clear HO_3; have BK168 := n0_; have HB := n3_; have HO205 := n4_; clear n0_ n3_ n4_; clear ho hb hg hat))
            go_roundg k1
            case measure => have := HK1.out; omega
            case rel => exact ⟨(y203), (wrap64 (x39_1 + 1)), V2, H', ⟨by have := HK1.out; omega⟩, ⟨by (with_reducible repeat (first | apply Kd.R_alloc | apply Kd.R_drewN | apply Kd.R_drew)); exact Kd.R_mono HO205.out (fun _ hk => trivial)⟩, ⟨by (with_reducible repeat (first | refine Z8 ?_ _ | refine Y1 ?_ | refine Z9 ?_ _)); exact BK168.out⟩, ⟨V0⟩⟩
           ·replace hnl := Bool.eq_false_iff.2 hnl
            have HTD' : Aside0 (t200 = nameL (rd_T23 l0_1 x39_1).f0 ++ [kindLetter (rd_T23 l0_1 x39_1).f1, (rd_T23 l0_1 x39_1).f2 % 256, 0, 0, 0, 0]) := ⟨by rw [HTD.out]; unfold descL; rw [hnl]; rfl⟩
            go_wp2_with (first | ((with_reducible refine gate_builtin (b := .append) (xs := #[.tmp 60, .tmp 61]) rfl ?_); at_builtin; refine Kd.R_append_rows (Kd.int .u8) (w0 := w) w.heap.size rfl (.tmp 60) (.tmp 61) 37 5 (.int .u8 0) 1 rfl Tryz.underlying37 info5 rfl (by decide) (by omega) u3 x3_1 t200 _ _ _ (fun _ => True) (fun _ => False) rfl rfl ?aO ?aR (fun _ _ h => h) (fun _ h => h.elim) ?aF ?aB ?aS ?aL ?_; (case aR => exact hd_C (BK6.out) HTD'.out HTL.out); (case aB => exact HB.out); (case aF => exact (fun _ _ => trivial)); (case aO => exact (HO_3.out)); (case aS => exact (Y0 HB.out)); (case aL => have := LMc38.out; have := HTL.out; omega); intro v204 w43 ho hb hg hat; rw [← Ny203.out] at ho; have n0_ := Z0 (blk_grown (g := gb168) (o := .cells #[.int .i64 a0_0, .slice (some ad198) l0_1.length c0_1, .slice A0_2 l0_2.length c0_2] 35 (0, 0)) (BK168.out) hg (Kd.R_ne (HO_3.out) (BK168.out) (by decide))); have n3_ := Z0 (hb); have n4_ := Z0 (ho); clear BK168; clear HB; clear HO_3; have BK168 := n0_; have HB := n3_; have HO205 := n4_; clear n0_ n3_ n4_; clear ho hb hg hat))
            go_roundg k1
            case measure => have := HK1.out; omega
            case rel => exact ⟨(y203), (wrap64 (x39_1 + 1)), V2, H', ⟨by have := HK1.out; omega⟩, ⟨by (with_reducible repeat (first | apply Kd.R_alloc | apply Kd.R_drewN | apply Kd.R_drew)); exact Kd.R_mono HO205.out (fun _ hk => trivial)⟩, ⟨by (with_reducible repeat (first | refine Z8 ?_ _ | refine Y1 ?_ | refine Z9 ?_ _)); exact BK168.out⟩, ⟨V0⟩⟩
          ·rw [if_neg c38] at H
           exact absurd H (by simp)
         ·rw [if_neg c36] at H
          exact absurd H (by simp)
        ·rw [if_neg c35] at H
         exact absurd H (by simp)
       ·rw [if_neg c34] at H
        have c34b0 : decide (x39_1 < (l0_1.length : Int)) = false := decide_eq_false c34
        clear c34
        by_cases c45 : x3_1.length < 140737488355328
        ·rw [if_pos c45] at H
         have LMc45 := Z0 c45
         clear c45
         obtain ⟨y206, hy206⟩ : ∃ y_ : List Int, y_ = (x3_1 ++ [13]) := ⟨_, rfl⟩
         replace H : (some y206) = some r := by rw [hy206]; exact H
         have Ny206 := Z0 hy206
         clear hy206
         obtain rfl := Option.some.inj H
         go_wp2_with (first | ((with_reducible refine gate_builtin (b := .append) (xs := #[.tmp 64, .tmp 65]) rfl ?_); at_builtin; refine Kd.R_append (Kd.int .u8) (w0 := w) w.heap.size rfl (.tmp 64) (.tmp 65) 37 5 (.int .u8 0) 1 rfl Tryz.underlying37 info5 rfl (by decide) (by omega) u3 x3_1 13 [.int .u8 13] (fun _ => True) (fun _ => False) rfl rfl ?aP (fun _ hk => hk.elim) ?aF ?aO ?aB ?aS ?aL ?_; (case aP => exact rfl); (case aB => exact V0); (case aF => exact (fun _ _ => trivial)); (case aO => exact (by (with_reducible repeat (first | apply Kd.R_alloc | apply Kd.R_drewN | apply Kd.R_drew)); exact HO_3.out)); (case aS => exact (Y0 V0)); (case aL => have := LMc45.out; omega); intro v207 w46 ho hb hg hat; rw [← Ny206.out] at ho; have n0_ := Z0 (blk_grown (g := gb168) (o := .cells #[.int .i64 a0_0, .slice A0_1 l0_1.length c0_1, .slice A0_2 l0_2.length c0_2] 35 (0, 0)) (by (with_reducible repeat (first | refine Z8 ?_ _ | refine Y1 ?_ | refine Z9 ?_ _)); exact BK168.out) hg (Kd.R_ne HO_3.out BK168.out (by decide))); have n1_ := Z0 (hb); have n2_ := Z0 (ho); clear BK168; clear HB; clear HO_3; have BK168 := n0_; have HB := n1_; have HO208 := n2_; clear n0_ n1_ n2_; clear ho hb hg hat))
         go_ret
         exact ⟨_, rfl, by (with_reducible repeat (first | apply Kd.R_alloc | apply Kd.R_drewN | apply Kd.R_drew)); exact HO208.out, V0⟩
        ·rw [if_neg c45] at H
         exact absurd H (by simp)
    ·rw [if_neg c10] at H
     exact absurd H (by simp)
   ·rw [if_neg c9] at H
    exact absurd H (by simp)
  ·rw [if_neg c6] at H
   exact absurd H (by simp)
 ·rw [if_neg c3] at H
  exact absurd H (by simp)
def table_Header.f (k : Nat) (a0_0 : Int) (l0_1 : List (S23)) (l0_2 : List (S46)) : Option (List Int × Int) := (table_Validate.f k a0_0 l0_1 l0_2).bind fun t244 => (if t244 = 0 then ((table_header.f k a0_0 l0_1 l0_2).bind fun t245 => (some (t245, 0))) else (some (([] : List Int), t244)))
theorem table_Header.mono : ∀ a0 a1 a2 k, LeO (table_Header.f k a0 a1 a2) (table_Header.f (k + 1) a0 a1 a2) := by
 intro a0 a1 a2 k
 unfold table_Header.f
 repeat' first
   | (with_reducible exact table_Validate.mono _ _ _ _)
   | (with_reducible exact table_header.mono _ _ _ _)
   | (with_reducible exact LeO.refl _)
   | (with_reducible exact Y5 _)
   | (with_reducible refine Y7 ?_ ?_)
   | (with_reducible refine Y6 ?_ (fun _ => ?_))
   | exact table_Validate.mono _ _ _ _
   | exact table_header.mono _ _ _ _
   | exact Y5 _
   | refine Y7 ?_ ?_
   | refine Y6 ?_ (fun _ => ?_)
set_option maxHeartbeats 8000000 in
set_option maxRecDepth 100000 in
theorem table_Header.calls (k : Nat) (a0_0 : Int) (A0_1 : Option Addr) (c0_1 : Nat) (l0_1 : List (S23)) (A0_2 : Option Addr) (c0_2 : Nat) (l0_2 : List (S46)) (r1 : List Int) (r2 : Int) (w : World) (hr0_1 : Kd.C k23 w A0_1 l0_1.length l0_1) (hc0_1 : l0_1.length ≤ c0_1) (hr0_2 : Kd.C k46 w A0_2 l0_2.length l0_2) (hc0_2 : l0_2.length ≤ c0_2) (h : table_Header.f k a0_0 l0_1 l0_2 = some (r1, r2)) :
  Calls Tryz.prog 19 #[.agg #[.int .i64 a0_0, .slice A0_1 l0_1.length c0_1, .slice A0_2 l0_2.length c0_2]] w fun e w' => ∃ v0_ : Value, e = .returned (.tuple #[v0_, .int .i64 r2]) ∧ Kd.R (Kd.int .u8) 5 w' w.heap.size (fun _ => True) v0_ r1 ∧ Below w.heap.size w w' := by
 have hu35 := Tryz.underlying35
 have HR0_1 := Z0 hr0_1
 have HC0_1 := Z0 hc0_1
 clear hr0_1 hc0_1
 have HR0_2 := Z0 hr0_2
 have HC0_2 := Z0 hc0_2
 clear hr0_2 hc0_2
 have HB := Z0 (Below.refl w.heap.size w)
 have H : ((table_Validate.f k a0_0 l0_1 l0_2).bind fun t244 => (if t244 = 0 then ((table_header.f k a0_0 l0_1 l0_2).bind fun t245 => (some (t245, 0))) else (some (([] : List Int), t244)))) = some (r1, r2) := h
 clear h
 replace H := Option.bind_eq_some_iff.mp H
 obtain ⟨t244, A20, H⟩ := H
 replace H : (if t244 = 0 then ((table_header.f k a0_0 l0_1 l0_2).bind fun t245 => (some (t245, 0))) else (some (([] : List Int), t244))) = some (r1, r2) := H
 have A2 := Z0 A20
 clear A20
 by_cases c3 : t244 = 0
 ·rw [if_pos c3] at H
  have c3b0 : (t244 == 0) = true := beq_iff_eq.mpr c3
  have c3b1 : (t244 != 0) = false := bne_eq_false_iff_eq.mpr c3
  clear c3
  replace H := Option.bind_eq_some_iff.mp H
  obtain ⟨t245, A40, H⟩ := H
  replace H : (some (t245, 0)) = some (r1, r2) := H
  have A4 := Z0 A40
  clear A40
  simp only [Option.some.injEq, Prod.mk.injEq] at H
  obtain ⟨rfl, rfl⟩ := H
  go_enter Tryz.func19, Tryz.ntmps19
  go_wp2_with (first | ((with_reducible refine Y4 (N := 1) rfl ?_); refine Y2 ?hg (N := 1) ?hd (cs := #[.int .i64 a0_0, .slice A0_1 l0_1.length c0_1, .slice A0_2 l0_2.length c0_2]) (t := 35) ?hr ?_; (case hd => rfl); (case hg => rfl); (case hr => go_simp; try rfl); intro gb243 hg w5 hbox hb; have n0_ := Z0 (Z6 HB.out hb); have n1_ := Z0 (hbox); have n3_ := Z0 ((by rw [hg]; exact (Y0 HB.out) : w.heap.size ≤ gb243)); clear HB; have HB := n0_; have BK243 := n1_; have GE243 := n3_; clear n0_ n1_ n3_; clear hb hbox hg; have hcz6_0 : w5.cell? ⟨gb243, 0, none⟩ = some (.int .i64 a0_0) := (Z2 BK243.out 0).trans rfl; have hcz6_1 : w5.cell? ⟨gb243, 1, none⟩ = some (.slice A0_1 l0_1.length c0_1) := (Z2 BK243.out 1).trans rfl; have hcz6_2 : w5.cell? ⟨gb243, 2, none⟩ = some (.slice A0_2 l0_2.length c0_2) := (Z2 BK243.out 2).trans rfl; have hfz6_0 := Z1 BK243.out 0; have hfz6_1 := Z1 BK243.out 1; have hfz6_2 := Z1 BK243.out 2) | ((with_reducible refine Y3 (f := 34) rfl ?_); refine goesL_ (some 6) rfl rfl Tryz.func34 (by kernel_rfl) rfl #[.agg #[.int .i64 a0_0, .slice A0_1 l0_1.length c0_1, .slice A0_2 l0_2.length c0_2]] rfl V1 ?_; (with_reducible refine (table_Validate.calls k a0_0 _ _ l0_1 _ _ l0_2 t244 _ ?side1 ?side2 ?side3 ?side4 A2.out).mono ?_); (case side1 => repeat (first | exact (Kd.C_below HR0_1.out HB.out) | (with_reducible refine Kd.C_alloc ?_ _) | (with_reducible refine Kd.C_drewN ?_ _) | (with_reducible refine Kd.C_drew ?_))); (case side2 => exact HC0_1.out); (case side3 => repeat (first | exact (Kd.C_below HR0_2.out HB.out) | (with_reducible refine Kd.C_alloc ?_ _) | (with_reducible refine Kd.C_drewN ?_ _) | (with_reducible refine Kd.C_drew ?_))); (case side4 => exact HC0_2.out); rintro e w7 ⟨rfl, hb⟩; refine ⟨_, rfl, ?_⟩; have n0_ := Z0 (Z7 (g := gb243) (o := .cells #[.int .i64 a0_0, .slice A0_1 l0_1.length c0_1, .slice A0_2 l0_2.length c0_2] 35 (0, 0)) BK243.out hb); have n1_ := Z0 (Z6 HB.out hb); clear BK243; clear HB; have BK243 := n0_; have HB := n1_; clear n0_ n1_; (try clear hb); (try clear hb2); (try clear hk); (try clear hi); have hcz8_0 : w7.cell? ⟨gb243, 0, none⟩ = some (.int .i64 a0_0) := (Z2 BK243.out 0).trans rfl; have hcz8_1 : w7.cell? ⟨gb243, 1, none⟩ = some (.slice A0_1 l0_1.length c0_1) := (Z2 BK243.out 1).trans rfl; have hcz8_2 : w7.cell? ⟨gb243, 2, none⟩ = some (.slice A0_2 l0_2.length c0_2) := (Z2 BK243.out 2).trans rfl; have hfz8_0 := Z1 BK243.out 0; have hfz8_1 := Z1 BK243.out 1; have hfz8_2 := Z1 BK243.out 2) | ((with_reducible refine Y3 (f := 62) rfl ?_); refine goesL_ (some 11) rfl rfl Tryz.func62 (by kernel_rfl) rfl #[.agg #[.int .i64 a0_0, .slice A0_1 l0_1.length c0_1, .slice A0_2 l0_2.length c0_2]] rfl V1 ?_; (with_reducible refine (table_header.calls k a0_0 _ _ l0_1 _ _ l0_2 t245 _ ?side1 ?side2 ?side3 ?side4 A4.out).mono ?_); (case side1 => repeat (first | exact (Kd.C_below HR0_1.out HB.out) | (with_reducible refine Kd.C_alloc ?_ _) | (with_reducible refine Kd.C_drewN ?_ _) | (with_reducible refine Kd.C_drew ?_))); (case side2 => exact HC0_1.out); (case side3 => repeat (first | exact (Kd.C_below HR0_2.out HB.out) | (with_reducible refine Kd.C_alloc ?_ _) | (with_reducible refine Kd.C_drewN ?_ _) | (with_reducible refine Kd.C_drew ?_))); (case side4 => exact HC0_2.out); rintro e w9 ⟨v246, rfl, ho0, hb⟩; refine ⟨_, rfl, ?_⟩; have n0_ := Z0 (Kd.R_lower ho0 (Y0 HB.out)); have n1_ := Z0 (Z7 (g := gb243) (o := .cells #[.int .i64 a0_0, .slice A0_1 l0_1.length c0_1, .slice A0_2 l0_2.length c0_2] 35 (0, 0)) BK243.out hb); have n2_ := Z0 (Z6 HB.out hb); clear BK243; clear HB; have HO247 := n0_; have BK243 := n1_; have HB := n2_; clear n0_ n1_ n2_; (try clear hb); (try clear hb2); (try clear hk); (try clear hi); (try clear ho0)))
  go_ret2
  exact ⟨_, rfl, by (with_reducible repeat (first | apply Kd.R_alloc | apply Kd.R_drewN | apply Kd.R_drew)); exact HO247.out, V0⟩
 ·rw [if_neg c3] at H
  have c3b0 : (t244 == 0) = false := beq_eq_false_iff_ne.mpr c3
  have c3b1 : (t244 != 0) = true := bne_iff_ne.mpr c3
  simp only [Option.some.injEq, Prod.mk.injEq] at H
  obtain ⟨rfl, rfl⟩ := H
  go_enter Tryz.func19, Tryz.ntmps19
  go_wp2_with (first | ((with_reducible refine Y4 (N := 1) rfl ?_); refine Y2 ?hg (N := 1) ?hd (cs := #[.int .i64 a0_0, .slice A0_1 l0_1.length c0_1, .slice A0_2 l0_2.length c0_2]) (t := 35) ?hr ?_; (case hd => rfl); (case hg => rfl); (case hr => go_simp; try rfl); intro gb243 hg w10 hbox hb; have n0_ := Z0 (Z6 HB.out hb); have n1_ := Z0 (hbox); have n3_ := Z0 ((by rw [hg]; exact (Y0 HB.out) : w.heap.size ≤ gb243)); clear HB; have HB := n0_; have BK243 := n1_; have GE243 := n3_; clear n0_ n1_ n3_; clear hb hbox hg; have hcz11_0 : w10.cell? ⟨gb243, 0, none⟩ = some (.int .i64 a0_0) := (Z2 BK243.out 0).trans rfl; have hcz11_1 : w10.cell? ⟨gb243, 1, none⟩ = some (.slice A0_1 l0_1.length c0_1) := (Z2 BK243.out 1).trans rfl; have hcz11_2 : w10.cell? ⟨gb243, 2, none⟩ = some (.slice A0_2 l0_2.length c0_2) := (Z2 BK243.out 2).trans rfl; have hfz11_0 := Z1 BK243.out 0; have hfz11_1 := Z1 BK243.out 1; have hfz11_2 := Z1 BK243.out 2) | ((with_reducible refine Y3 (f := 34) rfl ?_); refine goesL_ (some 6) rfl rfl Tryz.func34 (by kernel_rfl) rfl #[.agg #[.int .i64 a0_0, .slice A0_1 l0_1.length c0_1, .slice A0_2 l0_2.length c0_2]] rfl V1 ?_; (with_reducible refine (table_Validate.calls k a0_0 _ _ l0_1 _ _ l0_2 t244 _ ?side1 ?side2 ?side3 ?side4 A2.out).mono ?_); (case side1 => repeat (first | exact (Kd.C_below HR0_1.out HB.out) | (with_reducible refine Kd.C_alloc ?_ _) | (with_reducible refine Kd.C_drewN ?_ _) | (with_reducible refine Kd.C_drew ?_))); (case side2 => exact HC0_1.out); (case side3 => repeat (first | exact (Kd.C_below HR0_2.out HB.out) | (with_reducible refine Kd.C_alloc ?_ _) | (with_reducible refine Kd.C_drewN ?_ _) | (with_reducible refine Kd.C_drew ?_))); (case side4 => exact HC0_2.out); rintro e w12 ⟨rfl, hb⟩; refine ⟨_, rfl, ?_⟩; have n0_ := Z0 (Z7 (g := gb243) (o := .cells #[.int .i64 a0_0, .slice A0_1 l0_1.length c0_1, .slice A0_2 l0_2.length c0_2] 35 (0, 0)) BK243.out hb); have n1_ := Z0 (Z6 HB.out hb); clear BK243; clear HB; have BK243 := n0_; have HB := n1_; clear n0_ n1_; (try clear hb); (try clear hb2); (try clear hk); (try clear hi)))
  go_ret2
  exact ⟨_, rfl, by first | exact Kd.R_nil _ _ _ _ _ | exact Kd.N_nil _ _ _ _ _ | exact Kd.V_nil _ _ _ _ _ | exact Kd.Q_nil _ _ _ _ _ | exact Kd.S_nil _ _ _ _ _, V0⟩
end Go.Proofs.YtldpdidlfbphcaaGreatDoor.P
end
