/- Part 2 of this proof: what the last part leans on. -/
import Derived.Test.YtldpdidlfbphcaaGreatDoorBWrites1
import Derived.Test.YtldpdidlfbphcaaGreatDoorRows
import Derived.WalkKit
import Derived.ProofKit
import Derived.OpenShut
import Derived.ShutString
import Derived.ChangeOld
import Derived.Below
import Derived.SizedLaws
import Derived.Carry
import Derived.Deep.DeepHandedRow
import Derived.Lib.LaidTab
import Derived.Lib.SmallJoins
import Derived.Deep.Slices
import Derived.Deep.Fields
import Derived.ChangeSame
import Derived.Lib.AsciiSet
import Derived.Laws.Strings3
import Derived.Laws.ResultCell
import Derived.Deep.LoopGhost
import Derived.Deep.WholeRow
import Derived.Shelf.Strings.SlTrimAscii
import Derived.Laws.Tables
import Derived.Laws.CopyOwn
import Derived.Laws.Strings2
import Derived.ChangeMaps5
import Derived.Shelf.Strings.Builder1
import Derived.Shelf.Strings.Builder2
import Derived.Shelf.Strings.Trim
import Derived.Shelf.Small.Utf8
import Derived.Shelf.Small.Strs
import Derived.Shelf.Strings.BuilderF
import Derived.Shelf.Strings.BuilderK
import Derived.Shelf.Strings.Builder2Cap
import Derived.Shelf.Strings.Search1
import Derived.Shelf.Strings.Prefix
import Derived.Shelf.Strings.Runes
import Derived.Shelf.Strings.AsciiSet
import Derived.Shelf.Bits.Mul64
import Derived.Shelf.Strings.Repeat
import Derived.Shelf.Unicode.DecodeSlow
import Derived.Shelf.Unicode.DecodeAny
import Derived.Shelf.Strings.BuilderCap
import Derived.Shelf.Bytes.SlEqualAll
import Derived.Shelf.Bytes.Small
import Derived.Test.YtldpdidlfbphcaaGreatDoorProg
import Derived.Deep.RegionWith
import Derived.Laws.EntriesVeiled
import Derived.Outline
set_option linter.unusedVariables false
set_option linter.unusedSimpArgs false
set_option maxHeartbeats 8000000
set_option maxRecDepth 100000
section
namespace Go.Proofs.YtldpdidlfbphcaaGreatDoor.R
open Go.ChangeShapes Go.WideShapes Go.ChangeAt Go.RowKit
theorem own : ownKnob Tryz.prog.godebug = none := by kernel_rfl
theorem laidOut : laidOutB Tryz.prog = true := by kernel_rfl
def firstCells : Array Value := (Pinned.utf8FirstZ.map fun (n : Nat) => Value.int .u8 (n : Int)).toArray
def acceptCells : Array Value := (([128, 191, 160, 191, 128, 159, 144, 191, 128, 143] ++ List.replicate 22 0 : List Int).map fun n => Value.int .u8 n).toArray
def layCells (cs : Array Value) : Obj → Obj
 | .cells _ t frozen => .cells cs t frozen
 | o => o
noncomputable def laidWorld (os : Os) : World :=
 let w0 := World.holding Tryz.prog os ⟨#[], #[], []⟩
 { w0 with heap := (w0.heap.modify 0 (layCells firstCells)).modify 1 (layCells acceptCells) }
end Go.Proofs.YtldpdidlfbphcaaGreatDoor.R
end
section
namespace Go.Proofs.YtldpdidlfbphcaaGreatDoor.R
open Go.ChangeShapes Go.WideShapes Go.ChangeAt Go.RowKit Go.Deep Go.Joins Go.Proofs.YtldpdidlfbphcaaGreatDoorW.PrintWords
theorem bulk_one {H : Type} (d : DataW H) : 1 ≤ Rows.uptoBulk d := by
 cases d with
 | lit l => cases l <;> simp [Rows.uptoBulk]
 | nil => simp [Rows.uptoBulk]
 | ptr d => simp [Rows.uptoBulk]
 | slice elems spare => simp [Rows.uptoBulk]
 | agg parts => simp [Rows.uptoBulk]
 | iface t d => simp [Rows.uptoBulk]
 | map entries => simp [Rows.uptoBulk]
 | held h => simp [Rows.uptoBulk]
theorem bulk_append {H : Type} (l r : List (DataW H)) : Rows.uptoBulkAll (l ++ r) = Rows.uptoBulkAll l + Rows.uptoBulkAll r := by
 induction l with
 | nil => simp [Rows.uptoBulkAll]
 | cons x l ih => simp only [List.cons_append, Rows.uptoBulkAll, ih]; omega
section
variable {H : Type} {enc : TypeId × Value → H} {P : Program} {w : World} {base : Nat} {spare : Nat → Bool} {held : Bool}
theorem rows_of {α : Type} (d : Kd α) (g : α → Nat) {a : Addr} {n : Nat} {D : Nat → DataW H} {e : TypeId} (k : Nat) (Pl : Nat → List MemPlace)
  (helt : ∀ cs' x, DataW.trod enc P w base spare held k e cs' = some x → cs'.length = d.sz → ∃ p, d.K w p cs' ∧ g p ≤ Rows.uptoBulk x.1)
  (hC : P.cellsOf e = d.sz) (hi : ∀ i, i < n → ∃ cs', w.cells? base (a.add (i * P.cellsOf e)) (P.cellsOf e) = some cs' ∧ DataW.trod enc P w base spare held k e cs' = some (D i, Pl i)) :
  ∃ xs : List α, xs.length = n ∧ (xs.map g).sum ≤ Rows.uptoBulkAll ((List.range n).map D) ∧ ∀ j p, xs[j]? = some p → ∃ c, c.length = d.sz ∧ d.K w p c ∧ ∀ i u, c[i]? = some u → w.cell? (a.add (j * d.sz + i)) = some u := by
 induction n with
 | zero => exact ⟨[], rfl, by simp, fun j p h => by simp at h⟩
 | succ n ih =>
  obtain ⟨xs, hl, hs, hx⟩ := ih (fun i h => hi i (by omega))
  obtain ⟨cs', hc, ht⟩ := hi n (Nat.lt_succ_self n)
  rw [hC] at hc
  obtain ⟨_, hcl, hat⟩ := World.cells?_some hc
  obtain ⟨p, hp, hg⟩ := helt cs' _ ht hcl
  simp only at hg
  refine ⟨xs ++ [p], by simp [hl], ?_, fun j q hq => ?_⟩
  ·rw [List.range_succ, List.map_append, List.map_append, List.sum_append, bulk_append]
   simp only [List.map_cons, List.map_nil, List.sum_cons, List.sum_nil, Rows.uptoBulkAll]
   omega
  by_cases hj : j < xs.length
  ·rw [List.getElem?_append_left hj] at hq
   exact hx j q hq
  rw [List.getElem?_append_right (by omega)] at hq
  have hj0 : j = xs.length := by
   rcases Nat.lt_or_ge (j - xs.length) 1 with h | h
   ·omega
   rw [List.getElem?_eq_none (by simpa using h)] at hq
   cases hq
  subst hj0
  simp at hq
  subst hq
  refine ⟨cs', hcl, hp, fun i u hu => ?_⟩
  have hil : i < d.sz := by
   have := (List.getElem?_eq_some_iff.1 hu).1
   omega
  rw [hl, ← Go.Deep.add_add, hat i hil, hu]
theorem open_row {α : Type} (d : Kd α) (g : α → Nat) {t e : TypeId} (ht : P.underlying t = some (.slice e)) (hC : P.cellsOf e = d.sz)
  (helt : ∀ k cs' x, DataW.trod enc P w base spare held k e cs' = some x → cs'.length = d.sz → ∃ p, d.K w p cs' ∧ g p ≤ Rows.uptoBulk x.1)
  {fuel : Nat} {cs : List Value} {x : DataW H × List MemPlace} (h : DataW.trod enc P w base spare held fuel t cs = some x) :
  ∃ A len cap, ∃ xs : List α, cs = [.slice A len cap] ∧ len ≤ cap ∧ xs.length = len ∧ Kd.C d w A len xs ∧ (xs.map g).sum + 1 ≤ Rows.uptoBulk x.1 := by
 rcases open_slice ht h with ⟨rfl, rfl⟩ | ⟨a, len, cap, m, n, D, Pl, rfl, _, hl, hm, hmm, rfl, hi⟩
 ·exact ⟨none, 0, 0, [], rfl, Nat.le_refl _, rfl, ⟨rfl, by omega, fun h => by omega⟩, by simp [Rows.uptoBulk]⟩
 have hle : len ≤ m := by rw [hmm]; split <;> omega
 obtain ⟨xs, h1, h2, h3⟩ := rows_of d g n Pl (fun cs' x => helt n cs' x) hC (fun i him => hi i (by omega) : ∀ i, i < len → _)
 refine ⟨some a, len, cap, xs, rfl, hl, h1, ⟨h1, by unfold maxLen at hm; omega, fun _ => ⟨a, rfl, h3⟩⟩, ?_⟩
 simp only [Rows.uptoBulk]
 omega
theorem list3 {α : Type} {cs : List α} (h : cs.length = 3) : ∃ c0 c1 c2, cs = [c0, c1, c2] := by
 match cs, h with
 | [c0, c1, c2], _ => exact ⟨c0, c1, c2, rfl⟩
theorem list4 {α : Type} {cs : List α} (h : cs.length = 4) : ∃ c0 c1 c2 c3, cs = [c0, c1, c2, c3] := by
 match cs, h with
 | [c0, c1, c2, c3], _ => exact ⟨c0, c1, c2, c3, rfl⟩
theorem list2 {α : Type} {cs : List α} (h : cs.length = 2) : ∃ c0 c1, cs = [c0, c1] := by
 match cs, h with
 | [c0, c1], _ => exact ⟨c0, c1, rfl⟩
end
section
variable {H : Type} {enc : TypeId × Value → H} {w : World} {base : Nat} {spare : Nat → Bool} {held : Bool}
def g23 (x : P.S23) : Nat := x.f0.size + 5
def g25 (x : P.S25) : Nat := x.f2.size + 4
def g46 (x : P.S46) : Nat := (x.f1.map g25).sum + 3
theorem fields_of {t : TypeId} {fs : Array Field} {fuel : Nat} {cs : List Value} {x : DataW H × List MemPlace} (ht : Tryz.prog.underlying t = some (.struct fs)) (hone : oneCellFields Tryz.prog fs = true) (hC : Tryz.prog.cellsOf t = fs.size) (h : DataW.trod enc Tryz.prog w base spare held fuel t cs = some x) :
  ∃ (ys : List (DataW H × List MemPlace)) (n : Nat), x.1 = .agg (ys.map (·.1)) ∧ ys.length = fs.size ∧ cs.length = fs.size ∧
   ∀ (j : Nat) (f : Field), fs[j]? = some f → ∃ (v : Value) (y : DataW H × List MemPlace), cs[j]? = some v ∧ ys[j]? = some y ∧ DataW.trod enc Tryz.prog w base spare held n f.type [v] = some y := by
 obtain ⟨ys, n', hn', rfl, hlen, hyl, hf⟩ := DataW.trod_struct ht h
 refine ⟨ys, n', rfl, hyl, hlen.trans hC, fun j f hj => ?_⟩
 obtain ⟨ho, hk⟩ := hone_of hone j f hj
 have hjl : j < fs.size := (Array.getElem?_eq_some_iff.1 hj).1
 have hcl : cs.length = fs.size := hlen.trans hC
 have h1 := hf j f hj
 rw [ho, hk] at h1
 have hone' : (cs.drop j).take 1 = [cs[j]'(by omega)] := by
  rw [List.drop_eq_getElem_cons (by omega)]
  rfl
 rw [hone'] at h1
 exact ⟨_, _, List.getElem?_eq_getElem (by omega), List.getElem?_eq_getElem (by omega), h1.trans (List.getElem?_eq_getElem (by omega))⟩
theorem elt23 (k : Nat) (cs' : List Value) (x : DataW H × List MemPlace) (h : DataW.trod enc Tryz.prog w base spare held k 23 cs' = some x) (hl : cs'.length = P.k23.sz) : ∃ p, P.k23.K w p cs' ∧ g23 p ≤ Rows.uptoBulk x.1 := by
 obtain ⟨c0, c1, c2, c3, rfl⟩ := list4 (show cs'.length = 4 from hl)
 obtain ⟨ys, n, hx, hyl, _, hf⟩ := fields_of Tryz.underlying23 (by as_aux_lemma => kernel_rfl) (by as_aux_lemma => kernel_rfl) h
 obtain ⟨y0, y1, y2, y3, rfl⟩ := list4 (show ys.length = 4 from hyl)
 obtain ⟨v0, z0, e0, f0, t0⟩ := hf 0 _ rfl
 obtain ⟨v1, z1, e1, f1, t1⟩ := hf 1 _ rfl
 obtain ⟨v2, z2, e2, f2, t2⟩ := hf 2 _ rfl
 obtain ⟨v3, z3, e3, f3, t3⟩ := hf 3 _ rfl
 obtain rfl := Option.some.inj e0
 obtain rfl := Option.some.inj e1
 obtain rfl := Option.some.inj e2
 obtain rfl := Option.some.inj e3
 obtain rfl := Option.some.inj f0
 obtain rfl := Option.some.inj f1
 obtain rfl := Option.some.inj f2
 obtain rfl := Option.some.inj f3
 obtain ⟨s, es, rfl, _⟩ := DataW.trod_string Tryz.underlying9 t0
 obtain ⟨a, ea, rfl, _⟩ := DataW.trod_int Tryz.underlying3 t1
 obtain ⟨b, eb, rfl, _⟩ := DataW.trod_int Tryz.underlying3 t2
 obtain ⟨c, ec, rfl⟩ := DataW.trod_bool Tryz.underlying4 t3
 injection es with es
 injection ea with ea
 injection eb with eb
 injection ec with ec
 subst es ea eb ec
 refine ⟨⟨s, a, b, c⟩, P.k23_mk w ⟨s, a, b, c⟩, ?_⟩
 rw [hx]
 have e : s.data.toList.length = s.size := rfl
 simp only [g23, List.map_cons, List.map_nil, Rows.uptoBulk, Rows.uptoBulkAll]
 omega
theorem elt25 (k : Nat) (cs' : List Value) (x : DataW H × List MemPlace) (h : DataW.trod enc Tryz.prog w base spare held k 25 cs' = some x) (hl : cs'.length = P.k25.sz) : ∃ p, P.k25.K w p cs' ∧ g25 p ≤ Rows.uptoBulk x.1 := by
 obtain ⟨c0, c1, c2, rfl⟩ := list3 (show cs'.length = 3 from hl)
 obtain ⟨ys, n, hx, hyl, _, hf⟩ := fields_of Tryz.underlying25 (by as_aux_lemma => kernel_rfl) (by as_aux_lemma => kernel_rfl) h
 obtain ⟨y0, y1, y2, rfl⟩ := list3 (show ys.length = 3 from hyl)
 obtain ⟨v0, z0, e0, f0, t0⟩ := hf 0 _ rfl
 obtain ⟨v1, z1, e1, f1, t1⟩ := hf 1 _ rfl
 obtain ⟨v2, z2, e2, f2, t2⟩ := hf 2 _ rfl
 obtain rfl := Option.some.inj e0
 obtain rfl := Option.some.inj e1
 obtain rfl := Option.some.inj e2
 obtain rfl := Option.some.inj f0
 obtain rfl := Option.some.inj f1
 obtain rfl := Option.some.inj f2
 obtain ⟨a, ea, rfl, _⟩ := DataW.trod_int Tryz.underlying3 t0
 obtain ⟨b, eb, rfl, _⟩ := DataW.trod_int Tryz.underlying3 t1
 obtain ⟨s, es, rfl, _⟩ := DataW.trod_string Tryz.underlying9 t2
 injection es with es
 injection ea with ea
 injection eb with eb
 subst es ea eb
 refine ⟨⟨a, b, s⟩, P.k25_mk w ⟨a, b, s⟩, ?_⟩
 rw [hx]
 have e : s.data.toList.length = s.size := rfl
 simp only [g25, List.map_cons, List.map_nil, Rows.uptoBulk, Rows.uptoBulkAll]
 omega
theorem elt46 (k : Nat) (cs' : List Value) (x : DataW H × List MemPlace) (h : DataW.trod enc Tryz.prog w base spare held k 46 cs' = some x) (hl : cs'.length = P.k46.sz) : ∃ p, P.k46.K w p cs' ∧ g46 p ≤ Rows.uptoBulk x.1 := by
 obtain ⟨c0, c1, rfl⟩ := list2 (show cs'.length = 2 from hl)
 obtain ⟨ys, n, hx, hyl, _, hf⟩ := fields_of Tryz.underlying46 (by as_aux_lemma => kernel_rfl) (by as_aux_lemma => kernel_rfl) h
 obtain ⟨y0, y1, rfl⟩ := list2 (show ys.length = 2 from hyl)
 obtain ⟨v0, z0, e0, f0, t0⟩ := hf 0 _ rfl
 obtain ⟨v1, z1, e1, f1, t1⟩ := hf 1 _ rfl
 obtain rfl := Option.some.inj e0
 obtain rfl := Option.some.inj e1
 obtain rfl := Option.some.inj f0
 obtain rfl := Option.some.inj f1
 obtain ⟨c, ec, rfl⟩ := DataW.trod_bool Tryz.underlying4 t0
 obtain ⟨A, len, cap, xs, es, hlc, hxl, hC, hb⟩ := open_row P.k25 g25 Tryz.underlying44 (by as_aux_lemma => kernel_rfl) elt25 t1
 injection ec with ec
 injection es with es
 subst es ec hxl
 refine ⟨⟨c, xs⟩, P.k46_mk w ⟨c, xs⟩ hlc hC, ?_⟩
 rw [hx]
 simp only [g46, List.map_cons, List.map_nil, Rows.uptoBulk, Rows.uptoBulkAll]
 omega
theorem open_table {r : Reach} {b0 : Nat} {v : Value} {d : DataW H} {p : List MemPlace} (hv : Value.okWide Tryz.prog w r b0 35 v) (h : DataW.Trod enc Tryz.prog w base spare held 35 v d p) :
  ∃ (pg : Int) (A1 : Option Addr) (c1 : Nat) (xs : List P.S23) (A2 : Option Addr) (c2 : Nat) (ys : List P.S46), v = .agg #[.int .i64 pg, .slice A1 xs.length c1, .slice A2 ys.length c2] ∧ xs.length ≤ c1 ∧ Kd.C P.k23 w A1 xs.length xs ∧ ys.length ≤ c2 ∧ Kd.C P.k46 w A2 ys.length ys ∧
   (xs.map g23).sum + (ys.map g46).sum + 4 ≤ Rows.uptoBulk d := by
 obtain ⟨b0, b1, b2, z0, z1, z2, m, rfl, rfl, _, u0, u1, u2⟩ := open_agg3 Tryz.underlying35 (by as_aux_lemma => kernel_rfl) (by as_aux_lemma => kernel_rfl) hv h
 obtain ⟨pg, e0, hz0, _⟩ := DataW.trod_int Tryz.underlying3 u0
 obtain ⟨A1, l1, c1, xs, e1, h1, rfl, hC1, hb1⟩ := open_row P.k23 g23 Tryz.underlying32 (by as_aux_lemma => kernel_rfl) elt23 u1
 obtain ⟨A2, l2, c2, ys, e2, h2, rfl, hC2, hb2⟩ := open_row P.k46 g46 Tryz.underlying33 (by as_aux_lemma => kernel_rfl) elt46 u2
 injection e0 with e0
 injection e1 with e1
 injection e2 with e2
 subst e0 e1 e2
 refine ⟨pg, A1, c1, xs, A2, c2, ys, rfl, h1, hC1, h2, hC2, ?_⟩
 have := bulk_one z0.1
 simp only [Rows.uptoBulk, Rows.uptoBulkAll]
 omega
end
theorem sum_len {α : Type} (g : α → Nat) (k : Nat) (hg : ∀ x, k ≤ g x) : ∀ l : List α, k * l.length ≤ (l.map g).sum
 | [] => by simp
 | x :: r => by
  have := sum_len g k hg r
  have := hg x
  rw [List.map_cons, List.sum_cons, List.length_cons, Nat.mul_succ]
  omega
theorem sum_mem {α : Type} (g : α → Nat) {x : α} : ∀ {l : List α}, x ∈ l → g x ≤ (l.map g).sum
 | y :: r, h => by
  rw [List.map_cons, List.sum_cons]
  rcases List.mem_cons.1 h with rfl | h
  ·omega
  ·have := sum_mem g h
   omega
end Go.Proofs.YtldpdidlfbphcaaGreatDoor.R
end
section
namespace Go.Proofs.YtldpdidlfbphcaaGreatDoor.P
open Go.RowKit Go.Proofs.YtldpdidlfbphcaaGreatDoorW.PrintWords Go.Proofs.YtldpdidlfbphcaaGreatDoorW.PrintLast Go.Proofs.YtldpdidlfbphcaaGreatDoorW.PrintMore
def pageAt (k1 k2 k3 : Nat) (i : Nat) : Int :=
 if i < 256 then (if i < k1 then (if 128 ≤ i then -1 else i) else 0)
 else if i < 512 then (if i - 256 < k1 then ((i - 256 : Nat) : Int) else 0)
 else if 640 ≤ i ∧ i < 640 + k2 then ((i - 640 : Nat) : Int) + 1040
 else if 736 ≤ i ∧ i < 736 + k3 then ((i - 736 : Nat) : Int) + 1088
 else (if i - 512 < k1 then (if 128 ≤ i - 512 then -1 else ((i - 512 : Nat) : Int)) else 0)
def pgCells (k1 k2 k3 : Nat) : Array Value := ((List.range 768).map fun i => Value.int .i32 (pageAt k1 k2 k3 i)).toArray
theorem pg_size (a b c : Nat) : (pgCells a b c).size = 768 := by simp [pgCells]
theorem pg_get (a b c i : Nat) (h : i < 768) : (pgCells a b c)[i]? = some (.int .i32 (pageAt a b c i)) := by simp [pgCells, h]
theorem pgv {a b : Int} (h : a = b) : some (Value.int .i32 a) = some (Value.int .i32 b) := by rw [h]
theorem pg_ext (cs : Array Value) (a b c : Nat) (hs : cs.size = 768) (h : ∀ i, i < 768 → cs[i]? = some (.int .i32 (pageAt a b c i))) : cs = pgCells a b c := by
 apply Array.ext (by rw [hs, pg_size])
 intro i h1 h2
 have := h i (by omega)
 rw [Array.getElem?_eq_getElem h1] at this
 have h3 := pg_get a b c i (by omega)
 rw [Array.getElem?_eq_getElem h2] at h3
 exact (Option.some.inj this).trans (Option.some.inj h3).symm
theorem pg_zero : pgCells 0 0 0 = Array.replicate 768 (.int .i32 0) := by
 symm
 apply pg_ext _ _ _ _ Array.size_replicate
 intro i hi
 rw [Array.getElem?_replicate, if_pos hi]
 unfold pageAt
 repeat' split
 all_goals exact pgv (by omega)
theorem pg_round (k : Nat) (hk : k < 256) (c : Int) (hc : c = if 128 ≤ k then -1 else (k : Int)) :
  (((pgCells k 0 0).setIfInBounds (256 + k) (.int .i32 k)).setIfInBounds k (.int .i32 c)).setIfInBounds (512 + k) (.int .i32 c) = pgCells (k + 1) 0 0 := by
 apply pg_ext _ _ _ _ (by rw [Array.size_setIfInBounds, Array.size_setIfInBounds, Array.size_setIfInBounds, pg_size])
 intro i hi
 simp only [Array.getElem?_setIfInBounds, Array.size_setIfInBounds, pg_size, pg_get k 0 0 i hi]
 subst hc
 unfold pageAt
 repeat' split
 all_goals first | exact pgv (by omega) | omega
theorem pg_round2 (k : Nat) (hk : k < 48) : (pgCells 256 k 0).setIfInBounds (640 + k) (.int .i32 (1040 + k)) = pgCells 256 (k + 1) 0 := by
 apply pg_ext _ _ _ _ (by rw [Array.size_setIfInBounds, pg_size])
 intro i hi
 simp only [Array.getElem?_setIfInBounds, pg_size, pg_get 256 k 0 i hi]
 unfold pageAt
 repeat' split
 all_goals first | exact pgv (by omega) | omega
theorem pg_round3 (k : Nat) (hk : k < 16) : (pgCells 256 48 k).setIfInBounds (736 + k) (.int .i32 (1088 + k)) = pgCells 256 48 (k + 1) := by
 apply pg_ext _ _ _ _ (by rw [Array.size_setIfInBounds, pg_size])
 intro i hi
 simp only [Array.getElem?_setIfInBounds, pg_size, pg_get 256 48 k i hi]
 unfold pageAt
 repeat' split
 all_goals first | exact pgv (by omega) | omega
theorem pg_zero_run : ∀ W, (zeroValue 149).run Tryz.prog W = .ok (.agg (pgCells 0 0 0)) W := by
 rw [pg_zero]
 exact (Go.zero_of_info (n := 768) (P := Tryz.prog) (t := 149) (by kernel_rfl)).1
theorem pg_one : (pgCells 256 48 16).all (·.oneCell') = true := by
 rw [Array.all_eq_true]
 intro i h
 have h2 := pg_get 256 48 16 i (by rw [pg_size] at h; exact h)
 rw [Array.getElem?_eq_getElem h] at h2
 rw [Option.some.inj h2]
 rfl
theorem page_pages (w : World) :
  Calls Tryz.prog 141 #[] w fun e w' => e = .returned (.agg (pgCells 256 48 16)) ∧ Below w.heap.size w w' := by
 have hz := pg_zero_run
 have HB := Z0 (Below.refl w.heap.size w)
 go_enter Tryz.func141, Tryz.ntmps141
 go_wp2_with (first | ((with_reducible refine Z9 (N := 0) rfl ?_); refine bx (N := 0) (cs := pgCells 0 0 0) (t := 149) ?_; intro g0 hg w1 hb0 hB; have GE0 : Aside0 (w.heap.size ≤ g0) := ⟨by rw [hg]; exact Nat.le_refl _⟩; have HB1 := Z0 hB; have BK0 := Z0 hb0; clear hg hB hb0 HB) | ((with_reducible refine Z9 (N := 1) rfl ?_); refine bx (N := 1) (cs := pgCells 0 0 0) (t := 149) ?_; intro g1 hg w2 hb1 hB; have GE1 : Aside0 (w.heap.size ≤ g1) := ⟨by rw [hg]; exact HB1.out.size⟩; have N01 : Aside0 (g0 ≠ g1) := ⟨by rw [hg]; exact Nat.ne_of_lt (blk_lt BK0.out)⟩; have HB2 := Z0 (Z1 HB1.out hB); have BK0' := Z0 (Z2 BK0.out hB); have BK1 := Z0 hb1; clear hg hB hb1 HB1 BK0))
 go_loopg [6] 256 (fun gk s6 wx => ∃ i : Nat, i + gk = 256 ∧ s6 = .int .i64 i ∧ Aside0 (wx.heap[g0]? = some (.cells (pgCells 0 0 0) 149 (0, 0))) ∧ Aside0 (wx.heap[g1]? = some (.cells (pgCells i 0 0) 149 (0, 0))) ∧ Aside0 (Below w.heap.size w wx))
 case atStart => exact ⟨0, rfl, rfl, BK0', BK1, HB2⟩
 case round =>
  clear BK0' BK1 HB2
  obtain ⟨i, hi, rfl, BK0, BK1, HB⟩ := hrel
  cases gk with
  | zero =>
   obtain rfl : i = 256 := by omega
   clear hi
   go_wp2
   go_loopg [4] 48 (fun gk s4 wx => ∃ i : Nat, i + gk = 176 ∧ 128 ≤ i ∧ s4 = .int .i64 i ∧ Aside0 (wx.heap[g0]? = some (.cells (pgCells 0 0 0) 149 (0, 0))) ∧ Aside0 (wx.heap[g1]? = some (.cells (pgCells 256 (i - 128) 0) 149 (0, 0))) ∧ Aside0 (Below w.heap.size w wx))
   case atStart => exact ⟨128, rfl, by omega, rfl, BK0, BK1, HB⟩
   case round =>
    clear BK0 BK1 HB
    obtain ⟨i, hi, hlo, rfl, BK0, BK1, HB⟩ := hrel
    cases gk with
    | zero =>
     obtain rfl : i = 176 := by omega
     clear hi hlo
     go_wp2
     go_loopg [5] 16 (fun gk s5 wx => ∃ i : Nat, i + gk = 240 ∧ 224 ≤ i ∧ s5 = .int .i64 i ∧ Aside0 (wx.heap[g0]? = some (.cells (pgCells 0 0 0) 149 (0, 0))) ∧ Aside0 (wx.heap[g1]? = some (.cells (pgCells 256 48 (i - 224)) 149 (0, 0))) ∧ Aside0 (Below w.heap.size w wx))
     case atStart => exact ⟨224, rfl, by omega, rfl, BK0, BK1, HB⟩
     case round =>
      clear BK0 BK1 HB
      obtain ⟨i, hi, hlo, rfl, BK0, BK1, HB⟩ := hrel
      cases gk with
      | zero =>
       obtain rfl : i = 240 := by omega
       clear hi hlo
       go_wp2_with (first | ((with_reducible refine Z9 (N := 48) rfl ?_); refine wpList_load_row rfl 149 (.tmp 1) rfl g1 rfl 149 (pgCells 256 48 16) (0, 0) _ BK1.out Tryz.underlying149 rfl (by rw [pg_size]; kernel_rfl) ?_) | ((with_reducible refine gate_store (t := 149) (p := 0) rfl ?_); refine wpList_store_row rfl 149 (.tmp 0) (.tmp 48) rfl g0 (pgCells 256 48 16) rfl rfl 149 (pgCells 0 0 0) BK0.out (by rw [pg_size]; kernel_rfl) (by rw [pg_size, pg_size]) pg_one ?_))
       (try simp only [Exit.inBlock, Exit.then])
       exact bodyPost_ret (results_cell_row rfl _ _ g0 149 (pgCells 256 48 16) (0, 0) _ rfl (setRow_heap _ _ _ _ _ _ BK0.out) Tryz.underlying149 rfl (by rw [pg_size]; kernel_rfl)) rfl ⟨rfl, below_setRow HB.out GE0.out _⟩
      | succ gk =>
       have hlt : i < 240 := by omega
       have hlt' : (i : Int) ≤ 239 := by omega
       have hcA : wr.cell? ⟨g1, 512 + i, none⟩ = some (.int .i32 (pageAt 256 48 (i - 224) (512 + i))) := (Z4 BK1.out (512 + i)).trans (pg_get 256 48 (i - 224) (512 + i) (by omega))
       have hfA : wr.frozen? ⟨g1, 512 + i, none⟩ = false := Z8 BK1.out _
       have hval : Aside0 ((pgCells 256 48 (i - 224)).setIfInBounds (512 + i) (.int .i32 ((1088 : Int) + ((i : Int) - 224))) = pgCells 256 48 (i + 1 - 224)) := ⟨by rw [show 512 + i = 736 + (i - 224) by omega, show (1088 : Int) + ((i : Int) - 224) = 1088 + ((i - 224 : Nat) : Int) by omega, show i + 1 - 224 = (i - 224) + 1 by omega]; exact pg_round3 (i - 224) (by omega)⟩
       go_wp2
       go_roundg gk
       case measure => omega
       case rel => exact ⟨i + 1, by omega, by omega, by first | rfl | simp, ⟨blk_far BK0.out N01.out _⟩, ⟨blk_put BK1.out _ _ hval.out⟩, ⟨below_set HB.out GE1.out⟩⟩
    | succ gk =>
     have hlt : i < 176 := by omega
     have hlt' : (i : Int) ≤ 175 := by omega
     have hcA : wr.cell? ⟨g1, 512 + i, none⟩ = some (.int .i32 (pageAt 256 (i - 128) 0 (512 + i))) := (Z4 BK1.out (512 + i)).trans (pg_get 256 (i - 128) 0 (512 + i) (by omega))
     have hfA : wr.frozen? ⟨g1, 512 + i, none⟩ = false := Z8 BK1.out _
     have hval : Aside0 ((pgCells 256 (i - 128) 0).setIfInBounds (512 + i) (.int .i32 ((1040 : Int) + ((i : Int) - 128))) = pgCells 256 (i + 1 - 128) 0) := ⟨by rw [show 512 + i = 640 + (i - 128) by omega, show (1040 : Int) + ((i : Int) - 128) = 1040 + ((i - 128 : Nat) : Int) by omega, show i + 1 - 128 = (i - 128) + 1 by omega]; exact pg_round2 (i - 128) (by omega)⟩
     go_wp2
     go_roundg gk
     case measure => omega
     case rel => exact ⟨i + 1, by omega, by omega, by first | rfl | simp, ⟨blk_far BK0.out N01.out _⟩, ⟨blk_put BK1.out _ _ hval.out⟩, ⟨below_set HB.out GE1.out⟩⟩
  | succ gk =>
   have hlt : i < 256 := by omega
   have hlt' : (i : Int) < 256 := by omega
   have hcA : wr.cell? ⟨g1, 256 + i, none⟩ = some (.int .i32 (pageAt i 0 0 (256 + i))) := (Z4 BK1.out (256 + i)).trans (pg_get i 0 0 (256 + i) (by omega))
   have hfA : wr.frozen? ⟨g1, 256 + i, none⟩ = false := Z8 BK1.out _
   have hcB : wr.cell? ⟨g1, i, none⟩ = some (.int .i32 (pageAt i 0 0 i)) := (Z4 BK1.out i).trans (pg_get i 0 0 i (by omega))
   have hfB : wr.frozen? ⟨g1, i, none⟩ = false := Z8 BK1.out _
   have hcC : wr.cell? ⟨g1, 512 + i, none⟩ = some (.int .i32 (pageAt i 0 0 (512 + i))) := (Z4 BK1.out (512 + i)).trans (pg_get i 0 0 (512 + i) (by omega))
   have hfC : wr.frozen? ⟨g1, 512 + i, none⟩ = false := Z8 BK1.out _
   by_cases h8 : 128 ≤ i
   ·have h8' : decide (128 ≤ (i : Int)) = true := by simp; omega
    go_wp2
    go_roundg gk
    case measure => omega
    case rel => exact ⟨i + 1, by omega, by first | rfl | simp, ⟨blk_far (blk_far (blk_far BK0.out N01.out _) N01.out _) N01.out _⟩, ⟨blk_put (blk_put (blk_put BK1.out _ _ rfl) _ _ rfl) _ _ (pg_round i hlt (-1) (by rw [if_pos h8]))⟩, ⟨below_set (below_set (below_set HB.out GE1.out) GE1.out) GE1.out⟩⟩
   have h8' : decide (128 ≤ (i : Int)) = false := by simp; omega
   go_wp2
   go_roundg gk
   case measure => omega
   case rel => exact ⟨i + 1, by omega, by first | rfl | simp, ⟨blk_far (blk_far (blk_far BK0.out N01.out _) N01.out _) N01.out _⟩, ⟨blk_put (blk_put (blk_put BK1.out _ _ rfl) _ _ rfl) _ _ (pg_round i hlt i (by rw [if_neg h8]))⟩, ⟨below_set (below_set (below_set HB.out GE1.out) GE1.out) GE1.out⟩⟩
section
attribute [local go_sem] max2_int min2_int max_two min_two max_three min_three max_four min_four
def page_asked.l0 : Nat → Int → List ByteArray → Int → Int → Option (Int)
 | 0, _, _, _, _ => none
 | k + 1, x0, x7, x8, x9 => if x9 < x8 then (if 0 ≤ x9 then (if x9 < (x7.length : Int) then (if ((rdOf ByteArray.empty x7 x9).size : Int) > 2048 then (some 3) else (page_asked.l0 k x0 x7 x8 (wrap64 (x9 + 1)))) else (none)) else (none)) else (if x0 < 0 then (some 1) else (if x0 > 2 then (some 1) else (some 0)))
def page_asked.f (k : Nat) (a0 : Int) (l1 : List ByteArray) : Option (Int) := page_asked.l0 k a0 l1 (l1.length : Int) 0
theorem page_asked.mono_l : ∀ k, (∀ y0 y1 y2 y3, LeO (page_asked.l0 k y0 y1 y2 y3) (page_asked.l0 (k + 1) y0 y1 y2 y3))
 | 0 => fun _ _ _ _ r h => by simp [page_asked.l0] at h
 | k + 1 => by
  have ih0 := page_asked.mono_l k
  ·intro y0 y1 y2 y3
   unfold page_asked.l0
   repeat' first
   | (with_reducible exact ih0 _ _ _ _)
   | (with_reducible exact LeO.refl _)
   | (with_reducible exact LeO.none _)
   | (with_reducible refine LeO.ite ?_ ?_)
   | (with_reducible refine LeO.bind ?_ (fun _ => ?_))
theorem page_asked.mono : ∀ a0 a1 k, LeO (page_asked.f k a0 a1) (page_asked.f (k + 1) a0 a1) := by
 intro a0 a1 k
 have ih0 := page_asked.mono_l k
 unfold page_asked.f
 repeat' first
   | (with_reducible exact ih0 _ _ _ _)
   | (with_reducible exact LeO.refl _)
   | (with_reducible exact LeO.none _)
   | (with_reducible refine LeO.ite ?_ ?_)
   | (with_reducible refine LeO.bind ?_ (fun _ => ?_))
theorem page_asked.calls (k : Nat) (a0 : Int) (A1 : Option Addr) (c1 : Nat) (l1 : List ByteArray) (r : Int) (w : World) (hr1 : Kd.C Kd.string w A1 l1.length l1) (hc1 : l1.length ≤ c1) (h : page_asked.f k a0 l1 = some r) :
  Calls Tryz.prog 140 #[.int .i64 a0, .slice A1 l1.length c1] w fun e w' => e = .returned (.int .i64 r) ∧ Drawn0 w w' := by
 have HR1 := Z0 hr1
 have HC1 := Z0 hc1
 clear hr1 hc1
 unfold page_asked.f at h
 have H := h
 clear h
 have H' := Z0 H
 clear H
 go_enter Tryz.func140, Tryz.ntmps140
 go_wp2
 go_loopg [9] k (fun kq v9 w' => ∃ (x9_1 : Int), v9 = .int .i64 x9_1 ∧ Aside0 (page_asked.l0 kq a0 l1 (l1.length : Int) x9_1 = some r) ∧ Aside0 (kq ≤ k) ∧ Drawn0 w w')
 case atStart => exact ⟨(0), V2, H', ⟨Nat.le_refl _⟩, by repeat (first | exact Y4 _ | apply Y0)⟩
 case round =>
  clear H'
  obtain ⟨x9_1, rfl, HA, HK1, ⟨m1, rfl⟩⟩ := hrel
  cases gk with
  | zero => exact absurd HA.out (by simp [page_asked.l0])
  | succ k1 =>
   have H := HA.out
   clear HA
   simp only [page_asked.l0] at H
   by_cases c3 : x9_1 < (l1.length : Int)
   rotate_left
   ·rw [if_neg c3] at H
    have c3b0 : decide (x9_1 < (l1.length : Int)) = false := decide_eq_false c3
    clear c3
    by_cases c7 : a0 < 0
    ·rw [if_pos c7] at H
     have c7b0 : decide (a0 < 0) = true := decide_eq_true c7
     clear c7
     obtain rfl := Option.some.inj H
     go_wp2
     go_ret
     exact ⟨V2, by repeat (first | exact Y4 _ | apply Y0)⟩
    rw [if_neg c7] at H
    have c7b0 : decide (a0 < 0) = false := decide_eq_false c7
    clear c7
    by_cases c8 : a0 > 2
    ·rw [if_pos c8] at H
     have c8b0 : decide (2 < a0) = true := decide_eq_true c8
     clear c8
     obtain rfl := Option.some.inj H
     go_wp2
     go_ret
     exact ⟨V2, by repeat (first | exact Y4 _ | apply Y0)⟩
    rw [if_neg c8] at H
    have c8b0 : decide (2 < a0) = false := decide_eq_false c8
    clear c8
    obtain rfl := Option.some.inj H
    go_wp2
    go_ret
    exact ⟨V2, by repeat (first | exact Y4 _ | apply Y0)⟩
   rw [if_pos c3] at H
   have c3b0 : decide (x9_1 < (l1.length : Int)) = true := decide_eq_true c3
   clear c3
   by_cases c4 : 0 ≤ x9_1
   rotate_left
   ·rw [if_neg c4] at H
    exact absurd H (by simp)
   rw [if_pos c4] at H
   have c4b0 : decide (0 ≤ x9_1) = true := decide_eq_true c4
   clear c4
   by_cases c5 : x9_1 < (l1.length : Int)
   rotate_left
   ·rw [if_neg c5] at H
    exact absurd H (by simp)
   rw [if_pos c5] at H
   have c5b0 : decide (x9_1 < (l1.length : Int)) = true := decide_eq_true c5
   clear c5
   by_cases c6 : ((rdOf ByteArray.empty l1 x9_1).size : Int) > 2048
   ·rw [if_pos c6] at H
    have c6b0 : decide (2048 < ((rdOf ByteArray.empty l1 x9_1).size : Int)) = true := decide_eq_true c6
    have c6b1 : decide (2048 < (rdOf ByteArray.empty l1 x9_1).size) = true := decide_eq_true (by omega)
    clear c6
    obtain rfl := Option.some.inj H
    have p541 : 0 ≤ (x9_1 : Int) := of_decide_eq_true V3
    have q541 : x9_1 < (l1.length : Int) := of_decide_eq_true V3
    obtain ⟨ad541, e541, hx541_0⟩ := Kd.at_string HR1.out x9_1 p541 q541
    cases e541
    replace p541 := eq_true p541
    replace q541 := eq_true q541
    go_wp2
    go_ret
    exact ⟨V2, by repeat (first | exact Y4 _ | apply Y0)⟩
   rw [if_neg c6] at H
   have c6b0 : decide (2048 < ((rdOf ByteArray.empty l1 x9_1).size : Int)) = false := decide_eq_false c6
   have c6b1 : decide (2048 < (rdOf ByteArray.empty l1 x9_1).size) = false := decide_eq_false (by omega)
   clear c6
   have H' := Z0 H
   clear H
   have p541 : 0 ≤ (x9_1 : Int) := of_decide_eq_true V3
   have q541 : x9_1 < (l1.length : Int) := of_decide_eq_true V3
   obtain ⟨ad541, e541, hx541_0⟩ := Kd.at_string HR1.out x9_1 p541 q541
   cases e541
   replace p541 := eq_true p541
   replace q541 := eq_true q541
   go_wp2
   go_roundg k1
   case measure => have := HK1.out; omega
   case rel => exact ⟨(wrap64 (x9_1 + 1)), V2, H', ⟨by have := HK1.out; omega⟩, by repeat (first | exact Y4 _ | apply Y0)⟩
end
def pgRow (p : Nat) : Array Value := (pgCells 256 48 16).extract (256 * p) (256 * p + 256)
theorem pgRow_size (p : Nat) (h : p ≤ 2) : (pgRow p).size = 256 := by
 unfold pgRow
 rw [Array.size_extract, pg_size]
 omega
theorem pgRow_get (p : Nat) (h : p ≤ 2) (i : Nat) (hi : i < 256) : (pgRow p)[i]? = some (.int .i32 (pageAt 256 48 16 (256 * p + i))) := by
 unfold pgRow
 rw [Array.getElem?_extract, if_pos (by rw [pg_size]; omega)]
 exact pg_get _ _ _ _ (by omega)
theorem pgRow_one (p : Nat) (h : p ≤ 2) : (pgRow p).all (·.oneCell') = true := by
 rw [Array.all_eq_true]
 intro i hi
 have h2 := pgRow_get p h i (by rw [pgRow_size p h] at hi; exact hi)
 rw [Array.getElem?_eq_getElem hi] at h2
 rw [Option.some.inj h2]
 rfl
theorem pg_index (p : Nat) (hp : p ≤ 2) (W : World) : (Instr.index 149 (.agg (pgCells 256 48 16)) (.int .i64 p)).run Tryz.prog W = .ok (.agg (pgRow p)) W := by
 have h1 := Tryz.underlying149
 have h2 := Tryz.underlying148
 have h3 : (Tryz.prog.info? 148).map (·.size) = some 256 := by kernel_rfl
 obtain ⟨i, hi, hs⟩ := Option.map_eq_some_iff.1 h3
 have hs' : i.size = 256 := hs
 have h4 : (asIntOf (Value.int IntKind.i64 (p : Int))).run Tryz.prog W = .ok (.i64, (p : Int)) W := rfl
 simp [Instr.index, run_underlying h1, part, sizeOf, typeInfo, hi, hs', isAgg, run_underlying h2, h4]
 rw [if_pos (by omega), Nat.mul_comm p 256]
 rfl
theorem pgRow_zero_run : ∀ W, (zeroValue 148).run Tryz.prog W = .ok (.agg (Array.replicate 256 (.int .i32 0))) W :=
 (Go.zero_of_info (n := 256) (P := Tryz.prog) (t := 148) (by kernel_rfl)).1
def onPage (p : Nat) (b : UInt8) : Bool := decide (0 ≤ pageAt 256 48 16 (256 * p + b.toNat))
def page_Valid.f (a0 : ByteArray) (a1 : Int) : Option (Bool × Int) :=
 if 2048 < a0.size then some (false, 3) else if a1 < 0 ∨ 2 < a1 then some (false, 1) else some (a0.data.toList.all (onPage a1.toNat), 0)
theorem C_lit1 (W : World) (s : ByteArray) (t : TypeId) : Kd.C Kd.string (W.alloc (.cells #[.string s] t (0, 0))) (some ⟨W.heap.size, 0, none⟩) ([s] : List ByteArray).length [s] := by
 refine ⟨rfl, by simp, fun _ => ⟨_, rfl, fun j p hj => ?_⟩⟩
 match j, hj with
 | 0, hj =>
  obtain rfl : s = p := by simpa using hj
  refine ⟨[.string s], rfl, rfl, fun i u hu => ?_⟩
  match i, hu with
  | 0, hu =>
   obtain rfl : Value.string s = u := by simpa using hu
   rw [add_plain]
   exact (Z4 (blk_new W _) 0).trans rfl
theorem asked_is (s : ByteArray) (p : Int) : page_asked.f 3 p [s] = some (if 2048 < s.size then 3 else if p < 0 ∨ 2 < p then 1 else 0) := by
 have hw : wrap64 1 = 1 := by unfold wrap64; omega
 by_cases h : 2048 < s.size
 ·have h' : (2048 : Int) < (s.size : Int) := by omega
  simp [page_asked.f, page_asked.l0, rdOf, h', h]
 have h' : ¬ (2048 : Int) < (s.size : Int) := by omega
 by_cases h1 : p < 0
 ·simp [page_asked.f, page_asked.l0, rdOf, h', h, hw, h1]
 by_cases h2 : 2 < p
 ·simp [page_asked.f, page_asked.l0, rdOf, h', h, hw, h1, h2]
 simp [page_asked.f, page_asked.l0, rdOf, h', h, hw, h1, h2]
theorem all_take_snoc {α : Type} (q : α → Bool) (l : List α) (k : Nat) (h : k < l.length) : (l.take (k + 1)).all q = ((l.take k).all q && q l[k]) := by
 rw [List.take_succ_eq_append_getElem h, List.all_append]
 simp
theorem asked_calls (s : ByteArray) (p r : Int) (hr : r = if 2048 < s.size then 3 else if p < 0 ∨ 2 < p then 1 else 0) (W : World) (t : TypeId) :
  Calls Tryz.prog 140 #[.int .i64 p, .slice (some ⟨W.heap.size, 0, none⟩) 1 1] (W.alloc (.cells #[.string s] t (0, 0))) fun e w' => e = .returned (.int .i64 r) ∧ Below W.heap.size W w' :=
 (page_asked.calls 3 p _ 1 [s] r _ (C_lit1 W s t) (Nat.le_refl 1) (by rw [asked_is, hr])).mono fun _ _ ⟨he, hd⟩ => ⟨he, below_then (below_alloc (Below.refl _ _) _) (by simp) hd.below⟩
theorem page_Valid.calls (a0 : ByteArray) (a1 : Int) (r1 : Bool) (r2 : Int) (w : World) (h : page_Valid.f a0 a1 = some (r1, r2)) :
  Calls Tryz.prog 96 #[.string a0, .int .i64 a1] w fun e w' => e = .returned (.tuple #[.bool r1, .int .i64 r2]) ∧ Below w.heap.size w w' := by
 unfold page_Valid.f at h
 by_cases h1 : 2048 < a0.size
 ·rw [if_pos h1] at h
  simp only [Option.some.injEq, Prod.mk.injEq] at h
  obtain ⟨rfl, rfl⟩ := h
  have C := asked_calls a0 a1 3 (by rw [if_pos h1])
  clear h1
  go_enter Tryz.func96, Tryz.ntmps96
  go_wp2_with (go_at_call 140; refine (C _ _).mono ?_; rintro e w1 ⟨rfl, hb⟩)
  go_ret2
  exact ⟨rfl, hb⟩
 rw [if_neg h1] at h
 by_cases h2 : a1 < 0 ∨ 2 < a1
 ·rw [if_pos h2] at h
  simp only [Option.some.injEq, Prod.mk.injEq] at h
  obtain ⟨rfl, rfl⟩ := h
  have C := asked_calls a0 a1 1 (by rw [if_neg h1, if_pos h2])
  clear h1 h2
  go_enter Tryz.func96, Tryz.ntmps96
  go_wp2_with (go_at_call 140; refine (C _ _).mono ?_; rintro e w1 ⟨rfl, hb⟩)
  go_ret2
  exact ⟨rfl, hb⟩
 rw [if_neg h2] at h
 simp only [Option.some.injEq, Prod.mk.injEq] at h
 obtain ⟨rfl, rfl⟩ := h
 have C := asked_calls a0 a1 0 (by rw [if_neg h1, if_neg h2])
 obtain ⟨p, rfl⟩ := Int.eq_ofNat_of_zero_le (show 0 ≤ a1 by omega)
 have hp : p ≤ 2 := by omega
 have hs : a0.size ≤ 2048 := by omega
 clear h1 h2
 rw [Int.toNat_natCast]
 have hix := pg_index p hp
 have hzr := pgRow_zero_run
 have kb := fun W => print_bytes (P := Tryz.prog) 9 37 5 Tryz.underlying9 Tryz.underlying37 Tryz.underlying5 a0 W
 go_enter Tryz.func96, Tryz.ntmps96
 go_wp2_with (first | (go_at_call 140; refine (C _ _).mono ?_; rintro e w1 ⟨rfl, hb⟩; have HB := Z0 hb; clear hb C) | (go_at_call 141; refine (page_pages _).mono ?_; rintro e w2 ⟨rfl, hb⟩; have HB2 := Z0 (Z1 HB.out hb); clear hb HB) | ((with_reducible refine Z9 (N := 7) rfl ?_); refine bx (N := 7) (cs := Array.replicate 256 (.int .i32 0)) (t := 148) ?_; intro g hg w3 hbk hb; have GE : Aside0 (w.heap.size ≤ g) := ⟨by rw [hg]; exact HB2.out.size⟩; have HB3 := Z0 (Z1 HB2.out hb); have BK := Z0 hbk; clear hg hb hbk HB2) | ((with_reducible refine gate_store (t := 148) (p := 7) rfl ?_); refine wpList_store_row rfl 148 (.tmp 7) (.tmp 19) rfl g (pgRow p) rfl rfl 148 (Array.replicate 256 (.int .i32 0)) BK.out (by rw [pgRow_size p hp]; kernel_rfl) (by rw [pgRow_size p hp, Array.size_replicate]) (pgRow_one p hp) ?_; have BK1 := Z0 (setRow_heap _ _ _ (pgRow p) _ _ BK.out); have HB4 := Z0 (below_setRow HB3.out GE.out (pgRow p)); clear BK HB3; generalize w3.setRow g (pgRow p) = w4 at BK1 HB4 ⊢))
 have BKf : Aside0 ((Lib.bytesWorld w4 5 a0).heap[g]? = some (.cells (pgRow p) 148 (0, 0))) := ⟨(Lib.bytesWorld_at_old w4 5 a0 g (blk_lt BK1.out)).trans BK1.out⟩
 have HCf : Aside0 (∀ j (hj : j < a0.size), (Lib.bytesWorld w4 5 a0).cell? ⟨w4.heap.size, j, none⟩ = some (.int .u8 ((a0[j]'hj).toNat : Int))) := ⟨fun j hj => by rw [Lib.bytesWorld_cell w4 5 a0 j hj, List.getD_eq_getElem?_getD, List.getElem?_eq_getElem (by rw [data_length]; exact hj)]; rfl⟩
 have HBf : Aside0 (Below w.heap.size w (Lib.bytesWorld w4 5 a0)) := ⟨bytes_below HB4.out HB4.out.size _ _⟩
 go_loopg [23] a0.size (fun gk s23 wx => ∃ i : Nat, i + gk = a0.size ∧ s23 = .int .i64 i ∧ Aside0 ((a0.data.toList.take i).all (onPage p) = true) ∧ Aside0 (wx.heap[g]? = some (.cells (pgRow p) 148 (0, 0))) ∧ Aside0 (∀ j (hj : j < a0.size), wx.cell? ⟨w4.heap.size, j, none⟩ = some (.int .u8 ((a0[j]'hj).toNat : Int))) ∧ Aside0 (Below w.heap.size w wx))
 case atStart => exact ⟨0, by omega, rfl, ⟨rfl⟩, BKf, HCf, HBf⟩
 case round =>
  clear BKf HCf HBf BK1 HB4 kb
  obtain ⟨i, hi, rfl, HQ, BK, HC, HB⟩ := hrel
  cases gk with
  | zero =>
   obtain rfl : i = a0.size := by omega
   have HR : Aside0 (a0.data.toList.all (onPage p) = true) := ⟨by have := HQ.out; rwa [List.take_of_length_le (by rw [data_length]; omega)] at this⟩
   clear hi HQ
   go_wp2
   go_ret2
   exact ⟨by rw [HR.out]; rfl, HB.out⟩
  | succ gk =>
   have hlt : i < a0.size := by omega
   have hl : i < a0.data.toList.length := by rw [data_length]; exact hlt
   have hsn := all_take_snoc (onPage p) a0.data.toList i hl
   have hc := HC.out i hlt
   obtain ⟨b, hb⟩ : ∃ b : UInt8, a0[i]'hlt = b := ⟨_, rfl⟩
   have hb' : a0.data.toList[i]'hl = b := by rw [← hb]; rfl
   rw [hb] at hc
   rw [hb', HQ.out, Bool.true_and] at hsn
   have hb256 : b.toNat < 256 := UInt8.toNat_lt b
   have hcg : wr.cell? ⟨g, b.toNat, none⟩ = some (.int .i32 (pageAt 256 48 16 (256 * p + b.toNat))) := (Z4 BK.out b.toNat).trans (pgRow_get p hp b.toNat hb256)
   obtain ⟨c, hcc⟩ : ∃ c : Int, pageAt 256 48 16 (256 * p + b.toNat) = c := ⟨_, rfl⟩
   rw [hcc] at hcg
   have hq : onPage p b = decide (0 ≤ c) := by unfold onPage; rw [hcc]
   rw [hq] at hsn
   have hb256' : (b.toNat : Int) < 256 := by omega
   have HM : Aside0 (a0.data.toList[i]? = some b) := ⟨by rw [List.getElem?_eq_getElem hl, hb']⟩
   have HS := Z0 hsn
   have HQ2 := Z0 hq
   clear hb hb' hsn hl HQ hcc hq
   by_cases hn : c < 0
   ·have HR : Aside0 (a0.data.toList.all (onPage p) = false) := ⟨by
     rw [List.all_eq_false]
     exact ⟨b, List.mem_of_getElem? HM.out, by rw [HQ2.out]; simp; omega⟩⟩
    clear HS HM HQ2
    go_wp2
    go_ret2
    exact ⟨by rw [HR.out]; rfl, HB.out⟩
   have HR : Aside0 ((a0.data.toList.take (i + 1)).all (onPage p) = true) := ⟨by rw [HS.out]; simp; omega⟩
   clear HS HM HQ2
   go_wp2
   go_roundg gk
   case measure => omega
   case rel => exact ⟨i + 1, by omega, by first | rfl | simp, HR, BK, HC, HB⟩
def dig10 (n : Nat) : List UInt8 := if n < 10 then [UInt8.ofNat (48 + n)] else dig10 (n / 10) ++ [UInt8.ofNat (48 + n % 10)]
termination_by n
def decL (n : Int) : List UInt8 := if n < 0 then 45 :: dig10 n.natAbs else dig10 n.toNat
theorem dig10_small (n : Nat) (h : n < 10) : dig10 n = [UInt8.ofNat (48 + n)] := by rw [dig10, if_pos h]
theorem dig10_big (n : Nat) (h : ¬ n < 10) : dig10 n = dig10 (n / 10) ++ [UInt8.ofNat (48 + n % 10)] := by rw [dig10, if_neg h]
theorem dig10_len (n k : Nat) (h : n < 10 ^ (k + 1)) : (dig10 n).length ≤ k + 1 := by
 induction k generalizing n with
 | zero => rw [dig10_small n (by simpa using h)]; simp
 | succ k ih =>
  by_cases h1 : n < 10
  ·rw [dig10_small n h1]; simp
  rw [dig10_big n h1, List.length_append]
  have := ih (n / 10) (by rw [Nat.pow_succ] at h; omega)
  simp
  omega
theorem digit_extract (d : Nat) (h : d < 10) : (⟨#[48, 49, 50, 51, 52, 53, 54, 55, 56, 57]⟩ : ByteArray).extract d (d + 1) = ⟨#[UInt8.ofNat (48 + d)]⟩ := by
 have : ∀ d : Fin 10, (⟨#[48, 49, 50, 51, 52, 53, 54, 55, 56, 57]⟩ : ByteArray).extract d.val (d.val + 1) = ⟨#[UInt8.ofNat (48 + d.val)]⟩ := by decide
 exact this ⟨d, h⟩
theorem digit_slice (d : Nat) (h : d < 10) (W : World) : (Instr.slice 9 (.string ⟨#[48, 49, 50, 51, 52, 53, 54, 55, 56, 57]⟩) (some (.int .i64 (d : Int))) (some (.int .i64 ((d : Int) + 1))) none).run Tryz.prog W = .ok (.string ⟨#[UInt8.ofNat (48 + d)]⟩) W := by
 have hz : (⟨#[48, 49, 50, 51, 52, 53, 54, 55, 56, 57]⟩ : ByteArray).size = 10 := rfl
 rw [run_slice_string W 9 _ .i64 .i64 (d : Int) ((d : Int) + 1) Tryz.underlying9 (by omega) (by omega) (by rw [hz]; omega)]
 rw [show ((d : Int) + 1).toNat = d + 1 by omega, Int.toNat_natCast, digit_extract d h]
theorem add_one_byte (a b : List UInt8) : (⟨a.toArray⟩ : ByteArray) ++ ⟨b.toArray⟩ = ⟨(a ++ b).toArray⟩ := by
 apply ByteArray.ext
 simp
theorem dec_nat (m : Nat) : ∀ (w : World), m < 10 ^ 18 → Calls Tryz.prog 98 #[.int .i64 (m : Int)] w fun e w' => e = .returned (.string ⟨(dig10 m).toArray⟩) ∧ ∃ n, w' = w.drewN n := by
 induction m using Nat.strongRecOn with
 | _ m ih =>
 intro w hm
 have hm' : (m : Int) < 1000000000000000000 := by omega
 by_cases h : m < 10
 ·have hd := digit_slice m h
  have H := Z0 (dig10_small m h)
  clear ih hm hm'
  generalize UInt8.ofNat (48 + m) = c at hd H
  go_enter Tryz.func98, Tryz.ntmps98
  go_wp2_with fail
  go_ret
  exact ⟨by rw [H.out]; rfl, 0, rfl⟩
 have hd : ∀ W, (Instr.slice 9 (.string ⟨#[48, 49, 50, 51, 52, 53, 54, 55, 56, 57]⟩) (some (.int .i64 ((m : Int) % 10))) (some (.int .i64 ((m : Int) % 10 + 1))) none).run Tryz.prog W = .ok (.string ⟨#[UInt8.ofNat (48 + m % 10)]⟩) W := by
  intro W
  have := digit_slice (m % 10) (by omega) W
  rwa [show ((m % 10 : Nat) : Int) = (m : Int) % 10 by omega] at this
 have hl : Aside0 ((dig10 (m / 10)).length ≤ 18) := ⟨dig10_len _ 17 (by omega)⟩
 have H := Z0 (dig10_big m h)
 have C : Aside0 (∀ W, Calls Tryz.prog 98 #[.int .i64 ((m : Int) / 10)] W fun e w' => e = .returned (.string ⟨(dig10 (m / 10)).toArray⟩) ∧ ∃ n, w' = W.drewN n) := ⟨fun W => ih (m / 10) (by omega) W (by omega)⟩
 have h10 : ¬ (m : Int) < 10 := by omega
 have hneg : ¬ (m : Int) < 0 := by omega
 clear ih h hm
 generalize dig10 (m / 10) = l at H C hl
 generalize UInt8.ofNat (48 + m % 10) = c at hd H
 have hl2 : l.length ≤ 9223372036854775806 := by have := hl.out; omega
 have hsz : (⟨l.toArray⟩ : ByteArray).size = l.length := by simp [ByteArray.size]
 go_enter Tryz.func98, Tryz.ntmps98
 go_wp2_with fail
 go_quiet ((go_at_call 98; exact Calls.quiet_of (C.out _)))
 go_wp2
 go_ret
 exact ⟨by rw [H.out]; exact congrArg (fun z => Ending.returned (.string z)) (add_one_byte l [c]), _, rfl⟩
def val_decimal.f (a0 : Int) : Option (ByteArray) := if a0.natAbs < 10 ^ 18 then some ⟨(decL a0).toArray⟩ else none
theorem val_decimal.calls (a0 : Int) (r : ByteArray) (w : World) (h : val_decimal.f a0 = some r) :
  Calls Tryz.prog 98 #[.int .i64 a0] w fun e w' => e = .returned (.string r) ∧ Below w.heap.size w w' := by
 unfold val_decimal.f at h
 split at h
 rotate_left
 ·cases h
 rename_i hb
 obtain rfl := Option.some.inj h
 by_cases hn : a0 < 0
 rotate_left
 ·obtain ⟨m, rfl⟩ := Int.eq_ofNat_of_zero_le (show 0 ≤ a0 by omega)
  refine (dec_nat m w (by omega)).mono ?_
  rintro e w1 ⟨rfl, n, rfl⟩
  refine ⟨?_, Drawn0.below ⟨⟨n, rfl⟩⟩⟩
  unfold decL
  rw [if_neg hn, Int.toNat_natCast]
 obtain ⟨m, rfl⟩ : ∃ m : Nat, a0 = -(m : Int) := ⟨a0.natAbs, by omega⟩
 have hm : m < 10 ^ 18 := by omega
 have hw : wrap64 (m : Int) = m := by unfold wrap64; omega
 have C : Aside0 (∀ W, Calls Tryz.prog 98 #[.int .i64 (wrap64 (m : Int))] W fun e w' => e = .returned (.string ⟨(dig10 m).toArray⟩) ∧ ∃ n, w' = W.drewN n) := ⟨fun W => by rw [hw]; exact dec_nat m W hm⟩
 have hl : Aside0 ((dig10 m).length ≤ 18) := ⟨dig10_len _ 17 (by omega)⟩
 have H : Aside0 (decL (-(m : Int)) = 45 :: dig10 m) := ⟨by unfold decL; rw [if_pos hn, show (-(m : Int)).natAbs = m by omega]⟩
 have hm0 : 0 < (m : Int) := by omega
 clear hm hb hn h hw
 generalize dig10 m = l at H C hl
 have hl2 : l.length ≤ 9223372036854775806 := by have := hl.out; omega
 have hsz : (⟨l.toArray⟩ : ByteArray).size = l.length := by simp [ByteArray.size]
 go_enter Tryz.func98, Tryz.ntmps98
 go_wp2_with (go_at_call 98; refine (C.out _).mono ?_; rintro e w1 ⟨rfl, n, rfl⟩)
 go_ret
 exact ⟨by rw [H.out]; exact congrArg (fun z => Ending.returned (.string z)) (add_one_byte [45] l), Drawn0.below ⟨⟨n, rfl⟩⟩⟩
end Go.Proofs.YtldpdidlfbphcaaGreatDoor.P
end
section
namespace Go.Proofs.YtldpdidlfbphcaaGreatDoor.P
open Go.RowKit Go.Proofs.YtldpdidlfbphcaaGreatDoorW.PrintWords Go.Proofs.YtldpdidlfbphcaaGreatDoorW.PrintLast Go.Proofs.YtldpdidlfbphcaaGreatDoorW.PrintMore
open Go.ChangeMaps Go.ChangeShapes Go.WideShapes Go.MapKept
def kindAgg (c lo hi : Int) (wf rf : Nat) : Value := .agg #[.int .u8 c, .int .i64 lo, .int .i64 hi, .func (.func wf) #[] #[], .func (.func rf) #[] #[]]
def kE1 : MapEntry := ⟨.int .i64 1, kindAgg 76 1 1 125 126, 0⟩
def kE2 : MapEntry := ⟨.int .i64 2, kindAgg 78 1 15 127 128, 1⟩
def kE3 : MapEntry := ⟨.int .i64 3, kindAgg 68 8 8 129 130, 2⟩
def kE4 : MapEntry := ⟨.int .i64 4, kindAgg 67 1 254 131 132, 3⟩
def kE5 : MapEntry := ⟨.int .i64 5, kindAgg 77 8 8 133 134, 4⟩
def kindsEs : Array MapEntry := #[kE1, kE2, kE3, kE4, kE5]
theorem run_ins (W : World) (r : Nat) (es : Array MapEntry) (clock : Nat) (n : Int) (v : Value) (hb : W.heap[r]? = some (.map es clock)) (h1 : Instr.findNow (.int .i64) (.int .i64 n) es.toList 0 = some none) :
  (Instr.mapUpdate 104 (.map (some r)) (.int .i64 n) v).run Tryz.prog W = .ok () (setBlock W r (.map (es.push ⟨.int .i64 n, v, clock⟩) (clock + 1))) := by
 have ht := Tryz.underlying104
 have hk := Tryz.underlying3
 have hkey : IsKey (.int .i64) (.int .i64 n) := rfl
 simp [Instr.mapUpdate, run_underlying ht, MapKept.run_getObj_map hb, run_checkKey hk hkey, run_findKey hk h1, MapKept.run_setObj_map _ hb, Result.andThen, setBlock]
theorem ins_step {w W : World} {r : Nat} {es : Array MapEntry} {clock : Nat} (n : Int) (v : Value) (hb : W.heap[r]? = some (.map es clock)) (h1 : Instr.findNow (.int .i64) (.int .i64 n) es.toList 0 = some none) (hB : Below w.heap.size w W) (hr : w.heap.size ≤ r) :
  ∃ W', (Instr.mapUpdate 104 (.map (some r)) (.int .i64 n) v).run Tryz.prog W = .ok () W' ∧ W'.heap[r]? = some (.map (es.push ⟨.int .i64 n, v, clock⟩) (clock + 1)) ∧ Below w.heap.size w W' := by
 refine ⟨_, run_ins W r es clock n v hb h1, heap_setBlock_same hb _, hB.trans ⟨rfl, rfl, rfl, ?_, fun i hi => heap_setBlock_other hb _ (by omega)⟩⟩
 simp [setBlock]
theorem table_kinds (w : World) : Calls Tryz.prog 89 #[] w fun e w' => ∃ r, e = .returned (.map (some r)) ∧ w'.heap[r]? = some (.map kindsEs 5) ∧ Below w.heap.size w w' := by
 have hmm := @run_makeMap Tryz.prog 104
 have hB0 := below_alloc (Below.refl w.heap.size w) (.map #[] 0)
 have hb0 := blk_new w (.map #[] 0)
 obtain ⟨W1, h1, b1, B1⟩ := ins_step 1 (kindAgg 76 1 1 125 126) hb0 rfl hB0 (Nat.le_refl _)
 obtain ⟨W2, h2, b2, B2⟩ := ins_step 2 (kindAgg 78 1 15 127 128) b1 rfl B1 (Nat.le_refl _)
 obtain ⟨W3, h3, b3, B3⟩ := ins_step 3 (kindAgg 68 8 8 129 130) b2 rfl B2 (Nat.le_refl _)
 obtain ⟨W4, h4, b4, B4⟩ := ins_step 4 (kindAgg 67 1 254 131 132) b3 rfl B3 (Nat.le_refl _)
 obtain ⟨W5, h5, b5, B5⟩ := ins_step 5 (kindAgg 77 8 8 133 134) b4 rfl B4 (Nat.le_refl _)
 have HB := Z0 B5
 have HM : Aside0 (W5.heap[w.heap.size]? = some (.map kindsEs 5)) := ⟨b5⟩
 clear hB0 hb0 b1 b2 b3 b4 b5 B1 B2 B3 B4 B5
 unfold kindAgg at h1 h2 h3 h4 h5
 go_enter Tryz.func89, Tryz.ntmps89
 go_wp2
 go_ret
 exact ⟨_, rfl, HM.out, HB.out⟩
end Go.Proofs.YtldpdidlfbphcaaGreatDoor.P
end
section
namespace Go.Proofs
open Go.Shelf
open Go.RowKit in
def Tryz.lays105_ren : Go.Shelf.Ren := ⟨fun | 105 => 99 | 212 => 142 | 99 => 54 | 165 => 143 | 166 => 111 | 170 => 144 | 169 => 112 | 263 => 163 | 264 => 164 | 206 => 100 | 240 => 149 | 241 => 165 | 276 => 166 | 277 => 176 | n => n, fun | 9 => 9 | 3 => 3 | 4 => 4 | 20 => 20 | 0 => 0 | 46 => 151 | 109 => 152 | 5 => 5 | 72 => 126 | 76 => 129 | 51 => 166 | 146 => 167 | 53 => 169 | 148 => 170 | 70 => 124 | 37 => 37 | 75 => 128 | 127 => 157 | 164 => 172 | 80 => 131 | n => n, fun | n => n⟩
theorem Tryz.lays105 : Go.Proofs.Lays.n105 Tryz.prog Tryz.lays105_ren := {
 mixed := by kernel_rfl
 f99 := Tryz.func54.trans (congrArg some (by kernel_rfl))
 f105 := Tryz.func99.trans (congrArg some (by kernel_rfl))
 f165 := Tryz.func143.trans (congrArg some (by kernel_rfl))
 f166 := Tryz.func111.trans (congrArg some (by kernel_rfl))
 f169 := Tryz.func112.trans (congrArg some (by kernel_rfl))
 f170 := Tryz.func144.trans (congrArg some (by kernel_rfl))
 f206 := Tryz.func100.trans (congrArg some (by kernel_rfl))
 f212 := Tryz.func142.trans (congrArg some (by kernel_rfl))
 f240 := Tryz.func149.trans (congrArg some (by kernel_rfl))
 f241 := Tryz.func165.trans (congrArg some (by kernel_rfl))
 f263 := Tryz.func163.trans (congrArg some (by kernel_rfl))
 f264 := Tryz.func164.trans (congrArg some (by kernel_rfl))
 f276 := Tryz.func166.trans (congrArg some (by kernel_rfl))
 f277 := Tryz.func176.trans (congrArg some (by kernel_rfl))
 t0 := Tryz.underlying0
 a0 := Tryz.isAgg0
 z0 := Tryz.sizeOf0
 v0 := Tryz.zeroValue0
 t3 := Tryz.underlying3
 a3 := Tryz.isAgg3
 z3 := Tryz.sizeOf3
 v3 := Tryz.zeroValue3
 t4 := Tryz.underlying4
 a4 := Tryz.isAgg4
 z4 := Tryz.sizeOf4
 v4 := Tryz.zeroValue4
 t5 := Tryz.underlying5
 a5 := Tryz.isAgg5
 z5 := Tryz.sizeOf5
 v5 := Tryz.zeroValue5
 t9 := Tryz.underlying9
 a9 := Tryz.isAgg9
 z9 := Tryz.sizeOf9
 v9 := Tryz.zeroValue9
 t20 := Tryz.underlying20
 a20 := Tryz.isAgg20
 z20 := Tryz.sizeOf20
 v20 := Tryz.zeroValue20
 t37 := Tryz.underlying37
 a37 := Tryz.isAgg37
 z37 := Tryz.sizeOf37
 v37 := Tryz.zeroValue37
 t46 := Tryz.underlying151
 a46 := Tryz.isAgg151
 z46 := Tryz.sizeOf151
 v46 := Tryz.zeroValue151
 t51 := Tryz.underlying166
 a51 := Tryz.isAgg166
 z51 := Tryz.sizeOf166
 v51 := Tryz.zeroValue166
 t53 := Tryz.underlying169
 a53 := Tryz.isAgg169
 z53 := Tryz.sizeOf169
 v53 := Tryz.zeroValue169
 t70 := Tryz.underlying124
 a70 := Tryz.isAgg124
 z70 := Tryz.sizeOf124
 v70 := Tryz.zeroValue124
 t72 := Tryz.underlying126
 a72 := Tryz.isAgg126
 z72 := Tryz.sizeOf126
 v72 := Tryz.zeroValue126
 t75 := Tryz.underlying128
 a75 := Tryz.isAgg128
 z75 := Tryz.sizeOf128
 v75 := Tryz.zeroValue128
 t76 := Tryz.underlying129
 a76 := Tryz.isAgg129
 z76 := Tryz.sizeOf129
 v76 := Tryz.zeroValue129
 t109 := Tryz.underlying152
 a109 := Tryz.isAgg152
 z109 := Tryz.sizeOf152
 v109 := Tryz.zeroValue152
 t127 := Tryz.underlying157
 a127 := Tryz.isAgg157
 z127 := Tryz.sizeOf157
 v127 := Tryz.zeroValue157
 t146 := Tryz.underlying167
 a146 := Tryz.isAgg167
 z146 := Tryz.sizeOf167
 v146 := Tryz.zeroValue167
 t148 := Tryz.underlying170
 a148 := Tryz.isAgg170
 z148 := Tryz.sizeOf170
 v148 := Tryz.zeroValue170
 t164 := Tryz.underlying172
 a164 := Tryz.isAgg172
 z164 := Tryz.sizeOf172
 v164 := Tryz.zeroValue172 }
theorem Tryz.Builder_Extra_105 : Builder.Extra Tryz.prog Tryz.lays105_ren := {
 sizeBuilder := by kernel_rfl
 liesBuilder := by kernel_rfl
 t5 := Tryz.underlying5
 a5 := Tryz.isAgg5
 z5 := Tryz.sizeOf5
 v5 := Tryz.zeroValue5
 infoByte := by kernel_rfl
 cellsByte := by kernel_rfl
 sizeByte := by kernel_rfl
 neB5 := by decide }
open Go.RowKit Go.Lib in
theorem Tryz.strings_Repeat (s : ByteArray) (c : Nat) (w : World) (hc : c ≤ 9223372036854775807) (hlen : s.size * c ≤ 140737488355328) :
  Calls Tryz.prog 99 #[.string s, .int .i64 c] w fun e w' => e = .returned (.string ⟨(Lib.repeatL s.data.toList c).toArray⟩) ∧ Below w.heap.size w w' := Any.strings_Repeat Tryz.lays105 Tryz.Builder_Extra_105 s c w hc hlen
def Tryz.l160_ren : Go.Shelf.Ren := ⟨fun | 160 => 135 | 232 => 92 | 231 => 157 | 227 => 93 | 234 => 94 | 233 => 158 | 236 => 95 | 235 => 159 | 228 => 137 | 271 => 138 | 151 => 139 | 197 => 161 | 120 => 160 | 152 => 162 | 260 => 171 | 137 => 172 | 119 => 173 | 224 => 174 | 225 => 175 | 217 => 182 | 266 => 184 | n => n, fun | 9 => 9 | 4 => 4 | 3 => 3 | 5 => 5 | 117 => 111 | 116 => 110 | 0 => 0 | 124 => 114 | 21 => 21 | 105 => 143 | 46 => 151 | 119 => 180 | 139 => 183 | 138 => 182 | n => n, fun | 3 => 0 | 4 => 1 | n => n⟩
theorem Tryz.l160 : Go.Proofs.Lays.n160 Tryz.prog Tryz.l160_ren := {
 mixed := by kernel_rfl
 f119 := Tryz.func173.trans (congrArg some (by kernel_rfl))
 f120 := Tryz.func160.trans (congrArg some (by kernel_rfl))
 f137 := Tryz.func172.trans (congrArg some (by kernel_rfl))
 f151 := Tryz.func139.trans (congrArg some (by kernel_rfl))
 f152 := Tryz.func162.trans (congrArg some (by kernel_rfl))
 f160 := Tryz.func135.trans (congrArg some (by kernel_rfl))
 f197 := Tryz.func161.trans (congrArg some (by kernel_rfl))
 f217 := Tryz.func182.trans (congrArg some (by kernel_rfl))
 f224 := Tryz.func174.trans (congrArg some (by kernel_rfl))
 f225 := Tryz.func175.trans (congrArg some (by kernel_rfl))
 f227 := Tryz.func93.trans (congrArg some (by kernel_rfl))
 f228 := Tryz.func137.trans (congrArg some (by kernel_rfl))
 f231 := Tryz.func157.trans (congrArg some (by kernel_rfl))
 f232 := Tryz.func92.trans (congrArg some (by kernel_rfl))
 f233 := Tryz.func158.trans (congrArg some (by kernel_rfl))
 f234 := Tryz.func94.trans (congrArg some (by kernel_rfl))
 f235 := Tryz.func159.trans (congrArg some (by kernel_rfl))
 f236 := Tryz.func95.trans (congrArg some (by kernel_rfl))
 f260 := Tryz.func171.trans (congrArg some (by kernel_rfl))
 f266 := Tryz.func184.trans (congrArg some (by kernel_rfl))
 f271 := Tryz.func138.trans (congrArg some (by kernel_rfl))
 t0 := Tryz.underlying0
 a0 := Tryz.isAgg0
 z0 := Tryz.sizeOf0
 v0 := Tryz.zeroValue0
 t3 := Tryz.underlying3
 a3 := Tryz.isAgg3
 z3 := Tryz.sizeOf3
 v3 := Tryz.zeroValue3
 t4 := Tryz.underlying4
 a4 := Tryz.isAgg4
 z4 := Tryz.sizeOf4
 v4 := Tryz.zeroValue4
 t5 := Tryz.underlying5
 a5 := Tryz.isAgg5
 z5 := Tryz.sizeOf5
 v5 := Tryz.zeroValue5
 t9 := Tryz.underlying9
 a9 := Tryz.isAgg9
 z9 := Tryz.sizeOf9
 v9 := Tryz.zeroValue9
 t21 := Tryz.underlying21
 a21 := Tryz.isAgg21
 z21 := Tryz.sizeOf21
 v21 := Tryz.zeroValue21
 t46 := Tryz.underlying151
 a46 := Tryz.isAgg151
 z46 := Tryz.sizeOf151
 v46 := Tryz.zeroValue151
 t105 := Tryz.underlying143
 a105 := Tryz.isAgg143
 z105 := Tryz.sizeOf143
 v105 := Tryz.zeroValue143
 t116 := Tryz.underlying110
 a116 := Tryz.isAgg110
 z116 := Tryz.sizeOf110
 t117 := Tryz.underlying111
 a117 := Tryz.isAgg111
 z117 := Tryz.sizeOf111
 v117 := Tryz.zeroValue111
 t119 := Tryz.underlying180
 a119 := Tryz.isAgg180
 z119 := Tryz.sizeOf180
 t124 := Tryz.underlying114
 a124 := Tryz.isAgg114
 z124 := Tryz.sizeOf114
 v124 := Tryz.zeroValue114
 t138 := Tryz.underlying182
 a138 := Tryz.isAgg182
 z138 := Tryz.sizeOf182
 v138 := Tryz.zeroValue182
 t139 := Tryz.underlying183
 a139 := Tryz.isAgg183
 z139 := Tryz.sizeOf183
 v139 := Tryz.zeroValue183
 g3 := by kernel_rfl
 g4 := by kernel_rfl }
def Tryz.l161_ren : Go.Shelf.Ren := ⟨fun | 161 => 168 | 231 => 157 | 227 => 93 | 233 => 158 | 235 => 159 | 228 => 137 | 197 => 161 | 151 => 139 | 260 => 171 | 152 => 162 | 137 => 172 | 119 => 173 | 224 => 174 | 225 => 175 | 217 => 182 | 266 => 184 | n => n, fun | 9 => 9 | 4 => 4 | 3 => 3 | 5 => 5 | 117 => 111 | 116 => 110 | 0 => 0 | 124 => 114 | 105 => 143 | 21 => 21 | 119 => 180 | 46 => 151 | 139 => 183 | 138 => 182 | n => n, fun | 3 => 0 | 4 => 1 | n => n⟩
theorem Tryz.l161 : Go.Proofs.Lays.n161 Tryz.prog Tryz.l161_ren := {
 mixed := by kernel_rfl
 f119 := Tryz.func173.trans (congrArg some (by kernel_rfl))
 f137 := Tryz.func172.trans (congrArg some (by kernel_rfl))
 f151 := Tryz.func139.trans (congrArg some (by kernel_rfl))
 f152 := Tryz.func162.trans (congrArg some (by kernel_rfl))
 f161 := Tryz.func168.trans (congrArg some (by kernel_rfl))
 f197 := Tryz.func161.trans (congrArg some (by kernel_rfl))
 f217 := Tryz.func182.trans (congrArg some (by kernel_rfl))
 f224 := Tryz.func174.trans (congrArg some (by kernel_rfl))
 f225 := Tryz.func175.trans (congrArg some (by kernel_rfl))
 f227 := Tryz.func93.trans (congrArg some (by kernel_rfl))
 f228 := Tryz.func137.trans (congrArg some (by kernel_rfl))
 f231 := Tryz.func157.trans (congrArg some (by kernel_rfl))
 f233 := Tryz.func158.trans (congrArg some (by kernel_rfl))
 f235 := Tryz.func159.trans (congrArg some (by kernel_rfl))
 f260 := Tryz.func171.trans (congrArg some (by kernel_rfl))
 f266 := Tryz.func184.trans (congrArg some (by kernel_rfl))
 t0 := Tryz.underlying0
 a0 := Tryz.isAgg0
 z0 := Tryz.sizeOf0
 v0 := Tryz.zeroValue0
 t3 := Tryz.underlying3
 a3 := Tryz.isAgg3
 z3 := Tryz.sizeOf3
 v3 := Tryz.zeroValue3
 t4 := Tryz.underlying4
 a4 := Tryz.isAgg4
 z4 := Tryz.sizeOf4
 v4 := Tryz.zeroValue4
 t5 := Tryz.underlying5
 a5 := Tryz.isAgg5
 z5 := Tryz.sizeOf5
 v5 := Tryz.zeroValue5
 t9 := Tryz.underlying9
 a9 := Tryz.isAgg9
 z9 := Tryz.sizeOf9
 v9 := Tryz.zeroValue9
 t21 := Tryz.underlying21
 a21 := Tryz.isAgg21
 z21 := Tryz.sizeOf21
 v21 := Tryz.zeroValue21
 t46 := Tryz.underlying151
 a46 := Tryz.isAgg151
 z46 := Tryz.sizeOf151
 v46 := Tryz.zeroValue151
 t105 := Tryz.underlying143
 a105 := Tryz.isAgg143
 z105 := Tryz.sizeOf143
 v105 := Tryz.zeroValue143
 t116 := Tryz.underlying110
 a116 := Tryz.isAgg110
 z116 := Tryz.sizeOf110
 t117 := Tryz.underlying111
 a117 := Tryz.isAgg111
 z117 := Tryz.sizeOf111
 v117 := Tryz.zeroValue111
 t119 := Tryz.underlying180
 a119 := Tryz.isAgg180
 z119 := Tryz.sizeOf180
 t124 := Tryz.underlying114
 a124 := Tryz.isAgg114
 z124 := Tryz.sizeOf114
 v124 := Tryz.zeroValue114
 t138 := Tryz.underlying182
 a138 := Tryz.isAgg182
 z138 := Tryz.sizeOf182
 v138 := Tryz.zeroValue182
 t139 := Tryz.underlying183
 a139 := Tryz.isAgg183
 z139 := Tryz.sizeOf183
 v139 := Tryz.zeroValue183
 g3 := by kernel_rfl
 g4 := by kernel_rfl }
def Tryz.l162_ren : Go.Shelf.Ren := ⟨fun | 162 => 51 | 232 => 92 | 227 => 93 | 234 => 94 | 236 => 95 | 228 => 137 | 271 => 138 | 151 => 139 | 120 => 160 | 197 => 161 | 152 => 162 | 260 => 171 | 137 => 172 | 119 => 173 | 224 => 174 | 225 => 175 | 217 => 182 | 266 => 184 | n => n, fun | 9 => 9 | 4 => 4 | 3 => 3 | 5 => 5 | 117 => 111 | 116 => 110 | 0 => 0 | 124 => 114 | 21 => 21 | 105 => 143 | 46 => 151 | 119 => 180 | 139 => 183 | 138 => 182 | n => n, fun | 3 => 0 | 4 => 1 | n => n⟩
theorem Tryz.l162 : Go.Proofs.Lays.n162 Tryz.prog Tryz.l162_ren := {
 mixed := by kernel_rfl
 f119 := Tryz.func173.trans (congrArg some (by kernel_rfl))
 f120 := Tryz.func160.trans (congrArg some (by kernel_rfl))
 f137 := Tryz.func172.trans (congrArg some (by kernel_rfl))
 f151 := Tryz.func139.trans (congrArg some (by kernel_rfl))
 f152 := Tryz.func162.trans (congrArg some (by kernel_rfl))
 f162 := Tryz.func51.trans (congrArg some (by kernel_rfl))
 f197 := Tryz.func161.trans (congrArg some (by kernel_rfl))
 f217 := Tryz.func182.trans (congrArg some (by kernel_rfl))
 f224 := Tryz.func174.trans (congrArg some (by kernel_rfl))
 f225 := Tryz.func175.trans (congrArg some (by kernel_rfl))
 f227 := Tryz.func93.trans (congrArg some (by kernel_rfl))
 f228 := Tryz.func137.trans (congrArg some (by kernel_rfl))
 f232 := Tryz.func92.trans (congrArg some (by kernel_rfl))
 f234 := Tryz.func94.trans (congrArg some (by kernel_rfl))
 f236 := Tryz.func95.trans (congrArg some (by kernel_rfl))
 f260 := Tryz.func171.trans (congrArg some (by kernel_rfl))
 f266 := Tryz.func184.trans (congrArg some (by kernel_rfl))
 f271 := Tryz.func138.trans (congrArg some (by kernel_rfl))
 t0 := Tryz.underlying0
 a0 := Tryz.isAgg0
 z0 := Tryz.sizeOf0
 v0 := Tryz.zeroValue0
 t3 := Tryz.underlying3
 a3 := Tryz.isAgg3
 z3 := Tryz.sizeOf3
 v3 := Tryz.zeroValue3
 t4 := Tryz.underlying4
 a4 := Tryz.isAgg4
 z4 := Tryz.sizeOf4
 v4 := Tryz.zeroValue4
 t5 := Tryz.underlying5
 a5 := Tryz.isAgg5
 z5 := Tryz.sizeOf5
 v5 := Tryz.zeroValue5
 t9 := Tryz.underlying9
 a9 := Tryz.isAgg9
 z9 := Tryz.sizeOf9
 v9 := Tryz.zeroValue9
 t21 := Tryz.underlying21
 a21 := Tryz.isAgg21
 z21 := Tryz.sizeOf21
 v21 := Tryz.zeroValue21
 t46 := Tryz.underlying151
 a46 := Tryz.isAgg151
 z46 := Tryz.sizeOf151
 v46 := Tryz.zeroValue151
 t105 := Tryz.underlying143
 a105 := Tryz.isAgg143
 z105 := Tryz.sizeOf143
 v105 := Tryz.zeroValue143
 t116 := Tryz.underlying110
 a116 := Tryz.isAgg110
 z116 := Tryz.sizeOf110
 t117 := Tryz.underlying111
 a117 := Tryz.isAgg111
 z117 := Tryz.sizeOf111
 v117 := Tryz.zeroValue111
 t119 := Tryz.underlying180
 a119 := Tryz.isAgg180
 z119 := Tryz.sizeOf180
 t124 := Tryz.underlying114
 a124 := Tryz.isAgg114
 z124 := Tryz.sizeOf114
 v124 := Tryz.zeroValue114
 t138 := Tryz.underlying182
 a138 := Tryz.isAgg182
 z138 := Tryz.sizeOf182
 v138 := Tryz.zeroValue182
 t139 := Tryz.underlying183
 a139 := Tryz.isAgg183
 z139 := Tryz.sizeOf183
 v139 := Tryz.zeroValue183
 g3 := by kernel_rfl
 g4 := by kernel_rfl }
end Go.Proofs
end
section
namespace Go.Proofs.YtldpdidlfbphcaaGreatDoor.P
open Go.RowKit Go.Proofs.YtldpdidlfbphcaaGreatDoorW.PrintWords Go.Proofs.YtldpdidlfbphcaaGreatDoorW.PrintLast Go.Proofs.YtldpdidlfbphcaaGreatDoorW.PrintMore
def asciiB (c : ByteArray) : Bool := c.data.toList.all (fun b => decide (b.toNat < 128))
theorem asciiB_at {c : ByteArray} (h : asciiB c = true) : ∀ (j : Nat) b, c.data.toList[j]? = some b → b.toNat < 128 := Go.Proofs.ascii_of_all h
def strings_TrimRight.f (a0 : ByteArray) (a1 : ByteArray) : Option (ByteArray) :=
 if a0.size ≤ 9223372036854775807 ∧ a1.size < 4294967281 ∧ asciiB a1 = true then some ⟨(Lib.trimRightS a0.data.toList a1.data.toList).toArray⟩ else none
theorem strings_TrimRight.calls (a0 : ByteArray) (a1 : ByteArray) (r : ByteArray) (w : World) (h : strings_TrimRight.f a0 a1 = some r) :
  Calls Tryz.prog 51 #[.string a0, .string a1] w fun e w' => e = .returned (.string r) ∧ Below w.heap.size w w' := by
 unfold strings_TrimRight.f at h
 split at h
 rotate_left
 ·cases h
 rename_i hc
 obtain rfl := Option.some.inj h
 exact Go.Proofs.Any.strings_TrimRight_laid Tryz.l162 (by kernel_rfl) a0 a1 w hc.1 hc.2.1 (asciiB_at hc.2.2)
def strings_TrimLeft.f (a0 : ByteArray) (a1 : ByteArray) : Option (ByteArray) :=
 if a1.size < 4294967281 ∧ asciiB a1 = true then some ⟨(Lib.trimLeftS a0.data.toList a1.data.toList).toArray⟩ else none
theorem strings_TrimLeft.calls (a0 : ByteArray) (a1 : ByteArray) (r : ByteArray) (w : World) (h : strings_TrimLeft.f a0 a1 = some r) :
  Calls Tryz.prog 168 #[.string a0, .string a1] w fun e w' => e = .returned (.string r) ∧ Below w.heap.size w w' := by
 unfold strings_TrimLeft.f at h
 split at h
 rotate_left
 ·cases h
 rename_i hc
 obtain rfl := Option.some.inj h
 exact Go.Proofs.Any.strings_TrimLeft_laid Tryz.l161 (by kernel_rfl) a0 a1 w hc.1 (asciiB_at hc.2)
def strings_Trim.f (a0 : ByteArray) (a1 : ByteArray) : Option (ByteArray) :=
 if a0.size ≤ 9223372036854775807 ∧ a1.size < 4294967281 ∧ asciiB a1 = true then some ⟨(Lib.trimS a0.data.toList a1.data.toList).toArray⟩ else none
theorem strings_Trim.calls (a0 : ByteArray) (a1 : ByteArray) (r : ByteArray) (w : World) (h : strings_Trim.f a0 a1 = some r) :
  Calls Tryz.prog 135 #[.string a0, .string a1] w fun e w' => e = .returned (.string r) ∧ Below w.heap.size w w' := by
 unfold strings_Trim.f at h
 split at h
 rotate_left
 ·cases h
 rename_i hc
 obtain rfl := Option.some.inj h
 exact Go.Proofs.Any.strings_Trim_laid Tryz.l160 (by kernel_rfl) a0 a1 w hc.1 hc.2.1 (asciiB_at hc.2.2)
def strings_Repeat.f (a0 : ByteArray) (a1 : Int) : Option (ByteArray) :=
 if 0 ≤ a1 ∧ a1 ≤ 140737488355328 ∧ a0.size * a1.toNat ≤ 140737488355328 then some ⟨(Lib.repeatL a0.data.toList a1.toNat).toArray⟩ else none
theorem strings_Repeat.calls (a0 : ByteArray) (a1 : Int) (r : ByteArray) (w : World) (h : strings_Repeat.f a0 a1 = some r) :
  Calls Tryz.prog 99 #[.string a0, .int .i64 a1] w fun e w' => e = .returned (.string r) ∧ Below w.heap.size w w' := by
 unfold strings_Repeat.f at h
 split at h
 rotate_left
 ·cases h
 rename_i hc
 obtain rfl := Option.some.inj h
 obtain ⟨n, rfl⟩ := Int.eq_ofNat_of_zero_le hc.1
 rw [Int.toNat_natCast] at hc
 rw [Int.toNat_natCast]
 exact Tryz.strings_Repeat a0 n w (by omega) hc.2.2
theorem Builder_WriteString (B b : Nat) (bs : List Value) (s : ByteArray) (w : World) (h : Lib.IsBuilderF 126 5 B b bs w) (hlen : bs.length + s.size ≤ 140737488355328) (hBw : B ≤ w.heap.size) :
  Calls Tryz.prog 111 #[.pointer (some ⟨b, 0, none⟩), .string s] w fun e w' => e = .returned (.tuple #[.int .i64 s.size, .nilIface]) ∧ (Lib.BuilderAtF 126 5 B b (.pointer (some ⟨b, 0, none⟩)) (bs ++ Lib.strCells s) w' ∧ Below B w w') :=
 Go.Proofs.Any.Builder_WriteString_f (ρ := Tryz.lays105_ren) { Tryz.lays105 with } Tryz.Builder_Extra_105 B b bs s w h hlen hBw
section
attribute [local go_sem] max2_int min2_int max_two min_two max_three min_three max_four min_four
def table_isName.j0 : Nat → Bool → Option (Bool)
 | 0, _ => none
 | k + 1, x2 => some x2
def table_isName.f (k : Nat) (a0 : ByteArray) : Option (Bool) := if a0.toList = ([] : List UInt8) then (table_isName.j0 k false) else (if (a0.size : Int) ≤ 10 then ((strings_Trim.f a0 (⟨#[65, 66, 67, 68, 69, 70, 71, 72, 73, 74, 75, 76, 77, 78, 79, 80, 81, 82, 83, 84, 85, 86, 87, 88, 89, 90, 48, 49, 50, 51, 52, 53, 54, 55, 56, 57, 95]⟩ : ByteArray)).bind fun t571 => (if t571.toList = ([] : List UInt8) then (if 0 < (a0.size : Int) then (if (bt a0 0) ≥ 65 then (table_isName.j0 k (decide ((bt a0 0) ≤ 90))) else (table_isName.j0 k false)) else (none)) else (table_isName.j0 k false))) else (table_isName.j0 k false))
theorem table_isName.mono_l : ∀ k, (∀ y0, LeO (table_isName.j0 k y0) (table_isName.j0 (k + 1) y0))
 | 0 => fun _ r h => by simp [table_isName.j0] at h
 | k + 1 => by
  have ih0 := table_isName.mono_l k
  ·intro y0
   unfold table_isName.j0
   repeat' first
   | (with_reducible exact ih0 _)
   | (with_reducible exact LeO.refl _)
   | (with_reducible exact LeO.none _)
   | (with_reducible refine LeO.ite ?_ ?_)
   | (with_reducible refine LeO.bind ?_ (fun _ => ?_))
theorem table_isName.mono : ∀ a0 k, LeO (table_isName.f k a0) (table_isName.f (k + 1) a0) := by
 intro a0 k
 have ih0 := table_isName.mono_l k
 unfold table_isName.f
 repeat' first
   | (with_reducible exact ih0 _)
   | (with_reducible exact LeO.refl _)
   | (with_reducible exact LeO.none _)
   | (with_reducible refine LeO.ite ?_ ?_)
   | (with_reducible refine LeO.bind ?_ (fun _ => ?_))
theorem table_isName.calls (k : Nat) (a0 : ByteArray) (r : Bool) (w : World) (h : table_isName.f k a0 = some r) :
  Calls Tryz.prog 90 #[.string a0] w fun e w' => e = .returned (.bool r) ∧ Below w.heap.size w w' := by
 have HB := Z0 (Below.refl w.heap.size w)
 unfold table_isName.f at h
 have H := h
 clear h
 have HC2 := Z0 H
 clear H
 go_enter Tryz.func90, Tryz.ntmps90
 go_upto_region 1 with (fail)
 go_cut [2] (fun v2 wc => ∃ (kq : Nat) (x2_1 : Bool), v2 = .bool x2_1 ∧ Aside0 (table_isName.j0 kq x2_1 = some r) ∧ Aside0 (kq ≤ k) ∧ Aside0 (Below w.heap.size w wc))
 case first =>
  have H := HC2.out
  clear HC2
  by_cases c3 : a0.toList = ([] : List UInt8)
  ·rw [if_pos c3] at H
   have c3b0 : (a0.toList == ([] : List UInt8)) = true := beq_iff_eq.mpr c3
   have c3b1 : (a0.toList != ([] : List UInt8)) = false := bne_eq_false_iff_eq.mpr c3
   clear c3
   (first | rw [c3b0] | (simp only [i64_w, i32_w]; rw [c3b0]) | skip)
   have H' := Z0 H
   clear H
   go_wp2
   go_meet
   case rel => exact ⟨_, (false), V2, H', ⟨by first | omega | exact Nat.le_refl _⟩, ⟨V0⟩⟩
  rw [if_neg c3] at H
  have c3b0 : (a0.toList == ([] : List UInt8)) = false := beq_eq_false_iff_ne.mpr c3
  have c3b1 : (a0.toList != ([] : List UInt8)) = true := bne_iff_ne.mpr c3
  (first | rw [c3b0] | (simp only [i64_w, i32_w]; rw [c3b0]) | skip)
  by_cases c4 : (a0.size : Int) ≤ 10
  rotate_left
  ·rw [if_neg c4] at H
   have c4b0 : decide ((a0.size : Int) ≤ 10) = false := decide_eq_false c4
   have c4b1 : decide (a0.size ≤ 10) = false := decide_eq_false (by omega)
   clear c4
   have H' := Z0 H
   clear H
   go_wp2
   go_meet
   case rel => exact ⟨_, (false), V2, H', ⟨by first | omega | exact Nat.le_refl _⟩, ⟨V0⟩⟩
  rw [if_pos c4] at H
  have c4b0 : decide ((a0.size : Int) ≤ 10) = true := decide_eq_true c4
  have c4b1 : decide (a0.size ≤ 10) = true := decide_eq_true (by omega)
  clear c4
  replace H := Option.bind_eq_some_iff.mp H
  obtain ⟨t571, A50, H⟩ := H
  replace H : (if t571.toList = ([] : List UInt8) then (if 0 < (a0.size : Int) then (if (bt a0 0) ≥ 65 then (table_isName.j0 k (decide ((bt a0 0) ≤ 90))) else (table_isName.j0 k false)) else (none)) else (table_isName.j0 k false)) = some r := H
  have A5 := Z0 A50
  clear A50
  by_cases c6 : t571.toList = ([] : List UInt8)
  rotate_left
  ·rw [if_neg c6] at H
   have c6b0 : (t571.toList == ([] : List UInt8)) = false := beq_eq_false_iff_ne.mpr c6
   have c6b1 : (t571.toList != ([] : List UInt8)) = true := bne_iff_ne.mpr c6
   have H' := Z0 H
   clear H
   go_wp2_with (first | (go_at_call 135; (with_reducible refine (strings_Trim.calls a0 (⟨#[65, 66, 67, 68, 69, 70, 71, 72, 73, 74, 75, 76, 77, 78, 79, 80, 81, 82, 83, 84, 85, 86, 87, 88, 89, 90, 48, 49, 50, 51, 52, 53, 54, 55, 56, 57, 95]⟩ : ByteArray) t571 _ A5.out).mono ?_); rintro e w13 ⟨rfl, hb⟩; replace HB := Z0 (Z1 HB.out hb)))
   go_meet
   case rel => exact ⟨_, (false), V2, H', ⟨by first | omega | exact Nat.le_refl _⟩, ⟨V0⟩⟩
  rw [if_pos c6] at H
  have c6b0 : (t571.toList == ([] : List UInt8)) = true := beq_iff_eq.mpr c6
  have c6b1 : (t571.toList != ([] : List UInt8)) = false := bne_eq_false_iff_eq.mpr c6
  clear c6
  by_cases c7 : 0 < (a0.size : Int)
  rotate_left
  ·rw [if_neg c7] at H
   exact absurd H (by simp)
  rw [if_pos c7] at H
  have c7b0 : decide (0 < (a0.size : Int)) = true := decide_eq_true c7
  have c7b1 : decide (0 < a0.size) = true := decide_eq_true (by omega)
  clear c7
  by_cases c9 : (bt a0 0) ≥ 65
  rotate_left
  ·rw [if_neg c9] at H
   have c9b0 : decide (65 ≤ (bt a0 0)) = false := decide_eq_false c9
   clear c9
   have H' := Z0 H
   clear H
   go_wp2_with (first | (go_at_call 135; (with_reducible refine (strings_Trim.calls a0 (⟨#[65, 66, 67, 68, 69, 70, 71, 72, 73, 74, 75, 76, 77, 78, 79, 80, 81, 82, 83, 84, 85, 86, 87, 88, 89, 90, 48, 49, 50, 51, 52, 53, 54, 55, 56, 57, 95]⟩ : ByteArray) t571 _ A5.out).mono ?_); rintro e w12 ⟨rfl, hb⟩; replace HB := Z0 (Z1 HB.out hb); have p8 : 0 ≤ (0 : Int) := (by omega); have q8 : 0 < a0.size := (by have : (0 : Int) < (a0.size : Int) := of_decide_eq_true V3; omega); have hx8 : ∀ h : 0 < a0.size, ((a0[0]'h).toNat : Int) = bt a0 0 := bt_at a0 0; clear p8; have qi8 : (0 < (a0.size : Int)) = True := eq_true (of_decide_eq_true V3); replace q8 := eq_true q8))
   go_meet
   case rel => exact ⟨_, (false), V2, H', ⟨by first | omega | exact Nat.le_refl _⟩, ⟨V0⟩⟩
  rw [if_pos c9] at H
  have c9b0 : decide (65 ≤ (bt a0 0)) = true := decide_eq_true c9
  clear c9
  have H' := Z0 H
  clear H
  go_wp2_with (first | (go_at_call 135; (with_reducible refine (strings_Trim.calls a0 (⟨#[65, 66, 67, 68, 69, 70, 71, 72, 73, 74, 75, 76, 77, 78, 79, 80, 81, 82, 83, 84, 85, 86, 87, 88, 89, 90, 48, 49, 50, 51, 52, 53, 54, 55, 56, 57, 95]⟩ : ByteArray) t571 _ A5.out).mono ?_); rintro e w11 ⟨rfl, hb⟩; replace HB := Z0 (Z1 HB.out hb); have p8 : 0 ≤ (0 : Int) := (by omega); have q8 : 0 < a0.size := (by have : (0 : Int) < (a0.size : Int) := of_decide_eq_true V3; omega); have hx8 : ∀ h : 0 < a0.size, ((a0[0]'h).toNat : Int) = bt a0 0 := bt_at a0 0; clear p8; have qi8 : (0 < (a0.size : Int)) = True := eq_true (of_decide_eq_true V3); replace q8 := eq_true q8; have p10 : 0 ≤ (0 : Int) := (by omega); have q10 : 0 < a0.size := (by have : (0 : Int) < (a0.size : Int) := of_decide_eq_true V3; omega); have hx10 : ∀ h : 0 < a0.size, ((a0[0]'h).toNat : Int) = bt a0 0 := bt_at a0 0; clear p10; have qi10 : (0 < (a0.size : Int)) = True := eq_true (of_decide_eq_true V3); replace q10 := eq_true q10))
  go_meet
  case rel => exact ⟨_, (decide ((bt a0 0) ≤ 90)), V2, H', ⟨by first | omega | exact Nat.le_refl _⟩, ⟨V0⟩⟩
 case rest =>
  clear HC2
  obtain ⟨kq, x2_1, rfl, HA, HJ1, HB⟩ := hcut
  cases kq with
  | zero => exact absurd HA.out (by simp [table_isName.j0])
  | succ kj1 =>
   have H := HA.out
   clear HA
   simp only [table_isName.j0] at H
   obtain rfl := Option.some.inj H
   go_wp2
   go_ret
   exact ⟨rfl, V0⟩
end
end Go.Proofs.YtldpdidlfbphcaaGreatDoor.P
end
section
namespace Go.Proofs.YtldpdidlfbphcaaGreatDoor.P
open Go.RowKit Go.Proofs.YtldpdidlfbphcaaGreatDoorW.PrintWords Go.Proofs.YtldpdidlfbphcaaGreatDoorW.PrintLast Go.Proofs.YtldpdidlfbphcaaGreatDoorW.PrintMore
open Go.ChangeMaps Go.ChangeShapes Go.WideShapes Go.MapKept
def kindFound (n : Int) : Bool := decide (1 ≤ n ∧ n ≤ 5)
def kindLo (n : Int) : Int := if n = 3 ∨ n = 5 then 8 else if kindFound n then 1 else 0
def kindHi (n : Int) : Int := if n = 3 ∨ n = 5 then 8 else if n = 1 then 1 else if n = 2 then 15 else if n = 4 then 254 else 0
theorem run_look1 {W : World} {r i : Nat} {v : Value} {n : Int} (hb : W.heap[r]? = some (.map kindsEs 5)) (hf : Instr.findNow (.int .i64) (.int .i64 n) kindsEs.toList 0 = some (some (i, v))) (c : Bool) :
  (Instr.lookup 104 (.map (some r)) (.int .i64 n) c).run Tryz.prog W = .ok (if c then .tuple #[v, .bool true] else v) W := by
 have ht := Tryz.underlying104
 have hk := Tryz.underlying3
 have hkey : IsKey (.int .i64) (.int .i64 n) := rfl
 simp [Instr.lookup, run_underlying ht, MapKept.run_getObj_map hb, run_checkKey hk hkey, run_findKey hk hf, Result.andThen]
def kindZero : Value := .agg #[.int .u8 0, .int .i64 0, .int .i64 0, .nilFunc, .nilFunc]
theorem run_look0 {W : World} {r : Nat} {n : Int} (hb : W.heap[r]? = some (.map kindsEs 5)) (hf : Instr.findNow (.int .i64) (.int .i64 n) kindsEs.toList 0 = some none) (c : Bool) :
  (Instr.lookup 104 (.map (some r)) (.int .i64 n) c).run Tryz.prog W = .ok (if c then .tuple #[kindZero, .bool false] else kindZero) W := by
 have ht := Tryz.underlying104
 have hk := Tryz.underlying3
 have hkey : IsKey (.int .i64) (.int .i64 n) := rfl
 have hz : ∀ W, (zeroValue 102).run Tryz.prog W = .ok kindZero W := (Go.zero_of_info (n := 5) (by kernel_rfl)).1
 simp [Instr.lookup, run_underlying ht, MapKept.run_getObj_map hb, run_checkKey hk hkey, run_findKey hk hf, Result.andThen, hz]
def kindVal (n : Int) : Value := if n = 1 then kE1.val else if n = 2 then kE2.val else if n = 3 then kE3.val else if n = 4 then kE4.val else if n = 5 then kE5.val else kindZero
theorem run_look (W : World) (r : Nat) (hb : W.heap[r]? = some (.map kindsEs 5)) (n : Int) (c : Bool) :
  (Instr.lookup 104 (.map (some r)) (.int .i64 n) c).run Tryz.prog W = .ok (if c then .tuple #[kindVal n, .bool (kindFound n)] else kindVal n) W := by
 by_cases h1 : n = 1
 ·subst h1; exact run_look1 hb rfl c
 by_cases h2 : n = 2
 ·subst h2; exact run_look1 hb rfl c
 by_cases h3 : n = 3
 ·subst h3; exact run_look1 hb rfl c
 by_cases h4 : n = 4
 ·subst h4; exact run_look1 hb rfl c
 by_cases h5 : n = 5
 ·subst h5; exact run_look1 hb rfl c
 have hf : Instr.findNow (.int .i64) (.int .i64 n) kindsEs.toList 0 = some none := by
  simp [kindsEs, Instr.findNow, Instr.sameNow, kE1, kE2, kE3, kE4, kE5]
  rw [beq_eq_false_iff_ne.2 h1, beq_eq_false_iff_ne.2 h2, beq_eq_false_iff_ne.2 h3, beq_eq_false_iff_ne.2 h4, beq_eq_false_iff_ne.2 h5]
 have e3 : kindFound n = false := by unfold kindFound; simp; omega
 rw [run_look0 hb hf c, e3]
 unfold kindVal
 rw [if_neg h1, if_neg h2, if_neg h3, if_neg h4, if_neg h5]
theorem kindVal_agg (n : Int) : ∃ c f1 f2 : Value, kindVal n = .agg #[c, .int .i64 (kindLo n), .int .i64 (kindHi n), f1, f2] ∧ c.oneCell' = true ∧ f1.oneCell' = true ∧ f2.oneCell' = true := by
 by_cases h1 : n = 1
 ·subst h1; exact ⟨_, _, _, rfl, rfl, rfl, rfl⟩
 by_cases h2 : n = 2
 ·subst h2; exact ⟨_, _, _, rfl, rfl, rfl, rfl⟩
 by_cases h3 : n = 3
 ·subst h3; exact ⟨_, _, _, rfl, rfl, rfl, rfl⟩
 by_cases h4 : n = 4
 ·subst h4; exact ⟨_, _, _, rfl, rfl, rfl, rfl⟩
 by_cases h5 : n = 5
 ·subst h5; exact ⟨_, _, _, rfl, rfl, rfl, rfl⟩
 have e1 : kindLo n = 0 := by unfold kindLo kindFound; rw [if_neg (by omega), if_neg (by simp; omega)]
 have e2 : kindHi n = 0 := by unfold kindHi; rw [if_neg (by omega), if_neg h1, if_neg h2, if_neg h4]
 rw [e1, e2]
 unfold kindVal
 rw [if_neg h1, if_neg h2, if_neg h3, if_neg h4, if_neg h5]
 exact ⟨_, _, _, rfl, rfl, rfl, rfl⟩
def isField_T : Bool × List (List Nat × List Nat) := (true, ([([], []), ([], []), ([1], [1]), ([0, 2], [0, 2]), ([3], [3]), ([4], [4]), ([4], [4]), ([], []), ([7, 5, 0, 0, 1, 2, 3, 4, 5, 7], [5, 7]), ([6, 8, 0, 1, 2, 3, 4, 5, 6, 7, 8], [6])]))
theorem isField_tab : rtab .any (opsOf Tryz.f47 1) = isField_T := by kernel_rfl
theorem alloc_event {P : Program} {ops : Array Oper} {o : Oper} {a : Act} {Q : Exit → Act → World → Prop} {Kc : Act → World → Prop} {W : World} {N : Option Tmp} {cs : Array Value} {t : TypeId} (hN : o.dst = N) (hw : Region.wanted o (yielded ops a.tmps) = true)
  (hrun : (execOp a.eval o).run P W = .ok (.value (.pointer (some ⟨W.heap.size, 0, none⟩))) (W.alloc (.cells cs t (0, 0))))
  (h : ∀ g, W.heap.size ≤ g → ∀ w1, w1.heap[g]? = some (.cells cs t (0, 0)) → Below W.heap.size W w1 → Kc (a.put N (.pointer (some ⟨g, 0, none⟩))) w1) : if Region.wanted o (yielded ops a.tmps) = true then Oper.wp P o a W Kc Q else Kc (a.put N undef) W := by
 subst hN
 exact event_step hw hrun (h _ (Nat.le_refl _) _ (blk_new W _) (below_alloc (Below.refl _ _) _))
theorem value_event {P : Program} {ops : Array Oper} {o : Oper} {a : Act} {Q : Exit → Act → World → Prop} {Kc : Act → World → Prop} {W : World} {N : Option Tmp} {v : Value} (hN : o.dst = N) (hw : Region.wanted o (yielded ops a.tmps) = true)
  (hrun : (execOp a.eval o).run P W = .ok (.value v) W) (h : Kc (a.put N v) W) : if Region.wanted o (yielded ops a.tmps) = true then Oper.wp P o a W Kc Q else Kc (a.put N undef) W := by
 subst hN
 exact event_step hw hrun h
theorem skip_event {P : Program} {ops : Array Oper} {o : Oper} {a : Act} {Q : Exit → Act → World → Prop} {Kc : Act → World → Prop} {W w1 : World} (hN : o.dst = none) (hw : Region.wanted o (yielded ops a.tmps) = true)
  (hrun : (execOp a.eval o).run P W = .ok .skip w1) (h : Kc a w1) : if Region.wanted o (yielded ops a.tmps) = true then Oper.wp P o a W Kc Q else Kc (a.put none undef) W := by
 rw [if_pos hw]
 unfold Oper.wp
 rw [hrun]
 show Kc (a.put o.dst undef) w1
 rw [hN]
 exact h
def table_isField.f (a0_0 : ByteArray) (a0_1 : Int) (a0_2 : Int) (a0_3 : Bool) : Option (Bool) :=
 if kindFound a0_1 = true then (table_isName.f 1 a0_0).bind fun t => some (t && decide (kindLo a0_1 ≤ a0_2) && decide (a0_2 ≤ kindHi a0_1)) else some false
theorem isField_walk (s : ByteArray) (kd wd : Int) (nl : Bool) (w : World) (b t : Bool) (hbt : kindFound kd = b) (ht : b = true → table_isName.f 1 s = some t) :
  Calls Tryz.prog 47 #[.agg #[.string s, .int .i64 kd, .int .i64 wd, .bool nl]] w fun e w' => e = .returned (.bool (b && (t && decide (kindLo kd ≤ wd) && decide (wd ≤ kindHi kd)))) ∧ Below w.heap.size w w' := by
 have HT := Z0 ht
 have HBT := Z0 hbt
 clear ht hbt
 have HB := Z0 (Below.refl w.heap.size w)
 obtain ⟨c, f1, f2, hv, hc1, hf1, hf2⟩ := kindVal_agg kd
 have hs0 := fun W a m => run_store Tryz.prog W a c m hc1
 have hs1 := fun W a m => run_store Tryz.prog W a f1 m hf1
 have hs2 := fun W a m => run_store Tryz.prog W a f2 m hf2
 clear hc1 hf1 hf2
 go_enter Tryz.func47, Tryz.ntmps47
 go_wp2_with (first | ((with_reducible refine Z9 (N := 1) rfl ?_); refine bx (N := 1) (cs := #[.string s, .int .i64 kd, .int .i64 wd, .bool nl]) (t := 23) ?_; intro g1 hg w1 hbk hb; have GE1 : Aside0 (w.heap.size ≤ g1) := ⟨by rw [hg]; exact HB.out.size⟩; have HB1 := Z0 (Z1 HB.out hb); have BK1 := Z0 hbk; clear hg hb hbk HB))
 have HBd := Z0 (below_drew1 HB1.out)
 have BKd := Z0 (Y5 BK1.out)
 clear HB1 BK1
 refine start_ (n := 10) (S := fun w' => w'.heap[g1]? = some (.cells #[.string s, .int .i64 kd, .int .i64 wd, .bool nl] 23 (0, 0))) (ds := []) (bs 10 0) (by kernel_rfl) rfl rfl BKd.out (fun hHeld => ?_)
 refine with_tab isField_tab (fun HT_ => ?_)
 generalize w1.drew = w2 at BKd HBd hHeld ⊢
 refine pz 1 7 (bs 10 2) HT_ ?_
 refine take_ (i := 2) (N := some 8) (v := ?_) (a' := ?_) (bs 10 6) rfl rfl (take_of HT_.out (by kernel_rfl)) (fun _ _ _ h => h) (Or.inl ⟨by rfl, ?_⟩) hHeld ?_ ?_
 rotate_left
 ·rintro w' s0
  have sc := (Z4 s0 1).trans rfl
  go_simp
  with_reducible rfl
 rotate_left
 ·simp only [Act.put, Z3, Z6, Z7, i64_w, i32_w]
  rfl
 refine join_ 2 (bs 10 255) (σ := Nat × Nat) (fun z => [(6, .map (some z.1)), (9, .tuple #[.agg #[c, .int .i64 (kindLo kd), .int .i64 (kindHi kd), f1, f2], .bool (kindFound kd)]), (3, .pointer (some ⟨z.2, 0, none⟩)), (5, .tuple #[.agg #[c, .int .i64 (kindLo kd), .int .i64 (kindHi kd), f1, f2], .bool (kindFound kd)]), (10, .agg #[c, .int .i64 (kindLo kd), .int .i64 (kindHi kd), f1, f2]), (11, .bool (kindFound kd))]) (fun z w' => w'.heap[z.2]? = some (.cells #[.int .u8 0, .int .i64 0, .int .i64 0, .nilFunc, .nilFunc] 102 (0, 0)) ∧ w'.heap[g1]? = some (.cells #[.string s, .int .i64 kd, .int .i64 wd, .bool nl] 23 (0, 0)) ∧ w.heap.size ≤ z.2 ∧ z.2 ≠ g1 ∧ Below w.heap.size w w') ?hcont ?hord
 case hcont =>
  rintro ⟨r, g3⟩ w3 ⟨hb3, hb1, hge, hne, hbw⟩
  simp only [putAll, Act.put, Z3, Z6, Z7]
  refine one_ (i := 8) (N := none) (bs 10 511) rfl rfl (one_of HT_.out (by kernel_rfl)) (by decide) (fun K hK => ?_)
  have q0 := (Z4 hb3 0).trans rfl
  have q1 := (Z4 hb3 1).trans rfl
  have q2 := (Z4 hb3 2).trans rfl
  have q3 := (Z4 hb3 3).trans rfl
  have q4 := (Z4 hb3 4).trans rfl
  have p0 := Z8 hb3 0
  have p1 := Z8 hb3 1
  have p2 := Z8 hb3 2
  have p3 := Z8 hb3 3
  have p4 := Z8 hb3 4
  refine skip_event (w1 := ((((w3.setCell ⟨g3, 0, none⟩ c).setCell ⟨g3, 1, none⟩ (.int .i64 (kindLo kd))).setCell ⟨g3, 2, none⟩ (.int .i64 (kindHi kd))).setCell ⟨g3, 3, none⟩ f1).setCell ⟨g3, 4, none⟩ f2) rfl (by rfl) (by first | (go_simp; done) | (go_simp; rfl)) ?_
  have HB3 := Z0 (below_set (below_set (below_set (below_set (below_set hbw hge (j := 0) (v := c)) hge (j := 1) (v := .int .i64 (kindLo kd))) hge (j := 2) (v := .int .i64 (kindHi kd))) hge (j := 3) (v := f1)) hge (j := 4) (v := f2))
  have hb1' := blk_far (blk_far (blk_far (blk_far (blk_far hb1 (p := ⟨g3, 0, none⟩) (Ne.symm hne) c) (p := ⟨g3, 1, none⟩) (Ne.symm hne) (.int .i64 (kindLo kd))) (p := ⟨g3, 2, none⟩) (Ne.symm hne) (.int .i64 (kindHi kd))) (p := ⟨g3, 3, none⟩) (Ne.symm hne) f1) (p := ⟨g3, 4, none⟩) (Ne.symm hne) f2
  have hb3' := blk_put (blk_put (blk_put (blk_put (blk_put hb3 0 c rfl) 1 (.int .i64 (kindLo kd)) rfl) 2 (.int .i64 (kindHi kd)) rfl) 3 f1 rfl) 4 f2 rfl
  have hb3'' : Aside0 (_ = _) := ⟨hb3'⟩
  have BK3 := Z0 hb3'
  have BK1 := Z0 hb1'
  clear hb3'' hb3' hb1' q0 q1 q2 q3 q4 p0 p1 p2 p3 p4 hb3 hb1 hbw
  generalize ((((w3.setCell ⟨g3, 0, none⟩ c).setCell ⟨g3, 1, none⟩ (.int .i64 (kindLo kd))).setCell ⟨g3, 2, none⟩ (.int .i64 (kindHi kd))).setCell ⟨g3, 3, none⟩ f1).setCell ⟨g3, 4, none⟩ f2 = w4 at HB3 BK3 BK1 ⊢
  refine hK.out _ _ BK1.out (fun hHeld => ?_)
  clear hK K
  refine pz 9 4 (bs 10 1023) HT_ ?_
  refine done_ (done_of HT_.out (by kernel_rfl)) ?_
  clear hHeld HT_ hs0 hs1 hs2
  have k0 : w4.cell? ⟨g1, 0, none⟩ = some (.string s) := (Z4 BK1.out 0).trans rfl
  have k2 : w4.cell? ⟨g1, 2, none⟩ = some (.int .i64 wd) := (Z4 BK1.out 2).trans rfl
  have k3 : w4.cell? ⟨g3, 1, none⟩ = some (.int .i64 (kindLo kd)) := (Z4 BK3.out 1).trans rfl
  have k4 : w4.cell? ⟨g3, 2, none⟩ = some (.int .i64 (kindHi kd)) := (Z4 BK3.out 2).trans rfl
  clear BK1 BK3 BKd hv
  simp only [HBT.out]
  clear HBT
  cases b with
  | false =>
   go_wp2
   go_ret
   exact ⟨rfl, HB3.out⟩
  | true =>
   obtain ⟨lo, hlo⟩ : ∃ x, kindLo kd = x := ⟨_, rfl⟩
   obtain ⟨hi, hhi⟩ : ∃ x, kindHi kd = x := ⟨_, rfl⟩
   rw [hlo] at k3
   rw [hhi] at k4
   have HLO := Z0 hlo
   have HHI := Z0 hhi
   clear hlo hhi
   have HC := Z0 (fun W => table_isName.calls 1 s t W (HT.out rfl))
   clear HT
   by_cases h1 : lo ≤ wd
   rotate_left
   ·have h1b : decide (lo ≤ wd) = false := decide_eq_false h1
    cases t
    all_goals
     go_wp2_with (go_at_call 90; refine (HC.out _).mono ?_; rintro e w5 ⟨rfl, hb5⟩; have HB5 := Z0 (Z1 HB3.out hb5); have k2 := pw_cell_below hb5 k2; have k3 := pw_cell_below hb5 k3; have k4 := pw_cell_below hb5 k4; clear hb5)
     go_ret
     exact ⟨by rw [HLO.out, HHI.out]; simp [h1] <;> omega, HB5.out⟩
   have h1b : decide (lo ≤ wd) = true := decide_eq_true h1
   by_cases h2 : wd ≤ hi
   ·have h2b : decide (wd ≤ hi) = true := decide_eq_true h2
    cases t
    all_goals
     go_wp2_with (go_at_call 90; refine (HC.out _).mono ?_; rintro e w5 ⟨rfl, hb5⟩; have HB5 := Z0 (Z1 HB3.out hb5); have k2 := pw_cell_below hb5 k2; have k3 := pw_cell_below hb5 k3; have k4 := pw_cell_below hb5 k4; clear hb5)
     go_ret
     exact ⟨by rw [HLO.out, HHI.out]; simp [h1, h2], HB5.out⟩
   have h2b : decide (wd ≤ hi) = false := decide_eq_false h2
   cases t
   all_goals
    go_wp2_with (go_at_call 90; refine (HC.out _).mono ?_; rintro e w5 ⟨rfl, hb5⟩; have HB5 := Z0 (Z1 HB3.out hb5); have k2 := pw_cell_below hb5 k2; have k3 := pw_cell_below hb5 k3; have k4 := pw_cell_below hb5 k4; clear hb5)
    go_ret
    exact ⟨by rw [HLO.out, HHI.out]; simp [h1, h2], HB5.out⟩
 case hord =>
  intro hcont
  refine two_ (i := 0) (j := 7) (Ni := some 6) (Nj := some 3) (bs 10 7) (bs 10 134) rfl rfl rfl rfl (two_of HT_.out (by kernel_rfl)) (by decide) (by decide) (fun K hK => ?_) (fun K hK => ?_)
  rotate_left
  ·refine alloc_event (cs := #[.int .u8 0, .int .i64 0, .int .i64 0, .nilFunc, .nilFunc]) (t := 102) rfl (by rfl) (by first | (go_simp; done) | (go_simp; rfl)) (fun g3 hg3 w5 hb3 hb5 => ?_)
   refine hK.out _ _ (Z2 hHeld hb5) (fun hHeld2 => ?_)
   clear hK K
   refine norm_ (a' := ?_) ?_ ?_
   rotate_left
   ·show Act.put _ (some 3) _ = _
    simp only [Act.put, Z3, Z6, Z7, i64_w, i32_w]
    rfl
   refine one_ (i := 0) (N := some 6) (bs 10 135) rfl rfl (one_of HT_.out (by kernel_rfl)) (by decide) (fun K hK => ?_)
   refine goes_ Tryz.func89 (by kernel_rfl) rfl #[] (by rfl) rfl rfl (by simp) ?_
   refine (table_kinds _).mono ?_
   rintro e w4 ⟨r, rfl, hm, hb⟩
   refine ⟨_, rfl, ?_⟩
   have hb6 := Z2 hb3 hb
   refine hK.out _ _ (Z2 hHeld2 hb) (fun hHeld3 => ?_)
   clear hK K
   refine norm_ (a' := ?_) ?_ ?_
   rotate_left
   ·show Act.put _ (some 6) _ = _
    simp only [Act.put, Z3, Z6, Z7, i64_w, i32_w]
    rfl
   refine one_ (i := 3) (N := some 9) (bs 10 143) rfl rfl (one_of HT_.out (by kernel_rfl)) (by decide) (fun K hK => ?_)
   refine value_event (v := .tuple #[.agg #[c, .int .i64 (kindLo kd), .int .i64 (kindHi kd), f1, f2], .bool (kindFound kd)]) rfl (by rfl) ?_ ?_
   ·have hl := run_look _ r hm kd true
    rw [if_pos rfl, hv] at hl
    go_simp
   refine hK.out _ _ hHeld3 (fun hHeld4 => ?_)
   clear hK K
   refine norm_ (a' := ?_) ?_ ?_
   rotate_left
   ·show Act.put _ (some 9) _ = _
    simp only [Act.put, Z3, Z6, Z7, i64_w, i32_w]
    rfl
   refine pz 4 5 (bs 10 159) HT_ ?_
   refine pz 5 10 (bs 10 191) HT_ ?_
   refine pz 6 11 (bs 10 255) HT_ ?_
   have hc := hcont (r, g3) _ ⟨hb6, hHeld3, Nat.le_trans HBd.out.size hg3, Nat.ne_of_gt (Nat.lt_of_lt_of_le (blk_lt hHeld) hg3), Z1 (Z1 HBd.out hb5) hb⟩
   simp only [putAll, Act.put, Z3, Z6, Z7] at hc
   exact hc
  refine goes_ Tryz.func89 (by kernel_rfl) rfl #[] (by rfl) rfl rfl (by simp) ?_
  refine (table_kinds _).mono ?_
  rintro e w4 ⟨r, rfl, hm, hb⟩
  refine ⟨_, rfl, ?_⟩
  have hg1 := Z2 hHeld hb
  refine hK.out _ _ hg1 (fun hHeld => ?_)
  clear hK K
  refine norm_ (a' := ?_) ?_ ?_
  rotate_left
  ·show Act.put _ (some 6) _ = _
   simp only [Act.put, Z3, Z6, Z7, i64_w, i32_w]
   rfl
  refine two_ (i := 3) (j := 7) (Ni := some 9) (Nj := some 3) (bs 10 15) (bs 10 135) rfl rfl rfl rfl (two_of HT_.out (by kernel_rfl)) (by decide) (by decide) (fun K hK => ?_) (fun K hK => ?_)
  ·refine value_event (v := .tuple #[.agg #[c, .int .i64 (kindLo kd), .int .i64 (kindHi kd), f1, f2], .bool (kindFound kd)]) rfl (by rfl) ?_ ?_
   ·have hl := run_look _ r hm kd true
    rw [if_pos rfl, hv] at hl
    go_simp
   refine hK.out _ _ hg1 (fun hHeld => ?_)
   clear hK K
   refine norm_ (a' := ?_) ?_ ?_
   rotate_left
   ·show Act.put _ (some 9) _ = _
    simp only [Act.put, Z3, Z6, Z7, i64_w, i32_w]
    rfl
   refine pz 4 5 (bs 10 31) HT_ ?_
   refine pz 5 10 (bs 10 63) HT_ ?_
   refine pz 6 11 (bs 10 127) HT_ ?_
   refine one_ (i := 7) (N := some 3) (bs 10 255) rfl rfl (one_of HT_.out (by kernel_rfl)) (by decide) (fun K hK => ?_)
   refine alloc_event (cs := #[.int .u8 0, .int .i64 0, .int .i64 0, .nilFunc, .nilFunc]) (t := 102) rfl (by rfl) (by first | (go_simp; done) | (go_simp; rfl)) (fun g3 hg3 w5 hb3 hb5 => ?_)
   refine hK.out _ _ (Z2 hg1 hb5) (fun hHeld => ?_)
   clear hK K
   refine norm_ (a' := ?_) ?_ ?_
   rotate_left
   ·show Act.put _ (some 3) _ = _
    simp only [Act.put, Z3, Z6, Z7, i64_w, i32_w]
    rfl
   have hc := hcont (r, g3) _ ⟨hb3, Z2 hg1 hb5, Nat.le_trans (Nat.le_trans HBd.out.size hb.size) hg3, Nat.ne_of_gt (Nat.lt_of_lt_of_le (blk_lt hg1) hg3), Z1 (Z1 HBd.out hb) hb5⟩
   simp only [putAll, Act.put, Z3, Z6, Z7] at hc
   exact hc
  refine alloc_event (cs := #[.int .u8 0, .int .i64 0, .int .i64 0, .nilFunc, .nilFunc]) (t := 102) rfl (by rfl) (by first | (go_simp; done) | (go_simp; rfl)) (fun g3 hg3 w5 hb3 hb5 => ?_)
  have hm := Z2 hm hb5
  refine hK.out _ _ (Z2 hg1 hb5) (fun hHeld => ?_)
  clear hK K
  refine norm_ (a' := ?_) ?_ ?_
  rotate_left
  ·show Act.put _ (some 3) _ = _
   simp only [Act.put, Z3, Z6, Z7, i64_w, i32_w]
   rfl
  refine one_ (i := 3) (N := some 9) (bs 10 143) rfl rfl (one_of HT_.out (by kernel_rfl)) (by decide) (fun K hK => ?_)
  refine value_event (v := .tuple #[.agg #[c, .int .i64 (kindLo kd), .int .i64 (kindHi kd), f1, f2], .bool (kindFound kd)]) rfl (by rfl) ?_ ?_
  ·have hl := run_look _ r hm kd true
   rw [if_pos rfl, hv] at hl
   go_simp
  refine hK.out _ _ hHeld (fun hHeld => ?_)
  clear hK K
  refine norm_ (a' := ?_) ?_ ?_
  rotate_left
  ·show Act.put _ (some 9) _ = _
   simp only [Act.put, Z3, Z6, Z7, i64_w, i32_w]
   rfl
  refine pz 4 5 (bs 10 159) HT_ ?_
  refine pz 5 10 (bs 10 191) HT_ ?_
  refine pz 6 11 (bs 10 255) HT_ ?_
  have hc := hcont (r, g3) _ ⟨hb3, hHeld, Nat.le_trans (Nat.le_trans HBd.out.size hb.size) hg3, Nat.ne_of_gt (Nat.lt_of_lt_of_le (blk_lt hg1) hg3), Z1 (Z1 HBd.out hb) hb5⟩
  simp only [putAll, Act.put, Z3, Z6, Z7] at hc
  exact hc
theorem table_isField.calls (a0_0 : ByteArray) (a0_1 : Int) (a0_2 : Int) (a0_3 : Bool) (r : Bool) (w : World) (h : table_isField.f a0_0 a0_1 a0_2 a0_3 = some r) :
  Calls Tryz.prog 47 #[.agg #[.string a0_0, .int .i64 a0_1, .int .i64 a0_2, .bool a0_3]] w fun e w' => e = .returned (.bool r) ∧ Below w.heap.size w w' := by
 unfold table_isField.f at h
 split at h
 rotate_left
 ·rename_i hk
  obtain rfl := Option.some.inj h
  simpa using isField_walk a0_0 a0_1 a0_2 a0_3 w false false (by simpa using hk) (fun h => by cases h)
 rename_i hk
 obtain ⟨t, ht, h⟩ := Option.bind_eq_some_iff.mp h
 obtain rfl := Option.some.inj h
 simpa using isField_walk a0_0 a0_1 a0_2 a0_3 w true t hk (fun _ => ht)
end Go.Proofs.YtldpdidlfbphcaaGreatDoor.P
end
section
namespace Go.Proofs.YtldpdidlfbphcaaGreatDoor.P
open Go.RowKit Go.Proofs.YtldpdidlfbphcaaGreatDoorW.PrintWords Go.Proofs.YtldpdidlfbphcaaGreatDoorW.PrintLast Go.Proofs.YtldpdidlfbphcaaGreatDoorW.PrintMore
section
attribute [local go_sem] max2_int min2_int max_two min_two max_three min_three max_four min_four
def val_isDay.f (a0 : Int) : Option (Bool) := if a0 ≥ 0 then (some (decide (a0 ≤ 3652059))) else (some false)
theorem val_isDay.calls (a0 : Int) (r : Bool) (w : World) (h : val_isDay.f a0 = some r) :
  Calls Tryz.prog 136 #[.int .i64 a0] w fun e w' => e = .returned (.bool r) ∧ Drawn0 w w' := by
 have H : (if a0 ≥ 0 then (some (decide (a0 ≤ 3652059))) else (some false)) = some r := h
 clear h
 by_cases c2 : a0 ≥ 0
 ·rw [if_pos c2] at H
  have c2b0 : decide (0 ≤ a0) = true := decide_eq_true c2
  clear c2
  obtain rfl := Option.some.inj H
  go_enter Tryz.func136, Tryz.ntmps136
  go_wp2
  go_ret
  exact ⟨V2, by repeat (first | exact Y4 _ | apply Y0)⟩
 rw [if_neg c2] at H
 have c2b0 : decide (0 ≤ a0) = false := decide_eq_false c2
 clear c2
 obtain rfl := Option.some.inj H
 go_enter Tryz.func136, Tryz.ntmps136
 go_wp2
 go_ret
 exact ⟨V2, by repeat (first | exact Y4 _ | apply Y0)⟩
def val_isNum.f (a0 : Int) : Option (Bool) := if a0 ≥ (-1000000000000000) then (some (decide (a0 ≤ 1000000000000000))) else (some false)
theorem val_isNum.calls (a0 : Int) (r : Bool) (w : World) (h : val_isNum.f a0 = some r) :
  Calls Tryz.prog 97 #[.int .i64 a0] w fun e w' => e = .returned (.bool r) ∧ Drawn0 w w' := by
 have H : (if a0 ≥ (-1000000000000000) then (some (decide (a0 ≤ 1000000000000000))) else (some false)) = some r := h
 clear h
 by_cases c2 : a0 ≥ (-1000000000000000)
 ·rw [if_pos c2] at H
  have c2b0 : decide ((-1000000000000000) ≤ a0) = true := decide_eq_true c2
  clear c2
  obtain rfl := Option.some.inj H
  go_enter Tryz.func97, Tryz.ntmps97
  go_wp2
  go_ret
  exact ⟨V2, by repeat (first | exact Y4 _ | apply Y0)⟩
 rw [if_neg c2] at H
 have c2b0 : decide ((-1000000000000000) ≤ a0) = false := decide_eq_false c2
 clear c2
 obtain rfl := Option.some.inj H
 go_enter Tryz.func97, Tryz.ntmps97
 go_wp2
 go_ret
 exact ⟨V2, by repeat (first | exact Y4 _ | apply Y0)⟩
def val_isValue.j0 : Nat → Bool → Int → Int → ByteArray → Option (Bool)
 | 0, _, _, _, _ => none
 | k + 1, x20, x170000, x170001, x170002 => if x20 = true then (some false) else (if x170000 = 0 then (some (x170001 == 0)) else (if x170000 = 1 then (if x170001 = 0 then (some true) else (some (x170001 == 1))) else (if x170000 = 2 then ((val_isNum.f x170001).bind fun t170 => (some t170)) else (if x170000 = 3 then ((val_isDay.f x170001).bind fun t171 => (some t171)) else (some (x170000 == 4))))))
def val_isValue.f (k : Nat) (a0_0 : Int) (a0_1 : Int) (a0_2 : ByteArray) : Option (Bool) := if a0_0 = 4 then (val_isValue.j0 k (a0_1 != 0) a0_0 a0_1 a0_2) else (if a0_2.toList = ([] : List UInt8) then (val_isValue.j0 k false a0_0 a0_1 a0_2) else (val_isValue.j0 k true a0_0 a0_1 a0_2))
theorem val_isValue.mono_l : ∀ k, (∀ y0 y1 y2 y3, LeO (val_isValue.j0 k y0 y1 y2 y3) (val_isValue.j0 (k + 1) y0 y1 y2 y3))
 | 0 => fun _ _ _ _ r h => by simp [val_isValue.j0] at h
 | k + 1 => by
  have ih0 := val_isValue.mono_l k
  ·intro y0 y1 y2 y3
   unfold val_isValue.j0
   repeat' first
   | (with_reducible exact ih0 _ _ _ _)
   | (with_reducible exact LeO.refl _)
   | (with_reducible exact LeO.none _)
   | (with_reducible refine LeO.ite ?_ ?_)
   | (with_reducible refine LeO.bind ?_ (fun _ => ?_))
theorem val_isValue.mono : ∀ a0 a1 a2 k, LeO (val_isValue.f k a0 a1 a2) (val_isValue.f (k + 1) a0 a1 a2) := by
 intro a0 a1 a2 k
 have ih0 := val_isValue.mono_l k
 unfold val_isValue.f
 repeat' first
   | (with_reducible exact ih0 _ _ _ _)
   | (with_reducible exact LeO.refl _)
   | (with_reducible exact LeO.none _)
   | (with_reducible refine LeO.ite ?_ ?_)
   | (with_reducible refine LeO.bind ?_ (fun _ => ?_))
theorem val_isValue.calls (k : Nat) (a0_0 : Int) (a0_1 : Int) (a0_2 : ByteArray) (r : Bool) (w : World) (h : val_isValue.f k a0_0 a0_1 a0_2 = some r) :
  Calls Tryz.prog 91 #[.agg #[.int .i64 a0_0, .int .i64 a0_1, .string a0_2]] w fun e w' => e = .returned (.bool r) ∧ Below w.heap.size w w' := by
 have hu25 := Tryz.underlying25
 have HB := Z0 (Below.refl w.heap.size w)
 unfold val_isValue.f at h
 have H := h
 clear h
 have HC2 := Z0 H
 clear H
 go_enter Tryz.func91, Tryz.ntmps91
 go_upto_region 1 with (first | ((with_reducible refine Z9 (N := 1) rfl ?_); refine bx (N := 1) (cs := #[.int .i64 a0_0, .int .i64 a0_1, .string a0_2]) (t := 25) ?_; intro gb169 hg w3 hbox hb; have BK169 := Z0 hbox; have GE169 := ge hg HB.out; replace HB := Z0 (Z1 HB.out hb); clear hb hbox hg))
 (try simp only [Act.put, Z3, Z6, Z7])
 go_cut [20] (fun v20 wc => ∃ (kq : Nat) (x20_1 : Bool), v20 = .bool x20_1 ∧ Aside0 (val_isValue.j0 kq x20_1 a0_0 a0_1 a0_2 = some r) ∧ Aside0 (kq ≤ k) ∧ Aside0 (wc.heap[gb169]? = some (.cells #[.int .i64 a0_0, .int .i64 a0_1, .string a0_2] 25 (0, 0))) ∧ Aside0 (Below w.heap.size w wc))
 case first =>
  have H := HC2.out
  clear HC2
  by_cases c4 : a0_0 = 4
  ·rw [if_pos c4] at H
   have c4b0 : (a0_0 == 4) = true := beq_iff_eq.mpr c4
   have c4b1 : (a0_0 != 4) = false := bne_eq_false_iff_eq.mpr c4
   clear c4
   (first | rw [c4b0] | (simp only [i64_w, i32_w]; rw [c4b0]) | skip)
   have H' := Z0 H
   clear H
   obtain ⟨hcz5_0, hcz5_1, hcz5_2⟩ := bc3 BK169.out
   obtain ⟨hfz5_0, hfz5_1, hfz5_2⟩ := bf3 BK169.out
   go_wp2
   go_meet
   case rel => exact ⟨_, ((a0_1 != 0)), V2, H', ⟨by first | omega | exact Nat.le_refl _⟩, ⟨bk⟩, ⟨V0⟩⟩
  rw [if_neg c4] at H
  have c4b0 : (a0_0 == 4) = false := beq_eq_false_iff_ne.mpr c4
  have c4b1 : (a0_0 != 4) = true := bne_iff_ne.mpr c4
  (first | rw [c4b0] | (simp only [i64_w, i32_w]; rw [c4b0]) | skip)
  by_cases c6 : a0_2.toList = ([] : List UInt8)
  ·rw [if_pos c6] at H
   have c6b0 : (a0_2.toList == ([] : List UInt8)) = true := beq_iff_eq.mpr c6
   have c6b1 : (a0_2.toList != ([] : List UInt8)) = false := bne_eq_false_iff_eq.mpr c6
   clear c6
   have H' := Z0 H
   clear H
   obtain ⟨hcz7_0, hcz7_1, hcz7_2⟩ := bc3 BK169.out
   obtain ⟨hfz7_0, hfz7_1, hfz7_2⟩ := bf3 BK169.out
   go_wp2
   go_meet
   case rel => exact ⟨_, (false), V2, H', ⟨by first | omega | exact Nat.le_refl _⟩, ⟨bk⟩, ⟨V0⟩⟩
  rw [if_neg c6] at H
  have c6b0 : (a0_2.toList == ([] : List UInt8)) = false := beq_eq_false_iff_ne.mpr c6
  have c6b1 : (a0_2.toList != ([] : List UInt8)) = true := bne_iff_ne.mpr c6
  have H' := Z0 H
  clear H
  obtain ⟨hcz8_0, hcz8_1, hcz8_2⟩ := bc3 BK169.out
  obtain ⟨hfz8_0, hfz8_1, hfz8_2⟩ := bf3 BK169.out
  go_wp2
  go_meet
  case rel => exact ⟨_, (true), V2, H', ⟨by first | omega | exact Nat.le_refl _⟩, ⟨bk⟩, ⟨V0⟩⟩
 case rest =>
  clear HC2
  obtain ⟨kq, x20_1, rfl, HA, HJ1, BK169, HB⟩ := hcut
  cases kq with
  | zero => exact absurd HA.out (by simp [val_isValue.j0])
  | succ kj1 =>
   have H := HA.out
   clear HA
   simp only [val_isValue.j0] at H
   by_cases c9 : x20_1 = true
   ·subst c9
    have H1 : (some false) = some r := by rw [if_pos rfl] at H; exact H
    clear H
    have H := H1
    clear H1
    obtain rfl := Option.some.inj H
    go_wp2
    go_ret
    exact ⟨rfl, V0⟩
   replace c9 := Bool.eq_false_iff.mpr c9
   subst c9
   have H1 : (if a0_0 = 0 then (some (a0_1 == 0)) else (if a0_0 = 1 then (if a0_1 = 0 then (some true) else (some (a0_1 == 1))) else (if a0_0 = 2 then ((val_isNum.f a0_1).bind fun t170 => (some t170)) else (if a0_0 = 3 then ((val_isDay.f a0_1).bind fun t171 => (some t171)) else (some (a0_0 == 4)))))) = some r := by rw [if_neg (show ¬ (false = true) by decide)] at H; exact H
   clear H
   have H := H1
   clear H1
   by_cases c10 : a0_0 = 0
   ·rw [if_pos c10] at H
    have c10b0 : (a0_0 == 0) = true := beq_iff_eq.mpr c10
    have c10b1 : (a0_0 != 0) = false := bne_eq_false_iff_eq.mpr c10
    clear c10
    obtain rfl := Option.some.inj H
    obtain ⟨hcz11_0, hcz11_1, hcz11_2⟩ := bc3 BK169.out
    obtain ⟨hfz11_0, hfz11_1, hfz11_2⟩ := bf3 BK169.out
    go_wp2
    go_ret
    exact ⟨rfl, V0⟩
   rw [if_neg c10] at H
   have c10b0 : (a0_0 == 0) = false := beq_eq_false_iff_ne.mpr c10
   have c10b1 : (a0_0 != 0) = true := bne_iff_ne.mpr c10
   by_cases c12 : a0_0 = 1
   ·rw [if_pos c12] at H
    have c12b0 : (a0_0 == 1) = true := beq_iff_eq.mpr c12
    have c12b1 : (a0_0 != 1) = false := bne_eq_false_iff_eq.mpr c12
    clear c12
    by_cases c13 : a0_1 = 0
    ·rw [if_pos c13] at H
     have c13b0 : (a0_1 == 0) = true := beq_iff_eq.mpr c13
     have c13b1 : (a0_1 != 0) = false := bne_eq_false_iff_eq.mpr c13
     clear c13
     obtain rfl := Option.some.inj H
     obtain ⟨hcz14_0, hcz14_1, hcz14_2⟩ := bc3 BK169.out
     obtain ⟨hfz14_0, hfz14_1, hfz14_2⟩ := bf3 BK169.out
     go_wp2
     go_ret
     exact ⟨rfl, V0⟩
    rw [if_neg c13] at H
    have c13b0 : (a0_1 == 0) = false := beq_eq_false_iff_ne.mpr c13
    have c13b1 : (a0_1 != 0) = true := bne_iff_ne.mpr c13
    obtain rfl := Option.some.inj H
    obtain ⟨hcz15_0, hcz15_1, hcz15_2⟩ := bc3 BK169.out
    obtain ⟨hfz15_0, hfz15_1, hfz15_2⟩ := bf3 BK169.out
    go_wp2
    go_ret
    exact ⟨rfl, V0⟩
   rw [if_neg c12] at H
   have c12b0 : (a0_0 == 1) = false := beq_eq_false_iff_ne.mpr c12
   have c12b1 : (a0_0 != 1) = true := bne_iff_ne.mpr c12
   by_cases c16 : a0_0 = 2
   ·rw [if_pos c16] at H
    have c16b0 : (a0_0 == 2) = true := beq_iff_eq.mpr c16
    have c16b1 : (a0_0 != 2) = false := bne_eq_false_iff_eq.mpr c16
    clear c16
    replace H := Option.bind_eq_some_iff.mp H
    obtain ⟨t170, A170, H⟩ := H
    replace H : (some t170) = some r := H
    have A17 := Z0 A170
    clear A170
    obtain rfl := Option.some.inj H
    obtain ⟨hcz18_0, hcz18_1, hcz18_2⟩ := bc3 BK169.out
    obtain ⟨hfz18_0, hfz18_1, hfz18_2⟩ := bf3 BK169.out
    go_wp2_with (first | ((with_reducible refine Z5 (f := 97) rfl ?_); refine gl Tryz.func97 (val_isNum.calls a0_1 t170 _ A17.out) ?_; rintro e w' ⟨rfl, ⟨nd, rfl⟩⟩; refine ⟨_, rfl, ?_⟩))
    go_ret
    exact ⟨rfl, V0⟩
   rw [if_neg c16] at H
   have c16b0 : (a0_0 == 2) = false := beq_eq_false_iff_ne.mpr c16
   have c16b1 : (a0_0 != 2) = true := bne_iff_ne.mpr c16
   by_cases c19 : a0_0 = 3
   rotate_left
   ·rw [if_neg c19] at H
    have c19b0 : (a0_0 == 3) = false := beq_eq_false_iff_ne.mpr c19
    have c19b1 : (a0_0 != 3) = true := bne_iff_ne.mpr c19
    obtain rfl := Option.some.inj H
    obtain ⟨hcz22_0, hcz22_1, hcz22_2⟩ := bc3 BK169.out
    obtain ⟨hfz22_0, hfz22_1, hfz22_2⟩ := bf3 BK169.out
    go_wp2
    go_ret
    exact ⟨rfl, V0⟩
   rw [if_pos c19] at H
   have c19b0 : (a0_0 == 3) = true := beq_iff_eq.mpr c19
   have c19b1 : (a0_0 != 3) = false := bne_eq_false_iff_eq.mpr c19
   clear c19
   replace H := Option.bind_eq_some_iff.mp H
   obtain ⟨t171, A200, H⟩ := H
   replace H : (some t171) = some r := H
   have A20 := Z0 A200
   clear A200
   obtain rfl := Option.some.inj H
   obtain ⟨hcz21_0, hcz21_1, hcz21_2⟩ := bc3 BK169.out
   obtain ⟨hfz21_0, hfz21_1, hfz21_2⟩ := bf3 BK169.out
   go_wp2_with (first | ((with_reducible refine Z5 (f := 136) rfl ?_); refine gl Tryz.func136 (val_isDay.calls a0_1 t171 _ A20.out) ?_; rintro e w' ⟨rfl, ⟨nd, rfl⟩⟩; refine ⟨_, rfl, ?_⟩))
   go_ret
   exact ⟨rfl, V0⟩
def val_Validate.f (k : Nat) (a0_0 : Int) (a0_1 : Int) (a0_2 : ByteArray) : Option (Int) := if (a0_2.size : Int) > 2048 then (some 3) else ((val_isValue.f k a0_0 a0_1 a0_2).bind fun t173 => (if t173 = true then (some 0) else (some 1)))
theorem val_Validate.mono : ∀ a0 a1 a2 k, LeO (val_Validate.f k a0 a1 a2) (val_Validate.f (k + 1) a0 a1 a2) := by
 intro a0 a1 a2 k
 unfold val_Validate.f
 repeat' first
   | (with_reducible exact val_isValue.mono _ _ _ _)
   | (with_reducible exact LeO.refl _)
   | (with_reducible exact LeO.none _)
   | (with_reducible refine LeO.ite ?_ ?_)
   | (with_reducible refine LeO.bind ?_ (fun _ => ?_))
theorem val_Validate.calls (k : Nat) (a0_0 : Int) (a0_1 : Int) (a0_2 : ByteArray) (r : Int) (w : World) (h : val_Validate.f k a0_0 a0_1 a0_2 = some r) :
  Calls Tryz.prog 49 #[.agg #[.int .i64 a0_0, .int .i64 a0_1, .string a0_2]] w fun e w' => e = .returned (.int .i64 r) ∧ Below w.heap.size w w' := by
 have hu25 := Tryz.underlying25
 have HB := Z0 (Below.refl w.heap.size w)
 unfold val_Validate.f at h
 have H := h
 clear h
 by_cases c2 : (a0_2.size : Int) > 2048
 ·rw [if_pos c2] at H
  have c2b0 : decide (2048 < (a0_2.size : Int)) = true := decide_eq_true c2
  have c2b1 : decide (2048 < a0_2.size) = true := decide_eq_true (by omega)
  clear c2
  obtain rfl := Option.some.inj H
  go_enter Tryz.func49, Tryz.ntmps49
  go_wp2_with (first | ((with_reducible refine Z9 (N := 1) rfl ?_); refine bx (N := 1) (cs := #[.int .i64 a0_0, .int .i64 a0_1, .string a0_2]) (t := 25) ?_; intro gb172 hg w3 hbox hb; have BK172 := Z0 hbox; have GE172 := ge hg HB.out; replace HB := Z0 (Z1 HB.out hb); clear hb hbox hg; obtain ⟨hcz4_0, hcz4_1, hcz4_2⟩ := bc3 BK172.out; obtain ⟨hfz4_0, hfz4_1, hfz4_2⟩ := bf3 BK172.out))
  go_ret
  exact ⟨rfl, V0⟩
 rw [if_neg c2] at H
 have c2b0 : decide (2048 < (a0_2.size : Int)) = false := decide_eq_false c2
 have c2b1 : decide (2048 < a0_2.size) = false := decide_eq_false (by omega)
 clear c2
 replace H := Option.bind_eq_some_iff.mp H
 obtain ⟨t173, A50, H⟩ := H
 replace H : (if t173 = true then (some 0) else (some 1)) = some r := H
 have A5 := Z0 A50
 clear A50
 by_cases c6 : t173 = true
 ·subst c6
  have H1 : (some 0) = some r := by rw [if_pos rfl] at H; exact H
  clear H
  have H := H1
  clear H1
  obtain rfl := Option.some.inj H
  go_enter Tryz.func49, Tryz.ntmps49
  go_wp2_with (first | ((with_reducible refine Z9 (N := 1) rfl ?_); refine bx (N := 1) (cs := #[.int .i64 a0_0, .int .i64 a0_1, .string a0_2]) (t := 25) ?_; intro gb172 hg w7 hbox hb; have BK172 := Z0 hbox; have GE172 := ge hg HB.out; replace HB := Z0 (Z1 HB.out hb); clear hb hbox hg; obtain ⟨hcz8_0, hcz8_1, hcz8_2⟩ := bc3 BK172.out; obtain ⟨hfz8_0, hfz8_1, hfz8_2⟩ := bf3 BK172.out) | ((with_reducible refine Z5 (f := 91) rfl ?_); refine gl Tryz.func91 (val_isValue.calls k a0_0 a0_1 a0_2 true _ A5.out) ?_; rintro e w9 ⟨rfl, hb⟩; refine ⟨_, rfl, ?_⟩; replace BK172 := Z0 (Z2 BK172.out hb); replace HB := Z0 (Z1 HB.out hb)))
  go_ret
  exact ⟨rfl, V0⟩
 replace c6 := Bool.eq_false_iff.mpr c6
 subst c6
 have H1 : (some 1) = some r := by rw [if_neg (show ¬ (false = true) by decide)] at H; exact H
 clear H
 have H := H1
 clear H1
 obtain rfl := Option.some.inj H
 go_enter Tryz.func49, Tryz.ntmps49
 go_wp2_with (first | ((with_reducible refine Z9 (N := 1) rfl ?_); refine bx (N := 1) (cs := #[.int .i64 a0_0, .int .i64 a0_1, .string a0_2]) (t := 25) ?_; intro gb172 hg w10 hbox hb; have BK172 := Z0 hbox; have GE172 := ge hg HB.out; replace HB := Z0 (Z1 HB.out hb); clear hb hbox hg; obtain ⟨hcz11_0, hcz11_1, hcz11_2⟩ := bc3 BK172.out; obtain ⟨hfz11_0, hfz11_1, hfz11_2⟩ := bf3 BK172.out) | ((with_reducible refine Z5 (f := 91) rfl ?_); refine gl Tryz.func91 (val_isValue.calls k a0_0 a0_1 a0_2 false _ A5.out) ?_; rintro e w12 ⟨rfl, hb⟩; refine ⟨_, rfl, ?_⟩; replace BK172 := Z0 (Z2 BK172.out hb); replace HB := Z0 (Z1 HB.out hb)))
 go_ret
 exact ⟨rfl, V0⟩
def table_isText.f (a0 : ByteArray) (a1 : Int) : Option (Bool) := (page_Valid.f a0 a1).bind fun bt542 => (if bt542.1 = true then (some (bt542.2 == 0)) else (some false))
theorem table_isText.calls (a0 : ByteArray) (a1 : Int) (r : Bool) (w : World) (h : table_isText.f a0 a1 = some r) :
  Calls Tryz.prog 52 #[.string a0, .int .i64 a1] w fun e w' => e = .returned (.bool r) ∧ Below w.heap.size w w' := by
 have HB := Z0 (Below.refl w.heap.size w)
 unfold table_isText.f at h
 have H := h
 clear h
 replace H := Option.bind_eq_some_iff.mp H
 obtain ⟨⟨t542, t543⟩, A30, H⟩ := H
 replace H : (if t542 = true then (some (t543 == 0)) else (some false)) = some r := H
 have A3 := Z0 A30
 clear A30
 by_cases c4 : t542 = true
 ·subst c4
  have H1 : (some (t543 == 0)) = some r := by rw [if_pos rfl] at H; exact H
  clear H
  have H := H1
  clear H1
  obtain rfl := Option.some.inj H
  go_enter Tryz.func52, Tryz.ntmps52
  go_wp2_with (first | ((with_reducible refine Z5 (f := 96) rfl ?_); refine gl Tryz.func96 (page_Valid.calls a0 a1 true t543 _ A3.out) ?_; rintro e w5 ⟨rfl, hb⟩; refine ⟨_, rfl, ?_⟩; have n0_ := Z0 (Z1 V0 hb); clear HB; have HB := n0_; clear n0_))
  go_ret
  exact ⟨by first | rfl | (simp [errW_none, errW_some] <;> rfl) | (simp [*, errW_none, errW_some] <;> rfl), V0⟩
 replace c4 := Bool.eq_false_iff.mpr c4
 subst c4
 have H1 : (some false) = some r := by rw [if_neg (show ¬ (false = true) by decide)] at H; exact H
 clear H
 have H := H1
 clear H1
 obtain rfl := Option.some.inj H
 go_enter Tryz.func52, Tryz.ntmps52
 go_wp2_with (first | ((with_reducible refine Z5 (f := 96) rfl ?_); refine gl Tryz.func96 (page_Valid.calls a0 a1 false t543 _ A3.out) ?_; rintro e w6 ⟨rfl, hb⟩; refine ⟨_, rfl, ?_⟩; have n0_ := Z0 (Z1 V0 hb); clear HB; have HB := n0_; clear n0_))
 go_ret
 exact ⟨by first | rfl | (simp [errW_none, errW_some] <;> rfl) | (simp [*, errW_none, errW_some] <;> rfl), V0⟩
def table_empty.f (a0_0 : ByteArray) (a0_1 : Int) (a0_2 : Int) (a0_3 : Bool) : Option (Int × Int × ByteArray) := if a0_1 = 5 then (some (2, 0, (⟨#[]⟩ : ByteArray))) else (some (a0_1, 0, (⟨#[]⟩ : ByteArray)))
theorem table_empty.calls (a0_0 : ByteArray) (a0_1 : Int) (a0_2 : Int) (a0_3 : Bool) (r1 : Int) (r2 : Int) (r3 : ByteArray) (w : World) (h : table_empty.f a0_0 a0_1 a0_2 a0_3 = some (r1, r2, r3)) :
  Calls Tryz.prog 50 #[.agg #[.string a0_0, .int .i64 a0_1, .int .i64 a0_2, .bool a0_3]] w fun e w' => e = .returned (.agg #[.int .i64 r1, .int .i64 r2, .string r3]) ∧ Below w.heap.size w w' := by
 have hu23 := Tryz.underlying23
 have hu25 := Tryz.underlying25
 have HB := Z0 (Below.refl w.heap.size w)
 unfold table_empty.f at h
 have H := h
 clear h
 by_cases c2 : a0_1 = 5
 ·rw [if_pos c2] at H
  have c2b0 : (a0_1 == 5) = true := beq_iff_eq.mpr c2
  have c2b1 : (a0_1 != 5) = false := bne_eq_false_iff_eq.mpr c2
  clear c2
  simp only [Option.some.injEq, Prod.mk.injEq] at H
  obtain ⟨rfl, rfl, rfl⟩ := H
  go_enter Tryz.func50, Tryz.ntmps50
  go_wp2_with (first | ((with_reducible refine Z9 (N := 1) rfl ?_); refine bx (N := 1) (cs := #[.string a0_0, .int .i64 a0_1, .int .i64 a0_2, .bool a0_3]) (t := 23) ?_; intro gb296 hg w3 hbox hb; have BK296 := Z0 hbox; have GE296 := ge hg HB.out; replace HB := Z0 (Z1 HB.out hb); clear hb hbox hg) | ((with_reducible refine Z9 (N := 2) rfl ?_); refine bx (N := 2) (cs := #[.int .i64 0, .int .i64 0, .string (⟨#[]⟩ : ByteArray)]) (t := 25) ?_; intro gb297 hg w4 hbox hb; have BK297 := Z0 hbox; have GE297 := ge hg HB.out; replace HB := Z0 (Z1 HB.out hb); obtain ⟨NB296_297, NB297_296⟩ := nb hg BK296.out; replace BK296 := Z0 (Z2 BK296.out hb); clear hb hbox hg; have hnb5 := NB296_297.out; have hnc5 := NB297_296.out; obtain ⟨hcz6_0, hcz6_1, hcz6_2, hcz6_3⟩ := bc4 BK296.out; obtain ⟨hfz6_0, hfz6_1, hfz6_2, hfz6_3⟩ := bf4 BK296.out; obtain ⟨hcz7_0, hcz7_1, hcz7_2⟩ := bc3 BK297.out; obtain ⟨hfz7_0, hfz7_1, hfz7_2⟩ := bf3 BK297.out))
  refine bodyPost_ret (results_cell_row rfl _ _ gb297 25 #[.int .i64 2, .int .i64 0, .string (⟨#[]⟩ : ByteArray)] (0, 0) _ rfl (by (with_reducible repeat (first | refine Y6 ?_ _ | refine Y5 ?_ | refine Y7 ?_ _)); refine blk_put (cs := #[.int .i64 2, .int .i64 0, .string (⟨#[]⟩ : ByteArray)]) ?_ 2 _ rfl; (with_reducible repeat (first | refine Y6 ?_ _ | refine Y5 ?_ | refine Y7 ?_ _)); refine blk_put (cs := #[.int .i64 2, .int .i64 0, .string (⟨#[]⟩ : ByteArray)]) ?_ 1 _ rfl; (with_reducible repeat (first | refine Y6 ?_ _ | refine Y5 ?_ | refine Y7 ?_ _)); refine blk_put (cs := #[.int .i64 0, .int .i64 0, .string (⟨#[]⟩ : ByteArray)]) ?_ 0 _ rfl; (with_reducible repeat (first | refine Y6 ?_ _ | refine Y5 ?_ | refine Y7 ?_ _)); exact BK297.out) Tryz.underlying25 rfl (by kernel_rfl)) rfl ?_
  exact ⟨rfl, V0⟩
 rw [if_neg c2] at H
 have c2b0 : (a0_1 == 5) = false := beq_eq_false_iff_ne.mpr c2
 have c2b1 : (a0_1 != 5) = true := bne_iff_ne.mpr c2
 simp only [Option.some.injEq, Prod.mk.injEq] at H
 obtain ⟨rfl, rfl, rfl⟩ := H
 go_enter Tryz.func50, Tryz.ntmps50
 go_wp2_with (first | ((with_reducible refine Z9 (N := 1) rfl ?_); refine bx (N := 1) (cs := #[.string a0_0, .int .i64 a0_1, .int .i64 a0_2, .bool a0_3]) (t := 23) ?_; intro gb296 hg w8 hbox hb; have BK296 := Z0 hbox; have GE296 := ge hg HB.out; replace HB := Z0 (Z1 HB.out hb); clear hb hbox hg) | ((with_reducible refine Z9 (N := 2) rfl ?_); refine bx (N := 2) (cs := #[.int .i64 0, .int .i64 0, .string (⟨#[]⟩ : ByteArray)]) (t := 25) ?_; intro gb297 hg w9 hbox hb; have BK297 := Z0 hbox; have GE297 := ge hg HB.out; replace HB := Z0 (Z1 HB.out hb); obtain ⟨NB296_297, NB297_296⟩ := nb hg BK296.out; replace BK296 := Z0 (Z2 BK296.out hb); clear hb hbox hg; have hnb10 := NB296_297.out; have hnc10 := NB297_296.out; obtain ⟨hcz11_0, hcz11_1, hcz11_2, hcz11_3⟩ := bc4 BK296.out; obtain ⟨hfz11_0, hfz11_1, hfz11_2, hfz11_3⟩ := bf4 BK296.out; obtain ⟨hcz12_0, hcz12_1, hcz12_2⟩ := bc3 BK297.out; obtain ⟨hfz12_0, hfz12_1, hfz12_2⟩ := bf3 BK297.out))
 refine bodyPost_ret (results_cell_row rfl _ _ gb297 25 #[.int .i64 a0_1, .int .i64 0, .string (⟨#[]⟩ : ByteArray)] (0, 0) _ rfl (by (with_reducible repeat (first | refine Y6 ?_ _ | refine Y5 ?_ | refine Y7 ?_ _)); refine blk_put (cs := #[.int .i64 a0_1, .int .i64 0, .string (⟨#[]⟩ : ByteArray)]) ?_ 2 _ rfl; (with_reducible repeat (first | refine Y6 ?_ _ | refine Y5 ?_ | refine Y7 ?_ _)); refine blk_put (cs := #[.int .i64 a0_1, .int .i64 0, .string (⟨#[]⟩ : ByteArray)]) ?_ 1 _ rfl; (with_reducible repeat (first | refine Y6 ?_ _ | refine Y5 ?_ | refine Y7 ?_ _)); refine blk_put (cs := #[.int .i64 0, .int .i64 0, .string (⟨#[]⟩ : ByteArray)]) ?_ 0 _ rfl; (with_reducible repeat (first | refine Y6 ?_ _ | refine Y5 ?_ | refine Y7 ?_ _)); exact BK297.out) Tryz.underlying25 rfl (by kernel_rfl)) rfl ?_
 exact ⟨rfl, V0⟩
def table_isPage.f (a0 : Int) : Option (Bool) := if a0 ≥ 0 then (some (decide (a0 ≤ 2))) else (some false)
theorem table_isPage.calls (a0 : Int) (r : Bool) (w : World) (h : table_isPage.f a0 = some r) :
  Calls Tryz.prog 48 #[.int .i64 a0] w fun e w' => e = .returned (.bool r) ∧ Drawn0 w w' := by
 have H : (if a0 ≥ 0 then (some (decide (a0 ≤ 2))) else (some false)) = some r := h
 clear h
 by_cases c2 : a0 ≥ 0
 ·rw [if_pos c2] at H
  have c2b0 : decide (0 ≤ a0) = true := decide_eq_true c2
  clear c2
  obtain rfl := Option.some.inj H
  go_enter Tryz.func48, Tryz.ntmps48
  go_wp2
  go_ret
  exact ⟨V2, by repeat (first | exact Y4 _ | apply Y0)⟩
 rw [if_neg c2] at H
 have c2b0 : decide (0 ≤ a0) = false := decide_eq_false c2
 clear c2
 obtain rfl := Option.some.inj H
 go_enter Tryz.func48, Tryz.ntmps48
 go_wp2
 go_ret
 exact ⟨V2, by repeat (first | exact Y4 _ | apply Y0)⟩
def stringslite_HasPrefix.f (a0 : ByteArray) (a1 : ByteArray) : Option (Bool) := if (a0.size : Int) ≥ (a1.size : Int) then (if 0 ≤ (a1.size : Int) then (if (a1.size : Int) ≤ (a0.size : Int) then (some ((a0.extract 0 ((a1.size : Int) : Int).toNat).toList == a1.toList)) else (none)) else (none)) else (some false)
theorem stringslite_HasPrefix.calls (a0 : ByteArray) (a1 : ByteArray) (r : Bool) (w : World) (h : stringslite_HasPrefix.f a0 a1 = some r) :
  Calls Tryz.prog 100 #[.string a0, .string a1] w fun e w' => e = .returned (.bool r) ∧ Drawn0 w w' := by
 unfold stringslite_HasPrefix.f at h
 have H := h
 clear h
 by_cases c3 : (a0.size : Int) ≥ (a1.size : Int)
 rotate_left
 ·rw [if_neg c3] at H
  have c3b0 : decide ((a1.size : Int) ≤ (a0.size : Int)) = false := decide_eq_false c3
  have c3b1 : decide (a1.size ≤ a0.size) = false := decide_eq_false (fun h => c3 (Int.ofNat_le.mpr h))
  clear c3
  obtain rfl := Option.some.inj H
  go_enter Tryz.func100, Tryz.ntmps100
  go_wp2
  go_ret
  exact ⟨V2, by repeat (first | exact Y4 _ | apply Y0)⟩
 rw [if_pos c3] at H
 have c3b0 : decide ((a1.size : Int) ≤ (a0.size : Int)) = true := decide_eq_true c3
 have c3b1 : decide (a1.size ≤ a0.size) = true := decide_eq_true (Int.ofNat_le.mp c3)
 clear c3
 by_cases c4 : 0 ≤ (a1.size : Int)
 rotate_left
 ·rw [if_neg c4] at H
  exact absurd H (by simp)
 rw [if_pos c4] at H
 have c4b0 := eq_true c4
 have c4b1 : decide (0 ≤ (a1.size : Int)) = true := decide_eq_true c4
 clear c4
 by_cases c5 : (a1.size : Int) ≤ (a0.size : Int)
 rotate_left
 ·rw [if_neg c5] at H
  exact absurd H (by simp)
 rw [if_pos c5] at H
 have c5b0 := eq_true c5
 have c5b1 : decide ((a1.size : Int) ≤ (a0.size : Int)) = true := decide_eq_true c5
 clear c5
 obtain rfl := Option.some.inj H
 go_enter Tryz.func100, Tryz.ntmps100
 go_wp2
 go_ret
 exact ⟨V2, by repeat (first | exact Y4 _ | apply Y0)⟩
def strings_HasPrefix.f (a0 : ByteArray) (a1 : ByteArray) : Option (Bool) := (stringslite_HasPrefix.f a0 a1).bind fun t548 => (some t548)
theorem strings_HasPrefix.calls (a0 : ByteArray) (a1 : ByteArray) (r : Bool) (w : World) (h : strings_HasPrefix.f a0 a1 = some r) :
  Calls Tryz.prog 54 #[.string a0, .string a1] w fun e w' => e = .returned (.bool r) ∧ Drawn0 w w' := by
 have H : ((stringslite_HasPrefix.f a0 a1).bind fun t548 => (some t548)) = some r := h
 clear h
 replace H := Option.bind_eq_some_iff.mp H
 obtain ⟨t548, A30, H⟩ := H
 replace H : (some t548) = some r := H
 have A3 := Z0 A30
 clear A30
 obtain rfl := Option.some.inj H
 go_enter Tryz.func54, Tryz.ntmps54
 go_wp2_with (first | ((with_reducible refine Z5 (f := 100) rfl ?_); refine goesL_ (some 7) rfl rfl Tryz.func100 (by kernel_rfl) rfl #[.string a0, .string a1] rfl V1 ?_; (with_reducible refine (stringslite_HasPrefix.calls a0 a1 t548 _ A3.out).mono ?_); rintro e w' ⟨rfl, ⟨nd, rfl⟩⟩; refine ⟨_, rfl, ?_⟩))
 go_ret
 exact ⟨V2, by repeat (first | exact Y4 _ | apply Y0)⟩
def val_Str.j0 : Nat → Int → Int → Bool → Option (ByteArray × Int)
 | 0, _, _, _ => none
 | k + 1, x0, x1, x17 => if x17 = true then (some ((⟨#[]⟩ : ByteArray), 1)) else ((val_decimal.f x0).bind fun t545 => (if (t545.size : Int) > x1 then ((strings_Repeat.f (⟨#[42]⟩ : ByteArray) x1).bind fun t546 => (some (t546, 0))) else ((strings_Repeat.f (⟨#[32]⟩ : ByteArray) (wrap64 (x1 - (t545.size : Int)))).bind fun t547 => (if t547.size + t545.size ≤ 9223372036854775807 then (some (t547 ++ t545, 0)) else (none)))))
def val_Str.f (k : Nat) (a0 : Int) (a1 : Int) : Option (ByteArray × Int) := (val_isNum.f a0).bind fun t544 => (if t544 = true then (if a1 < 1 then (val_Str.j0 k a0 a1 true) else (val_Str.j0 k a0 a1 (decide (a1 > 254)))) else (val_Str.j0 k a0 a1 true))
theorem val_Str.mono_l : ∀ k, (∀ y0 y1 y2, LeO (val_Str.j0 k y0 y1 y2) (val_Str.j0 (k + 1) y0 y1 y2))
 | 0 => fun _ _ _ r h => by simp [val_Str.j0] at h
 | k + 1 => by
  have ih0 := val_Str.mono_l k
  ·intro y0 y1 y2
   unfold val_Str.j0
   repeat' first
   | (with_reducible exact ih0 _ _ _)
   | (with_reducible exact LeO.refl _)
   | (with_reducible exact LeO.none _)
   | (with_reducible refine LeO.ite ?_ ?_)
   | (with_reducible refine LeO.bind ?_ (fun _ => ?_))
theorem val_Str.mono : ∀ a0 a1 k, LeO (val_Str.f k a0 a1) (val_Str.f (k + 1) a0 a1) := by
 intro a0 a1 k
 have ih0 := val_Str.mono_l k
 unfold val_Str.f
 repeat' first
   | (with_reducible exact ih0 _ _ _)
   | (with_reducible exact LeO.refl _)
   | (with_reducible exact LeO.none _)
   | (with_reducible refine LeO.ite ?_ ?_)
   | (with_reducible refine LeO.bind ?_ (fun _ => ?_))
theorem val_Str.calls (k : Nat) (a0 : Int) (a1 : Int) (r1 : ByteArray) (r2 : Int) (w : World) (h : val_Str.f k a0 a1 = some (r1, r2)) :
  Calls Tryz.prog 53 #[.int .i64 a0, .int .i64 a1] w fun e w' => e = .returned (.tuple #[.string r1, .int .i64 r2]) ∧ Below w.heap.size w w' := by
 have HB := Z0 (Below.refl w.heap.size w)
 unfold val_Str.f at h
 have H := h
 clear h
 have HC3 := Z0 H
 clear H
 go_enter Tryz.func53, Tryz.ntmps53
 go_upto_region 1 with (fail)
 go_cut [17] (fun v17 wc => ∃ (kq : Nat) (x17_2 : Bool), v17 = .bool x17_2 ∧ Aside0 (val_Str.j0 kq a0 a1 x17_2 = some (r1, r2)) ∧ Aside0 (kq ≤ k) ∧ Aside0 (Below w.heap.size w wc))
 case first =>
  have H := HC3.out
  clear HC3
  replace H := Option.bind_eq_some_iff.mp H
  obtain ⟨t544, A40, H⟩ := H
  replace H : (if t544 = true then (if a1 < 1 then (val_Str.j0 k a0 a1 true) else (val_Str.j0 k a0 a1 (decide (a1 > 254)))) else (val_Str.j0 k a0 a1 true)) = some (r1, r2) := H
  have A4 := Z0 A40
  clear A40
  by_cases c5 : t544 = true
  rotate_left
  ·replace c5 := Bool.eq_false_iff.mpr c5
   subst c5
   have H1 : (val_Str.j0 k a0 a1 true) = some (r1, r2) := by rw [if_neg (show ¬ (false = true) by decide)] at H; exact H
   clear H
   have H := H1
   clear H1
   have H' := Z0 H
   clear H
   go_wp2_with (first | ((with_reducible refine Z5 (f := 97) rfl ?_); refine gl Tryz.func97 (val_isNum.calls a0 false _ A4.out) ?_; rintro e w' ⟨rfl, ⟨nd, rfl⟩⟩; refine ⟨_, rfl, ?_⟩))
   go_meet
   case rel => exact ⟨_, (true), V2, H', ⟨by first | omega | exact Nat.le_refl _⟩, ⟨V0⟩⟩
  subst c5
  have H1 : (if a1 < 1 then (val_Str.j0 k a0 a1 true) else (val_Str.j0 k a0 a1 (decide (a1 > 254)))) = some (r1, r2) := by rw [if_pos rfl] at H; exact H
  clear H
  have H := H1
  clear H1
  by_cases c6 : a1 < 1
  ·rw [if_pos c6] at H
   have c6b0 : decide (a1 < 1) = true := decide_eq_true c6
   clear c6
   (first | rw [c6b0] | (simp only [i64_w, i32_w]; rw [c6b0]) | skip)
   have H' := Z0 H
   clear H
   go_wp2_with (first | ((with_reducible refine Z5 (f := 97) rfl ?_); refine gl Tryz.func97 (val_isNum.calls a0 true _ A4.out) ?_; rintro e w' ⟨rfl, ⟨nd, rfl⟩⟩; refine ⟨_, rfl, ?_⟩))
   go_meet
   case rel => exact ⟨_, (true), V2, H', ⟨by first | omega | exact Nat.le_refl _⟩, ⟨V0⟩⟩
  rw [if_neg c6] at H
  have c6b0 : decide (a1 < 1) = false := decide_eq_false c6
  clear c6
  (first | rw [c6b0] | (simp only [i64_w, i32_w]; rw [c6b0]) | skip)
  have H' := Z0 H
  clear H
  go_wp2_with (first | ((with_reducible refine Z5 (f := 97) rfl ?_); refine gl Tryz.func97 (val_isNum.calls a0 true _ A4.out) ?_; rintro e w' ⟨rfl, ⟨nd, rfl⟩⟩; refine ⟨_, rfl, ?_⟩))
  go_meet
  case rel => exact ⟨_, (decide (a1 > 254)), V2, H', ⟨by first | omega | exact Nat.le_refl _⟩, ⟨V0⟩⟩
 case rest =>
  clear HC3
  obtain ⟨kq, x17_2, rfl, HA, HJ2, HB⟩ := hcut
  cases kq with
  | zero => exact absurd HA.out (by simp [val_Str.j0])
  | succ kj2 =>
   have H := HA.out
   clear HA
   simp only [val_Str.j0] at H
   by_cases c7 : x17_2 = true
   ·subst c7
    have H1 : (some ((⟨#[]⟩ : ByteArray), 1)) = some (r1, r2) := by rw [if_pos rfl] at H; exact H
    clear H
    have H := H1
    clear H1
    simp only [Option.some.injEq, Prod.mk.injEq] at H
    obtain ⟨rfl, rfl⟩ := H
    go_wp2
    go_ret2
    exact ⟨rfl, V0⟩
   replace c7 := Bool.eq_false_iff.mpr c7
   subst c7
   have H1 : ((val_decimal.f a0).bind fun t545 => (if (t545.size : Int) > a1 then ((strings_Repeat.f (⟨#[42]⟩ : ByteArray) a1).bind fun t546 => (some (t546, 0))) else ((strings_Repeat.f (⟨#[32]⟩ : ByteArray) (wrap64 (a1 - (t545.size : Int)))).bind fun t547 => (if t547.size + t545.size ≤ 9223372036854775807 then (some (t547 ++ t545, 0)) else (none))))) = some (r1, r2) := by rw [if_neg (show ¬ (false = true) by decide)] at H; exact H
   clear H
   have H := H1
   clear H1
   replace H := Option.bind_eq_some_iff.mp H
   obtain ⟨t545, A80, H⟩ := H
   replace H : (if (t545.size : Int) > a1 then ((strings_Repeat.f (⟨#[42]⟩ : ByteArray) a1).bind fun t546 => (some (t546, 0))) else ((strings_Repeat.f (⟨#[32]⟩ : ByteArray) (wrap64 (a1 - (t545.size : Int)))).bind fun t547 => (if t547.size + t545.size ≤ 9223372036854775807 then (some (t547 ++ t545, 0)) else (none)))) = some (r1, r2) := H
   have A8 := Z0 A80
   clear A80
   by_cases c9 : (t545.size : Int) > a1
   ·rw [if_pos c9] at H
    have c9b0 : decide (a1 < (t545.size : Int)) = true := decide_eq_true c9
    clear c9
    replace H := Option.bind_eq_some_iff.mp H
    obtain ⟨t546, A100, H⟩ := H
    replace H : (some (t546, 0)) = some (r1, r2) := H
    have A10 := Z0 A100
    clear A100
    simp only [Option.some.injEq, Prod.mk.injEq] at H
    obtain ⟨rfl, rfl⟩ := H
    go_wp2_with (first | ((with_reducible refine Z5 (f := 98) rfl ?_); refine gl Tryz.func98 (val_decimal.calls a0 t545 _ A8.out) ?_; rintro e w11 ⟨rfl, hb⟩; refine ⟨_, rfl, ?_⟩; replace HB := Z0 (Z1 HB.out hb)) | ((with_reducible refine Z5 (f := 99) rfl ?_); refine gl Tryz.func99 (strings_Repeat.calls (⟨#[42]⟩ : ByteArray) a1 t546 _ A10.out) ?_; rintro e w12 ⟨rfl, hb⟩; refine ⟨_, rfl, ?_⟩; replace HB := Z0 (Z1 HB.out hb)))
    go_ret2
    exact ⟨rfl, V0⟩
   rw [if_neg c9] at H
   have c9b0 : decide (a1 < (t545.size : Int)) = false := decide_eq_false c9
   clear c9
   replace H := Option.bind_eq_some_iff.mp H
   obtain ⟨t547, A130, H⟩ := H
   replace H : (if t547.size + t545.size ≤ 9223372036854775807 then (some (t547 ++ t545, 0)) else (none)) = some (r1, r2) := H
   have A13 := Z0 A130
   clear A130
   by_cases c14 : t547.size + t545.size ≤ 9223372036854775807
   rotate_left
   ·rw [if_neg c14] at H
    exact absurd H (by simp)
   rw [if_pos c14] at H
   have c14b0 := eq_true c14
   have c14b1 : decide (t547.size + t545.size ≤ 9223372036854775807) = true := decide_eq_true c14
   try have c14b2 : (9223372036854775807 < t547.size + t545.size) = False := eq_false (Nat.not_lt.2 c14)
   simp only [Option.some.injEq, Prod.mk.injEq] at H
   obtain ⟨rfl, rfl⟩ := H
   go_wp2_with (first | ((with_reducible refine Z5 (f := 98) rfl ?_); refine gl Tryz.func98 (val_decimal.calls a0 t545 _ A8.out) ?_; rintro e w15 ⟨rfl, hb⟩; refine ⟨_, rfl, ?_⟩; replace HB := Z0 (Z1 HB.out hb)) | ((with_reducible refine Z5 (f := 99) rfl ?_); refine gl Tryz.func99 (strings_Repeat.calls (⟨#[32]⟩ : ByteArray) (wrap64 (a1 - (t545.size : Int))) t547 _ A13.out) ?_; rintro e w16 ⟨rfl, hb⟩; refine ⟨_, rfl, ?_⟩; replace HB := Z0 (Z1 HB.out hb)))
   go_ret2
   exact ⟨rfl, V0⟩
end
def nmCh (b : UInt8) : Bool := (decide (65 ≤ b.toNat) && decide (b.toNat ≤ 90)) || (decide (48 ≤ b.toNat) && decide (b.toNat ≤ 57)) || decide (b.toNat = 95)
def capCh (b : UInt8) : Bool := decide (65 ≤ b.toNat) && decide (b.toNat ≤ 90)
def headCap : List UInt8 → Bool
 | c :: _ => capCh c
 | [] => false
def nameS (s : ByteArray) : Bool := decide (1 ≤ s.size ∧ s.size ≤ 10) && (s.data.toList.all nmCh && headCap s.data.toList)
def fieldS (s : ByteArray) (kd wd : Int) : Bool := nameS s && (kindFound kd && (decide (kindLo kd ≤ wd) && decide (wd ≤ kindHi kd)))
def pageS (pg : Int) : Bool := decide (0 ≤ pg ∧ pg ≤ 2)
def valOK (k n : Int) (s : ByteArray) : Bool := if k = 4 then decide (n = 0) else decide (s.size = 0) && (if k = 0 then decide (n = 0) else if k = 1 then decide (n = 0 ∨ n = 1) else if k = 2 then decide (-1000000000000000 ≤ n ∧ n ≤ 1000000000000000) else if k = 3 then decide (0 ≤ n ∧ n ≤ 3652059) else false)
def valS (k n : Int) (s : ByteArray) : Int := if 2048 < s.size then 3 else if valOK k n s = true then 0 else 1
def blanksOff (s : ByteArray) : ByteArray := ⟨(Lib.trimRightS s.data.toList [32]).toArray⟩
def onS (pg : Int) (s : ByteArray) : Bool := s.data.toList.all (onPage pg.toNat)
def emptyK (kd : Int) : Int := if kd = 5 then 2 else kd
def fitS (s : ByteArray) (kd wd : Int) (nl : Bool) (pg vk vn : Int) (vs : ByteArray) : Int × Int × ByteArray × Int :=
 if fieldS s kd wd = false ∨ pageS pg = false then (0, 0, ⟨#[]⟩, 1)
 else if valS vk vn vs ≠ 0 then (0, 0, ⟨#[]⟩, valS vk vn vs)
 else if vk = 0 then (if nl = true then (vk, vn, vs, 0) else (0, 0, ⟨#[]⟩, 7))
 else if vk ≠ emptyK kd then (0, 0, ⟨#[]⟩, 6)
 else if kd = 4 then (if onS pg (blanksOff (vs.extract 0 (min vs.size wd.toNat))) = true then (vk, vn, blanksOff (vs.extract 0 (min vs.size wd.toNat)), 0) else (0, 0, ⟨#[]⟩, 10))
 else if kd = 2 then (if ((decL vn).length : Int) ≤ wd then (vk, vn, vs, 0) else (0, 0, ⟨#[]⟩, 10))
 else if kd = 5 then (if 0 ≤ vn ∧ vn ≤ 99999999 then (vk, vn, vs, 0) else (0, 0, ⟨#[]⟩, 10))
 else (vk, vn, vs, 0)
theorem ba_toList (s : ByteArray) : s.toList = s.data.toList := by
 exact Lib.toList_data s
theorem ba_nil (s : ByteArray) : s.toList = ([] : List UInt8) ↔ s.size = 0 := by
 rw [ba_toList]
 constructor
 ·intro h
  rw [← data_length, h]
  rfl
 intro h
 exact List.eq_nil_of_length_eq_zero (by rw [data_length]; exact h)
theorem isPage_is (pg : Int) : table_isPage.f pg = some (pageS pg) := by
 unfold table_isPage.f pageS
 split
 ·congr 1
  rw [Bool.eq_iff_iff]; simp; omega
 congr 1
 symm
 rw [decide_eq_false_iff_not]; omega
theorem isNum_is (n : Int) : val_isNum.f n = some (decide (-1000000000000000 ≤ n ∧ n ≤ 1000000000000000)) := by
 unfold val_isNum.f
 split
 ·congr 1
  rw [Bool.eq_iff_iff]; simp; omega
 congr 1
 symm
 rw [decide_eq_false_iff_not]; omega
theorem isDay_is (n : Int) : val_isDay.f n = some (decide (0 ≤ n ∧ n ≤ 3652059)) := by
 unfold val_isDay.f
 split
 ·congr 1
  rw [Bool.eq_iff_iff]; simp; omega
 congr 1
 symm
 rw [decide_eq_false_iff_not]; omega
theorem valS_is (k : Nat) (vk vn : Int) (vs : ByteArray) : val_Validate.f (k + 1) vk vn vs = some (valS vk vn vs) := by
 unfold val_Validate.f valS
 by_cases h : 2048 < vs.size
 ·rw [if_pos (by omega), if_pos h]
 rw [if_neg (by omega), if_neg h]
 have : val_isValue.f (k + 1) vk vn vs = some (valOK vk vn vs) := by
  unfold val_isValue.f valOK
  by_cases h4 : vk = 4
  ·subst h4
   simp only [if_true]
   by_cases h0 : vn = 0
   ·subst h0; simp [val_isValue.j0]
   simp [val_isValue.j0, h0]
  rw [if_neg h4, if_neg h4]
  by_cases hs : vs.size = 0
  rotate_left
  ·rw [if_neg (fun h => hs ((ba_nil vs).1 h))]
   simp [val_isValue.j0, hs]
  rw [if_pos ((ba_nil vs).2 hs)]
  simp only [val_isValue.j0]
  by_cases k0 : vk = 0
  ·simp [k0, hs]; rfl
  by_cases k1 : vk = 1
  ·simp [k1, hs]
   by_cases n0 : vn = 0
   ·simp [n0]
   simp [n0]; rfl
  by_cases k2 : vk = 2
  ·simp [k2, hs, isNum_is]
  by_cases k3 : vk = 3
  ·simp [k3, hs, isDay_is]
  simp [k0, k1, k2, k3, hs, h4]
 rw [this]
 simp only [Option.bind_some]
 by_cases hv : valOK vk vn vs = true <;> simp [hv]
theorem isText_is (s : ByteArray) (pg : Int) (hs : s.size ≤ 2048) (hp : pageS pg = true) : table_isText.f s pg = some (onS pg s) := by
 have hp' : 0 ≤ pg ∧ pg ≤ 2 := by simpa [pageS] using hp
 unfold table_isText.f page_Valid.f onS
 rw [if_neg (by omega), if_neg (by omega)]
 simp only [Option.bind_some]
 split <;> simp_all
def starCut : List UInt8 := [65, 66, 67, 68, 69, 70, 71, 72, 73, 74, 75, 76, 77, 78, 79, 80, 81, 82, 83, 84, 85, 86, 87, 88, 89, 90, 48, 49, 50, 51, 52, 53, 54, 55, 56, 57, 95]
theorem starCut_mem (b : UInt8) : starCut.contains b = nmCh b := by
 have : ∀ b : Fin 256, starCut.contains (UInt8.ofNat b.val) = nmCh (UInt8.ofNat b.val) := by decide +kernel
 have h := this ⟨b.toNat, UInt8.toNat_lt b⟩
 simpa using h
theorem dw_nil {p : UInt8 → Bool} : ∀ {l : List UInt8}, l.dropWhile p = [] ↔ ∀ x ∈ l, p x = true
 | [] => by simp
 | c :: r => by
  rw [List.dropWhile_cons]
  by_cases h : p c = true
  ·simp [h, dw_nil (l := r)]
  ·simp [h]
theorem dw_head {p : UInt8 → Bool} : ∀ {l : List UInt8} {c : UInt8} {r : List UInt8}, l.dropWhile p = c :: r → p c = false
 | [], _, _, h => by cases h
 | d :: l, c, r, h => by
  rw [List.dropWhile_cons] at h
  by_cases hd : p d = true
  ·rw [if_pos hd] at h
   exact dw_head h
  ·rw [if_neg hd] at h
   injection h with h1 h2
   subst h1
   simpa using hd
theorem trimS_nil (l cs : List UInt8) : Lib.trimS l cs = [] ↔ l.all (cs.contains ·) = true := by
 unfold Lib.trimS Lib.trimRightS Lib.trimLeftS
 rw [dw_nil, List.all_eq_true]
 constructor
 rotate_left
 ·intro h
  have h2 : l.reverse.dropWhile (cs.contains ·) = [] := dw_nil.2 (fun x hx => h x (by simpa using hx))
  rw [h2]
  intro x hx
  cases hx
 intro h x hx
 have h2 : l.reverse.dropWhile (cs.contains ·) = [] := by
  cases hd : l.reverse.dropWhile (cs.contains ·) with
  | nil => rfl
  | cons c r =>
   have h3 := dw_head hd
   have h4 := h c (by rw [hd]; simp)
   rw [h3] at h4
   cases h4
 exact dw_nil.1 h2 x (by simpa using hx)
theorem isName_is (s : ByteArray) : table_isName.f 1 s = some (nameS s) := by
 unfold table_isName.f nameS
 by_cases h0 : s.size = 0
 ·rw [if_pos ((ba_nil s).2 h0)]
  have : ¬ (1 ≤ s.size ∧ s.size ≤ 10) := by omega
  simp [table_isName.j0, this]
 rw [if_neg (fun h => h0 ((ba_nil s).1 h))]
 by_cases h1 : s.size ≤ 10
 rotate_left
 ·rw [if_neg (by omega)]
  have : ¬ (1 ≤ s.size ∧ s.size ≤ 10) := by omega
  simp [table_isName.j0, this]
 rw [if_pos (by omega)]
 have hc : asciiB (⟨#[65, 66, 67, 68, 69, 70, 71, 72, 73, 74, 75, 76, 77, 78, 79, 80, 81, 82, 83, 84, 85, 86, 87, 88, 89, 90, 48, 49, 50, 51, 52, 53, 54, 55, 56, 57, 95]⟩ : ByteArray) = true := by decide
 have hz : (⟨#[65, 66, 67, 68, 69, 70, 71, 72, 73, 74, 75, 76, 77, 78, 79, 80, 81, 82, 83, 84, 85, 86, 87, 88, 89, 90, 48, 49, 50, 51, 52, 53, 54, 55, 56, 57, 95]⟩ : ByteArray).size < 4294967281 := by decide
 unfold strings_Trim.f
 rw [if_pos ⟨by omega, hz, hc⟩]
 simp only [Option.bind_some]
 have hl : ∃ c r, s.data.toList = c :: r := by
  cases h : s.data.toList with
  | nil => rw [← data_length, h] at h0; exact absurd rfl h0
  | cons c r => exact ⟨c, r, rfl⟩
 obtain ⟨c, r, hl⟩ := hl
 have hb : bt s 0 = (c.toNat : Int) := by
  unfold bt
  rw [dif_pos (by simp; omega)]
  have h2 : s.data.toList[0]? = some c := by rw [hl]; rfl
  rw [List.getElem?_eq_getElem (by rw [data_length]; omega)] at h2
  exact congrArg (fun z : UInt8 => (z.toNat : Int)) (Option.some.inj h2)
 have ht : (⟨(Lib.trimS s.data.toList starCut).toArray⟩ : ByteArray).toList = ([] : List UInt8) ↔ s.data.toList.all nmCh = true := by
  rw [ba_toList]
  show Lib.trimS s.data.toList starCut = [] ↔ _
  rw [trimS_nil, show (fun x => starCut.contains x) = nmCh from funext starCut_mem]
 unfold starCut at ht
 have hn : decide (1 ≤ s.size ∧ s.size ≤ 10) = true := decide_eq_true ⟨by omega, h1⟩
 by_cases ha : s.data.toList.all nmCh = true
 rotate_left
 ·rw [if_neg (fun h => ha (ht.1 h))]
  have ha' : s.data.toList.all nmCh = false := by simpa using ha
  rw [ha', Bool.false_and, Bool.and_false]
  rfl
 rw [if_pos (ht.2 ha), if_pos (by omega), hb, hn, ha, hl]
 simp only [headCap, capCh, Bool.true_and]
 by_cases h65 : (c.toNat : Int) ≥ 65
 rotate_left
 ·rw [if_neg h65]
  simp only [table_isName.j0]
  rw [decide_eq_false (show ¬ 65 ≤ c.toNat by omega), Bool.false_and]
 rw [if_pos h65]
 simp only [table_isName.j0]
 rw [decide_eq_true (show 65 ≤ c.toNat by omega), Bool.true_and]
 congr 1
 rw [Bool.eq_iff_iff]; simp; omega
theorem isField_is (s : ByteArray) (kd wd : Int) (nl : Bool) : table_isField.f s kd wd nl = some (fieldS s kd wd) := by
 unfold table_isField.f fieldS
 by_cases hk : kindFound kd = true
 ·rw [if_pos hk, isName_is, hk]
  simp only [Option.bind_some, Bool.true_and, Bool.and_assoc]
 have hk' : kindFound kd = false := by simpa using hk
 rw [if_neg hk, hk', Bool.false_and, Bool.and_false]
theorem empty_is (s : ByteArray) (kd wd : Int) (nl : Bool) : table_empty.f s kd wd nl = some (emptyK kd, 0, ⟨#[]⟩) := by
 unfold table_empty.f emptyK
 split <;> rfl
def strS (n wd : Int) : ByteArray := if ((decL n).length : Int) > wd then ⟨(Lib.repeatL [42] wd.toNat).toArray⟩ else ⟨(Lib.repeatL [32] (wd - (decL n).length).toNat ++ decL n).toArray⟩
theorem decL_len (n : Int) (h : n.natAbs < 10 ^ 18) : (decL n).length ≤ 19 := by
 unfold decL
 split
 rotate_left
 ·have := dig10_len n.toNat 17 (by omega)
  omega
 rw [List.length_cons]
 have := dig10_len n.natAbs 17 h
 omega
theorem ba_size (l : List UInt8) : (⟨l.toArray⟩ : ByteArray).size = l.length := by simp [ByteArray.size]
theorem repeatL_len (b : UInt8) (n : Nat) : (Lib.repeatL [b] n).length = n := by
 induction n with
 | zero => rfl
 | succ n ih => rw [Lib.repeatL, List.length_append, ih]; simp; omega
theorem str_is (n wd : Int) (hn : -1000000000000000 ≤ n ∧ n ≤ 1000000000000000) (hw : 1 ≤ wd ∧ wd ≤ 254) (k : Nat) : val_Str.f (k + 1) n wd = some (strS n wd, 0) := by
 have hl := decL_len n (by omega)
 unfold val_Str.f strS
 rw [isNum_is, decide_eq_true hn]
 simp only [Option.bind_some, if_true]
 rw [if_neg (by omega), decide_eq_false (by omega)]
 simp only [val_Str.j0]
 unfold val_decimal.f
 rw [if_neg (by decide), if_pos (by omega)]
 simp only [Option.bind_some]
 rw [ba_size]
 by_cases h : ((decL n).length : Int) > wd
 ·rw [if_pos h, if_pos h]
  unfold strings_Repeat.f
  rw [if_pos ⟨by omega, by omega, by show 1 * _ ≤ _; omega⟩]
  rfl
 rw [if_neg h, if_neg h]
 have hwr : wrap64 (wd - ((decL n).length : Int)) = wd - (decL n).length := by unfold wrap64; omega
 unfold strings_Repeat.f
 rw [hwr, if_pos ⟨by omega, by omega, by show 1 * _ ≤ _; omega⟩]
 simp only [Option.bind_some]
 rw [if_pos (by rw [ba_size]; show (Lib.repeatL [32] _).length + _ ≤ _; rw [repeatL_len]; omega)]
 congr 2
theorem dig10_digit (n : Nat) : dig10 n ≠ [] ∧ ∀ c ∈ dig10 n, 48 ≤ c.toNat ∧ c.toNat ≤ 57 := by
 induction n using Nat.strongRecOn with
 | _ n ih =>
 have hd : ∀ d, d < 10 → 48 ≤ (UInt8.ofNat (48 + d)).toNat ∧ (UInt8.ofNat (48 + d)).toNat ≤ 57 := by
  intro d h
  rw [UInt8.toNat_ofNat']
  omega
 by_cases h : n < 10
 ·rw [dig10_small n h]
  exact ⟨by simp, fun c hc => by rw [List.mem_singleton.1 hc]; exact hd n h⟩
 rw [dig10_big n h]
 refine ⟨by simp, fun c hc => ?_⟩
 rcases List.mem_append.1 hc with hc | hc
 ·exact (ih (n / 10) (by omega)).2 c hc
 rw [List.mem_singleton.1 hc]
 exact hd _ (by omega)
theorem decL_head (n : Int) : ∃ c r, decL n = c :: r ∧ (c.toNat = 45 ∨ (48 ≤ c.toNat ∧ c.toNat ≤ 57)) := by
 unfold decL
 split
 ·exact ⟨45, _, rfl, .inl rfl⟩
 obtain ⟨h1, h2⟩ := dig10_digit n.toNat
 cases h : dig10 n.toNat with
 | nil => exact absurd h h1
 | cons c r => exact ⟨c, r, rfl, .inr (h2 c (by rw [h]; simp))⟩
theorem prefix_one (c : UInt8) (r : List UInt8) : strings_HasPrefix.f ⟨(c :: r).toArray⟩ ⟨#[42]⟩ = some (c == 42) := by
 have h1 : (⟨(c :: r).toArray⟩ : ByteArray).size = r.length + 1 := by rw [ba_size]; rfl
 have h2 : (⟨#[42]⟩ : ByteArray).size = 1 := rfl
 unfold strings_HasPrefix.f stringslite_HasPrefix.f
 rw [h1, h2, if_pos (by omega), if_pos (by omega), if_pos (by omega)]
 simp only [Option.bind_some]
 rw [ba_toList, Lib.extract_data, ba_toList]
 simp
theorem hasPrefix_star (n wd : Int) (hw : 1 ≤ wd) : strings_HasPrefix.f (strS n wd) ⟨#[42]⟩ = some (decide (((decL n).length : Int) > wd)) := by
 unfold strS
 obtain ⟨c, r, hc, hcc⟩ := decL_head n
 by_cases h : ((decL n).length : Int) > wd
 ·rw [if_pos h, decide_eq_true h]
  obtain ⟨m, hm⟩ : ∃ m, wd.toNat = m + 1 := ⟨wd.toNat - 1, by omega⟩
  rw [hm, Lib.repeatL]
  exact prefix_one 42 _
 rw [if_neg h, decide_eq_false h]
 have hne : (c == 42) = false := by
  rw [beq_eq_false_iff_ne]
  intro e
  subst e
  simp at hcc
 cases hk : (wd - (decL n).length).toNat with
 | zero =>
  rw [Lib.repeatL, List.nil_append, hc, prefix_one, hne]
 | succ m =>
  rw [Lib.repeatL]
  exact prefix_one 32 _
section
attribute [local go_sem] max2_int min2_int max_two min_two max_three min_three max_four min_four
def cabinetryref01_IsDigit.f (a0 : Int) : Option (Bool) := if a0 ≥ 48 then (some (decide (a0 ≤ 57))) else (some false)
theorem cabinetryref01_IsDigit.calls (a0 : Int) (r : Bool) (w : World) (h : cabinetryref01_IsDigit.f a0 = some r) :
  Calls Tryz.prog 145 #[.int .u8 a0] w fun e w' => e = .returned (.bool r) ∧ Drawn0 w w' := by
 have H : (if a0 ≥ 48 then (some (decide (a0 ≤ 57))) else (some false)) = some r := h
 clear h
 by_cases c2 : a0 ≥ 48
 ·rw [if_pos c2] at H
  have c2b0 : decide (48 ≤ a0) = true := decide_eq_true c2
  clear c2
  obtain rfl := Option.some.inj H
  go_enter Tryz.func145, Tryz.ntmps145
  go_wp2
  go_ret
  exact ⟨V2, by repeat (first | exact Y4 _ | apply Y0)⟩
 rw [if_neg c2] at H
 have c2b0 : decide (48 ≤ a0) = false := decide_eq_false c2
 clear c2
 obtain rfl := Option.some.inj H
 go_enter Tryz.func145, Tryz.ntmps145
 go_wp2
 go_ret
 exact ⟨V2, by repeat (first | exact Y4 _ | apply Y0)⟩
mutual
def cabinetryref03_IsName.j0 : Nat → ByteArray → Bool → Option (Bool)
 | 0, _, _ => none
 | k + 1, x0, x13 => if x13 = true then (some false) else (cabinetryref03_IsName.l0 k x0 0)
def cabinetryref03_IsName.l0 : Nat → ByteArray → Int → Option (Bool)
 | 0, _, _ => none
 | k + 1, x0, x3 => if x3 < (x0.size : Int) then (if 0 ≤ x3 then (if (bt x0 x3) ≥ 65 then (if ((bt x0 x3) ≤ 90) then (cabinetryref03_IsName.l0 k x0 (wrap64 (x3 + 1))) else (if x3 = 0 then (some false) else (if (bt x0 x3) = 95 then (cabinetryref03_IsName.l0 k x0 (wrap64 (x3 + 1))) else ((cabinetryref01_IsDigit.f (bt x0 x3)).bind fun t101 => (if t101 = true then (cabinetryref03_IsName.l0 k x0 (wrap64 (x3 + 1))) else (some false)))))) else (if x3 = 0 then (some false) else (if (bt x0 x3) = 95 then (cabinetryref03_IsName.l0 k x0 (wrap64 (x3 + 1))) else ((cabinetryref01_IsDigit.f (bt x0 x3)).bind fun t102 => (if t102 = true then (cabinetryref03_IsName.l0 k x0 (wrap64 (x3 + 1))) else (some false)))))) else (none)) else (some true)
end
def cabinetryref03_IsName.f (k : Nat) (a0 : ByteArray) : Option (Bool) := if (a0.size : Int) < 1 then (cabinetryref03_IsName.j0 k a0 true) else (cabinetryref03_IsName.j0 k a0 (decide ((a0.size : Int) > 10)))
theorem cabinetryref03_IsName.mono_l : ∀ k, (∀ y0 y1, LeO (cabinetryref03_IsName.j0 k y0 y1) (cabinetryref03_IsName.j0 (k + 1) y0 y1)) ∧ (∀ y0 y1, LeO (cabinetryref03_IsName.l0 k y0 y1) (cabinetryref03_IsName.l0 (k + 1) y0 y1))
 | 0 => ⟨fun _ _ r h => by simp [cabinetryref03_IsName.j0] at h, fun _ _ r h => by simp [cabinetryref03_IsName.l0] at h⟩
 | k + 1 => by
  obtain ⟨ih0, ih1⟩ := cabinetryref03_IsName.mono_l k
  refine ⟨?_, ?_⟩
  ·intro y0 y1
   unfold cabinetryref03_IsName.j0
   repeat' first
   | (with_reducible exact ih0 _ _)
   | (with_reducible exact ih1 _ _)
   | (with_reducible exact LeO.refl _)
   | (with_reducible exact LeO.none _)
   | (with_reducible refine LeO.ite ?_ ?_)
   | (with_reducible refine LeO.bind ?_ (fun _ => ?_))
  ·intro y0 y1
   unfold cabinetryref03_IsName.l0
   repeat' first
   | (with_reducible exact ih0 _ _)
   | (with_reducible exact ih1 _ _)
   | (with_reducible exact LeO.refl _)
   | (with_reducible exact LeO.none _)
   | (with_reducible refine LeO.ite ?_ ?_)
   | (with_reducible refine LeO.bind ?_ (fun _ => ?_))
theorem cabinetryref03_IsName.mono : ∀ a0 k, LeO (cabinetryref03_IsName.f k a0) (cabinetryref03_IsName.f (k + 1) a0) := by
 intro a0 k
 obtain ⟨ih0, ih1⟩ := cabinetryref03_IsName.mono_l k
 unfold cabinetryref03_IsName.f
 repeat' first
   | (with_reducible exact ih0 _ _)
   | (with_reducible exact ih1 _ _)
   | (with_reducible exact LeO.refl _)
   | (with_reducible exact LeO.none _)
   | (with_reducible refine LeO.ite ?_ ?_)
   | (with_reducible refine LeO.bind ?_ (fun _ => ?_))
theorem cabinetryref03_IsName.calls (k : Nat) (a0 : ByteArray) (r : Bool) (w : World) (h : cabinetryref03_IsName.f k a0 = some r) :
  Calls Tryz.prog 101 #[.string a0] w fun e w' => e = .returned (.bool r) ∧ Drawn0 w w' := by
 unfold cabinetryref03_IsName.f at h
 have H := h
 clear h
 have HC2 := Z0 H
 clear H
 go_enter Tryz.func101, Tryz.ntmps101
 go_upto_region 1 with (fail)
 go_cut [13] (fun v13 wc => ∃ (kq : Nat) (x13_1 : Bool), v13 = .bool x13_1 ∧ Aside0 (cabinetryref03_IsName.j0 kq a0 x13_1 = some r) ∧ Aside0 (kq ≤ k) ∧ Drawn0 w wc)
 case first =>
  have H := HC2.out
  clear HC2
  by_cases c3 : (a0.size : Int) < 1
  ·rw [if_pos c3] at H
   have c3b0 : decide ((a0.size : Int) < 1) = true := decide_eq_true c3
   have c3b1 : decide (a0.size < 1) = true := decide_eq_true (by omega)
   clear c3
   (first | rw [c3b0] | (simp only [i64_w, i32_w]; rw [c3b0]) | skip)
   have H' := Z0 H
   clear H
   go_wp2
   go_meet
   case rel => exact ⟨_, (true), V2, H', ⟨by first | omega | exact Nat.le_refl _⟩, by repeat (first | exact Y4 _ | apply Y0)⟩
  rw [if_neg c3] at H
  have c3b0 : decide ((a0.size : Int) < 1) = false := decide_eq_false c3
  have c3b1 : decide (a0.size < 1) = false := decide_eq_false (by omega)
  clear c3
  (first | rw [c3b0] | (simp only [i64_w, i32_w]; rw [c3b0]) | skip)
  have H' := Z0 H
  clear H
  go_wp2
  go_meet
  case rel => exact ⟨_, (decide ((a0.size : Int) > 10)), V2, H', ⟨by first | omega | exact Nat.le_refl _⟩, by repeat (first | exact Y4 _ | apply Y0)⟩
 case rest =>
  clear HC2
  obtain ⟨kq, x13_1, rfl, HA, HJ1, ⟨mc1, rfl⟩⟩ := hcut
  cases kq with
  | zero => exact absurd HA.out (by simp [cabinetryref03_IsName.j0])
  | succ kj1 =>
   have H := HA.out
   clear HA
   simp only [cabinetryref03_IsName.j0] at H
   by_cases c4 : x13_1 = true
   ·subst c4
    have H1 : (some false) = some r := by rw [if_pos rfl] at H; exact H
    clear H
    have H := H1
    clear H1
    obtain rfl := Option.some.inj H
    go_wp2
    go_ret
    exact ⟨V2, by repeat (first | exact Y4 _ | apply Y0)⟩
   replace c4 := Bool.eq_false_iff.mpr c4
   subst c4
   have H1 : (cabinetryref03_IsName.l0 kj1 a0 0) = some r := by rw [if_neg (show ¬ (false = true) by decide)] at H; exact H
   clear H
   have H := H1
   clear H1
   have H' := Z0 H
   clear H
   go_wp2
   go_loopg [3] kj1 (fun kq v3 w' => ∃ (x3_2 : Int), v3 = .int .i64 x3_2 ∧ Aside0 (cabinetryref03_IsName.l0 kq a0 x3_2 = some r) ∧ Aside0 (kq ≤ kj1) ∧ Drawn0 w w')
   case atStart => exact ⟨(0), V2, H', ⟨Nat.le_refl _⟩, by repeat (first | exact Y4 _ | apply Y0)⟩
   case round =>
    clear H'
    obtain ⟨x3_2, rfl, HA, HK2, ⟨m2, rfl⟩⟩ := hrel
    cases gk with
    | zero => exact absurd HA.out (by simp [cabinetryref03_IsName.l0])
    | succ k2 =>
     have H := HA.out
     clear HA
     simp only [cabinetryref03_IsName.l0] at H
     by_cases c5 : x3_2 < (a0.size : Int)
     rotate_left
     ·rw [if_neg c5] at H
      have c5b0 : decide (x3_2 < (a0.size : Int)) = false := decide_eq_false c5
      clear c5
      obtain rfl := Option.some.inj H
      go_wp2
      go_ret
      exact ⟨V2, by repeat (first | exact Y4 _ | apply Y0)⟩
     rw [if_pos c5] at H
     have c5b0 : decide (x3_2 < (a0.size : Int)) = true := decide_eq_true c5
     clear c5
     by_cases c6 : 0 ≤ x3_2
     rotate_left
     ·rw [if_neg c6] at H
      exact absurd H (by simp)
     rw [if_pos c6] at H
     have c6b0 : decide (0 ≤ x3_2) = true := decide_eq_true c6
     clear c6
     by_cases c8 : (bt a0 x3_2) ≥ 65
     rotate_left
     ·rw [if_neg c8] at H
      have c8b0 : decide (65 ≤ (bt a0 x3_2)) = false := decide_eq_false c8
      clear c8
      by_cases c14 : x3_2 = 0
      ·rw [if_pos c14] at H
       have c14b0 : (x3_2 == 0) = true := beq_iff_eq.mpr c14
       have c14b1 : (x3_2 != 0) = false := bne_eq_false_iff_eq.mpr c14
       clear c14
       obtain rfl := Option.some.inj H
       have p7 : 0 ≤ (x3_2 : Int) := of_decide_eq_true V3
       have q7 : x3_2 < (a0.size : Int) := of_decide_eq_true V3
       have hx7 := bt_at a0 x3_2
       replace p7 := eq_true p7
       replace q7 := eq_true q7
       go_wp2
       go_ret
       exact ⟨V2, by repeat (first | exact Y4 _ | apply Y0)⟩
      rw [if_neg c14] at H
      have c14b0 : (x3_2 == 0) = false := beq_eq_false_iff_ne.mpr c14
      have c14b1 : (x3_2 != 0) = true := bne_iff_ne.mpr c14
      by_cases c15 : (bt a0 x3_2) = 95
      ·rw [if_pos c15] at H
       have c15b0 : ((bt a0 x3_2) == 95) = true := beq_iff_eq.mpr c15
       have c15b1 : ((bt a0 x3_2) != 95) = false := bne_eq_false_iff_eq.mpr c15
       clear c15
       have H' := Z0 H
       clear H
       have p7 : 0 ≤ (x3_2 : Int) := of_decide_eq_true V3
       have q7 : x3_2 < (a0.size : Int) := of_decide_eq_true V3
       have hx7 := bt_at a0 x3_2
       replace p7 := eq_true p7
       replace q7 := eq_true q7
       go_wp2
       go_roundg k2
       case measure => have := HJ1.out; have := HK2.out; omega
       case rel => exact ⟨(wrap64 (x3_2 + 1)), V2, H', ⟨by have := HJ1.out; have := HK2.out; omega⟩, by repeat (first | exact Y4 _ | apply Y0)⟩
      rw [if_neg c15] at H
      have c15b0 : ((bt a0 x3_2) == 95) = false := beq_eq_false_iff_ne.mpr c15
      have c15b1 : ((bt a0 x3_2) != 95) = true := bne_iff_ne.mpr c15
      replace H := Option.bind_eq_some_iff.mp H
      obtain ⟨t102, A160, H⟩ := H
      replace H : (if t102 = true then (cabinetryref03_IsName.l0 k2 a0 (wrap64 (x3_2 + 1))) else (some false)) = some r := H
      have A16 := Z0 A160
      clear A160
      by_cases c17 : t102 = true
      rotate_left
      ·replace c17 := Bool.eq_false_iff.mpr c17
       subst c17
       have H1 : (some false) = some r := by rw [if_neg (show ¬ (false = true) by decide)] at H; exact H
       clear H
       have H := H1
       clear H1
       obtain rfl := Option.some.inj H
       have p7 : 0 ≤ (x3_2 : Int) := of_decide_eq_true V3
       have q7 : x3_2 < (a0.size : Int) := of_decide_eq_true V3
       have hx7 := bt_at a0 x3_2
       replace p7 := eq_true p7
       replace q7 := eq_true q7
       go_wp2_with (first | (go_at_call 145; (with_reducible refine (cabinetryref01_IsDigit.calls (bt a0 x3_2) false _ A16.out).mono ?_); rintro e w' ⟨rfl, ⟨nd, rfl⟩⟩))
       go_ret
       exact ⟨V2, by repeat (first | exact Y4 _ | apply Y0)⟩
      subst c17
      have H1 : (cabinetryref03_IsName.l0 k2 a0 (wrap64 (x3_2 + 1))) = some r := by rw [if_pos rfl] at H; exact H
      clear H
      have H := H1
      clear H1
      have H' := Z0 H
      clear H
      have p7 : 0 ≤ (x3_2 : Int) := of_decide_eq_true V3
      have q7 : x3_2 < (a0.size : Int) := of_decide_eq_true V3
      have hx7 := bt_at a0 x3_2
      replace p7 := eq_true p7
      replace q7 := eq_true q7
      go_wp2_with (first | (go_at_call 145; (with_reducible refine (cabinetryref01_IsDigit.calls (bt a0 x3_2) true _ A16.out).mono ?_); rintro e w' ⟨rfl, ⟨nd, rfl⟩⟩))
      go_roundg k2
      case measure => have := HJ1.out; have := HK2.out; omega
      case rel => exact ⟨(wrap64 (x3_2 + 1)), V2, H', ⟨by have := HJ1.out; have := HK2.out; omega⟩, by repeat (first | exact Y4 _ | apply Y0)⟩
     rw [if_pos c8] at H
     have c8b0 : decide (65 ≤ (bt a0 x3_2)) = true := decide_eq_true c8
     clear c8
     by_cases c9 : ((bt a0 x3_2) ≤ 90)
     ·rw [if_pos c9] at H
      have c9b0 : decide ((bt a0 x3_2) ≤ 90) = true := decide_eq_true c9
      clear c9
      have H' := Z0 H
      clear H
      have p7 : 0 ≤ (x3_2 : Int) := of_decide_eq_true V3
      have q7 : x3_2 < (a0.size : Int) := of_decide_eq_true V3
      have hx7 := bt_at a0 x3_2
      replace p7 := eq_true p7
      replace q7 := eq_true q7
      go_wp2
      go_roundg k2
      case measure => have := HJ1.out; have := HK2.out; omega
      case rel => exact ⟨(wrap64 (x3_2 + 1)), V2, H', ⟨by have := HJ1.out; have := HK2.out; omega⟩, by repeat (first | exact Y4 _ | apply Y0)⟩
     rw [if_neg c9] at H
     have c9b0 : decide ((bt a0 x3_2) ≤ 90) = false := decide_eq_false c9
     clear c9
     by_cases c10 : x3_2 = 0
     ·rw [if_pos c10] at H
      have c10b0 : (x3_2 == 0) = true := beq_iff_eq.mpr c10
      have c10b1 : (x3_2 != 0) = false := bne_eq_false_iff_eq.mpr c10
      clear c10
      obtain rfl := Option.some.inj H
      have p7 : 0 ≤ (x3_2 : Int) := of_decide_eq_true V3
      have q7 : x3_2 < (a0.size : Int) := of_decide_eq_true V3
      have hx7 := bt_at a0 x3_2
      replace p7 := eq_true p7
      replace q7 := eq_true q7
      go_wp2
      go_ret
      exact ⟨V2, by repeat (first | exact Y4 _ | apply Y0)⟩
     rw [if_neg c10] at H
     have c10b0 : (x3_2 == 0) = false := beq_eq_false_iff_ne.mpr c10
     have c10b1 : (x3_2 != 0) = true := bne_iff_ne.mpr c10
     by_cases c11 : (bt a0 x3_2) = 95
     ·rw [if_pos c11] at H
      have c11b0 : ((bt a0 x3_2) == 95) = true := beq_iff_eq.mpr c11
      have c11b1 : ((bt a0 x3_2) != 95) = false := bne_eq_false_iff_eq.mpr c11
      clear c11
      have H' := Z0 H
      clear H
      have p7 : 0 ≤ (x3_2 : Int) := of_decide_eq_true V3
      have q7 : x3_2 < (a0.size : Int) := of_decide_eq_true V3
      have hx7 := bt_at a0 x3_2
      replace p7 := eq_true p7
      replace q7 := eq_true q7
      go_wp2
      go_roundg k2
      case measure => have := HJ1.out; have := HK2.out; omega
      case rel => exact ⟨(wrap64 (x3_2 + 1)), V2, H', ⟨by have := HJ1.out; have := HK2.out; omega⟩, by repeat (first | exact Y4 _ | apply Y0)⟩
     rw [if_neg c11] at H
     have c11b0 : ((bt a0 x3_2) == 95) = false := beq_eq_false_iff_ne.mpr c11
     have c11b1 : ((bt a0 x3_2) != 95) = true := bne_iff_ne.mpr c11
     replace H := Option.bind_eq_some_iff.mp H
     obtain ⟨t101, A120, H⟩ := H
     replace H : (if t101 = true then (cabinetryref03_IsName.l0 k2 a0 (wrap64 (x3_2 + 1))) else (some false)) = some r := H
     have A12 := Z0 A120
     clear A120
     by_cases c13 : t101 = true
     rotate_left
     ·replace c13 := Bool.eq_false_iff.mpr c13
      subst c13
      have H1 : (some false) = some r := by rw [if_neg (show ¬ (false = true) by decide)] at H; exact H
      clear H
      have H := H1
      clear H1
      obtain rfl := Option.some.inj H
      have p7 : 0 ≤ (x3_2 : Int) := of_decide_eq_true V3
      have q7 : x3_2 < (a0.size : Int) := of_decide_eq_true V3
      have hx7 := bt_at a0 x3_2
      replace p7 := eq_true p7
      replace q7 := eq_true q7
      go_wp2_with (first | (go_at_call 145; (with_reducible refine (cabinetryref01_IsDigit.calls (bt a0 x3_2) false _ A12.out).mono ?_); rintro e w' ⟨rfl, ⟨nd, rfl⟩⟩))
      go_ret
      exact ⟨V2, by repeat (first | exact Y4 _ | apply Y0)⟩
     subst c13
     have H1 : (cabinetryref03_IsName.l0 k2 a0 (wrap64 (x3_2 + 1))) = some r := by rw [if_pos rfl] at H; exact H
     clear H
     have H := H1
     clear H1
     have H' := Z0 H
     clear H
     have p7 : 0 ≤ (x3_2 : Int) := of_decide_eq_true V3
     have q7 : x3_2 < (a0.size : Int) := of_decide_eq_true V3
     have hx7 := bt_at a0 x3_2
     replace p7 := eq_true p7
     replace q7 := eq_true q7
     go_wp2_with (first | (go_at_call 145; (with_reducible refine (cabinetryref01_IsDigit.calls (bt a0 x3_2) true _ A12.out).mono ?_); rintro e w' ⟨rfl, ⟨nd, rfl⟩⟩))
     go_roundg k2
     case measure => have := HJ1.out; have := HK2.out; omega
     case rel => exact ⟨(wrap64 (x3_2 + 1)), V2, H', ⟨by have := HJ1.out; have := HK2.out; omega⟩, by repeat (first | exact Y4 _ | apply Y0)⟩
def cabinetryref03_isField.j0 : Nat → Int → Bool → ByteArray → Int → Int → Bool → Option (Bool)
 | 0, _, _, _, _, _, _ => none
 | k + 1, x8, x24, x104000, x104001, x104002, x104003 => if x24 = true then (some (x104002 == 8)) else (if x8 = 4 then (if x104002 ≥ 1 then (some (decide (x104002 ≤ 254))) else (some false)) else (some false))
def cabinetryref03_isField.f (k : Nat) (a0_0 : ByteArray) (a0_1 : Int) (a0_2 : Int) (a0_3 : Bool) : Option (Bool) := (cabinetryref03_IsName.f k a0_0).bind fun t104 => (if t104 = true then (if a0_1 = 1 then (some (a0_2 == 1)) else (if a0_1 = 2 then (if a0_2 ≥ 1 then (some (decide (a0_2 ≤ 15))) else (some false)) else (if a0_1 = 3 then (cabinetryref03_isField.j0 k a0_1 (a0_1 == 3) a0_0 a0_1 a0_2 a0_3) else (cabinetryref03_isField.j0 k a0_1 (a0_1 == 5) a0_0 a0_1 a0_2 a0_3)))) else (some false))
theorem cabinetryref03_isField.mono_l : ∀ k, (∀ y0 y1 y2 y3 y4 y5, LeO (cabinetryref03_isField.j0 k y0 y1 y2 y3 y4 y5) (cabinetryref03_isField.j0 (k + 1) y0 y1 y2 y3 y4 y5))
 | 0 => fun _ _ _ _ _ _ r h => by simp [cabinetryref03_isField.j0] at h
 | k + 1 => by
  have ih0 := cabinetryref03_isField.mono_l k
  ·intro y0 y1 y2 y3 y4 y5
   unfold cabinetryref03_isField.j0
   repeat' first
   | (with_reducible exact ih0 _ _ _ _ _ _)
   | (with_reducible exact cabinetryref03_IsName.mono _ _)
   | (with_reducible exact LeO.refl _)
   | (with_reducible exact LeO.none _)
   | (with_reducible refine LeO.ite ?_ ?_)
   | (with_reducible refine LeO.bind ?_ (fun _ => ?_))
theorem cabinetryref03_isField.mono : ∀ a0 a1 a2 a3 k, LeO (cabinetryref03_isField.f k a0 a1 a2 a3) (cabinetryref03_isField.f (k + 1) a0 a1 a2 a3) := by
 intro a0 a1 a2 a3 k
 have ih0 := cabinetryref03_isField.mono_l k
 unfold cabinetryref03_isField.f
 repeat' first
   | (with_reducible exact ih0 _ _ _ _ _ _)
   | (with_reducible exact cabinetryref03_IsName.mono _ _)
   | (with_reducible exact LeO.refl _)
   | (with_reducible exact LeO.none _)
   | (with_reducible refine LeO.ite ?_ ?_)
   | (with_reducible refine LeO.bind ?_ (fun _ => ?_))
theorem cabinetryref03_isField.calls (k : Nat) (a0_0 : ByteArray) (a0_1 : Int) (a0_2 : Int) (a0_3 : Bool) (r : Bool) (w : World) (h : cabinetryref03_isField.f k a0_0 a0_1 a0_2 a0_3 = some r) :
  Calls Tryz.prog 55 #[.agg #[.string a0_0, .int .i64 a0_1, .int .i64 a0_2, .bool a0_3]] w fun e w' => e = .returned (.bool r) ∧ Below w.heap.size w w' := by
 have hu23 := Tryz.underlying23
 have HB := Z0 (Below.refl w.heap.size w)
 unfold cabinetryref03_isField.f at h
 have H := h
 clear h
 replace H := Option.bind_eq_some_iff.mp H
 obtain ⟨t104, A20, H⟩ := H
 replace H : (if t104 = true then (if a0_1 = 1 then (some (a0_2 == 1)) else (if a0_1 = 2 then (if a0_2 ≥ 1 then (some (decide (a0_2 ≤ 15))) else (some false)) else (if a0_1 = 3 then (cabinetryref03_isField.j0 k a0_1 (a0_1 == 3) a0_0 a0_1 a0_2 a0_3) else (cabinetryref03_isField.j0 k a0_1 (a0_1 == 5) a0_0 a0_1 a0_2 a0_3)))) else (some false)) = some r := H
 have A2 := Z0 A20
 clear A20
 by_cases c3 : t104 = true
 rotate_left
 ·replace c3 := Bool.eq_false_iff.mpr c3
  subst c3
  have H1 : (some false) = some r := by rw [if_neg (show ¬ (false = true) by decide)] at H; exact H
  clear H
  have H := H1
  clear H1
  obtain rfl := Option.some.inj H
  go_enter Tryz.func55, Tryz.ntmps55
  go_wp2_with (first | ((with_reducible refine Z9 (N := 1) rfl ?_); refine bx (N := 1) (cs := #[.string a0_0, .int .i64 a0_1, .int .i64 a0_2, .bool a0_3]) (t := 23) ?_; intro gb103 hg w23 hbox hb; have BK103 := Z0 hbox; have GE103 := ge hg HB.out; replace HB := Z0 (Z1 HB.out hb); clear hb hbox hg; obtain ⟨hcz24_0, hcz24_1, hcz24_2, hcz24_3⟩ := bc4 BK103.out; obtain ⟨hfz24_0, hfz24_1, hfz24_2, hfz24_3⟩ := bf4 BK103.out) | ((with_reducible refine Z5 (f := 101) rfl ?_); refine gl Tryz.func101 (cabinetryref03_IsName.calls k a0_0 false _ A2.out) ?_; rintro e w' ⟨rfl, ⟨nd, rfl⟩⟩; refine ⟨_, rfl, ?_⟩))
  go_ret
  exact ⟨rfl, V0⟩
 subst c3
 have H1 : (if a0_1 = 1 then (some (a0_2 == 1)) else (if a0_1 = 2 then (if a0_2 ≥ 1 then (some (decide (a0_2 ≤ 15))) else (some false)) else (if a0_1 = 3 then (cabinetryref03_isField.j0 k a0_1 (a0_1 == 3) a0_0 a0_1 a0_2 a0_3) else (cabinetryref03_isField.j0 k a0_1 (a0_1 == 5) a0_0 a0_1 a0_2 a0_3)))) = some r := by rw [if_pos rfl] at H; exact H
 clear H
 have H := H1
 clear H1
 by_cases c4 : a0_1 = 1
 ·rw [if_pos c4] at H
  have c4b0 : (a0_1 == 1) = true := beq_iff_eq.mpr c4
  have c4b1 : (a0_1 != 1) = false := bne_eq_false_iff_eq.mpr c4
  clear c4
  obtain rfl := Option.some.inj H
  go_enter Tryz.func55, Tryz.ntmps55
  go_wp2_with (first | ((with_reducible refine Z9 (N := 1) rfl ?_); refine bx (N := 1) (cs := #[.string a0_0, .int .i64 a0_1, .int .i64 a0_2, .bool a0_3]) (t := 23) ?_; intro gb103 hg w5 hbox hb; have BK103 := Z0 hbox; have GE103 := ge hg HB.out; replace HB := Z0 (Z1 HB.out hb); clear hb hbox hg; obtain ⟨hcz6_0, hcz6_1, hcz6_2, hcz6_3⟩ := bc4 BK103.out; obtain ⟨hfz6_0, hfz6_1, hfz6_2, hfz6_3⟩ := bf4 BK103.out) | ((with_reducible refine Z5 (f := 101) rfl ?_); refine gl Tryz.func101 (cabinetryref03_IsName.calls k a0_0 true _ A2.out) ?_; rintro e w' ⟨rfl, ⟨nd, rfl⟩⟩; refine ⟨_, rfl, ?_⟩))
  go_ret
  exact ⟨rfl, V0⟩
 rw [if_neg c4] at H
 have c4b0 : (a0_1 == 1) = false := beq_eq_false_iff_ne.mpr c4
 have c4b1 : (a0_1 != 1) = true := bne_iff_ne.mpr c4
 by_cases c7 : a0_1 = 2
 ·rw [if_pos c7] at H
  have c7b0 : (a0_1 == 2) = true := beq_iff_eq.mpr c7
  have c7b1 : (a0_1 != 2) = false := bne_eq_false_iff_eq.mpr c7
  clear c7
  by_cases c8 : a0_2 ≥ 1
  ·rw [if_pos c8] at H
   have c8b0 : decide (1 ≤ a0_2) = true := decide_eq_true c8
   clear c8
   obtain rfl := Option.some.inj H
   go_enter Tryz.func55, Tryz.ntmps55
   go_wp2_with (first | ((with_reducible refine Z9 (N := 1) rfl ?_); refine bx (N := 1) (cs := #[.string a0_0, .int .i64 a0_1, .int .i64 a0_2, .bool a0_3]) (t := 23) ?_; intro gb103 hg w9 hbox hb; have BK103 := Z0 hbox; have GE103 := ge hg HB.out; replace HB := Z0 (Z1 HB.out hb); clear hb hbox hg; obtain ⟨hcz10_0, hcz10_1, hcz10_2, hcz10_3⟩ := bc4 BK103.out; obtain ⟨hfz10_0, hfz10_1, hfz10_2, hfz10_3⟩ := bf4 BK103.out) | ((with_reducible refine Z5 (f := 101) rfl ?_); refine gl Tryz.func101 (cabinetryref03_IsName.calls k a0_0 true _ A2.out) ?_; rintro e w' ⟨rfl, ⟨nd, rfl⟩⟩; refine ⟨_, rfl, ?_⟩))
   go_ret
   exact ⟨rfl, V0⟩
  rw [if_neg c8] at H
  have c8b0 : decide (1 ≤ a0_2) = false := decide_eq_false c8
  clear c8
  obtain rfl := Option.some.inj H
  go_enter Tryz.func55, Tryz.ntmps55
  go_wp2_with (first | ((with_reducible refine Z9 (N := 1) rfl ?_); refine bx (N := 1) (cs := #[.string a0_0, .int .i64 a0_1, .int .i64 a0_2, .bool a0_3]) (t := 23) ?_; intro gb103 hg w11 hbox hb; have BK103 := Z0 hbox; have GE103 := ge hg HB.out; replace HB := Z0 (Z1 HB.out hb); clear hb hbox hg; obtain ⟨hcz12_0, hcz12_1, hcz12_2, hcz12_3⟩ := bc4 BK103.out; obtain ⟨hfz12_0, hfz12_1, hfz12_2, hfz12_3⟩ := bf4 BK103.out) | ((with_reducible refine Z5 (f := 101) rfl ?_); refine gl Tryz.func101 (cabinetryref03_IsName.calls k a0_0 true _ A2.out) ?_; rintro e w' ⟨rfl, ⟨nd, rfl⟩⟩; refine ⟨_, rfl, ?_⟩))
  go_ret
  exact ⟨rfl, V0⟩
 rw [if_neg c7] at H
 have c7b0 : (a0_1 == 2) = false := beq_eq_false_iff_ne.mpr c7
 have c7b1 : (a0_1 != 2) = true := bne_iff_ne.mpr c7
 have HC13 := Z0 H
 clear H
 go_enter Tryz.func55, Tryz.ntmps55
 go_upto_if 24 with (first | ((with_reducible refine Z9 (N := 1) rfl ?_); refine bx (N := 1) (cs := #[.string a0_0, .int .i64 a0_1, .int .i64 a0_2, .bool a0_3]) (t := 23) ?_; intro gb103 hg w14 hbox hb; have BK103 := Z0 hbox; have GE103 := ge hg HB.out; replace HB := Z0 (Z1 HB.out hb); clear hb hbox hg; obtain ⟨hcz15_0, hcz15_1, hcz15_2, hcz15_3⟩ := bc4 BK103.out; obtain ⟨hfz15_0, hfz15_1, hfz15_2, hfz15_3⟩ := bf4 BK103.out) | ((with_reducible refine Z5 (f := 101) rfl ?_); refine gl Tryz.func101 (cabinetryref03_IsName.calls k a0_0 true _ A2.out) ?_; rintro e w' ⟨rfl, ⟨nd, rfl⟩⟩; refine ⟨_, rfl, ?_⟩))
 (try simp only [Act.put, Z3, Z6, Z7])
 go_cut [24] (fun v24 wc => ∃ (kq : Nat) (x24_12 : Bool), v24 = .bool x24_12 ∧ Aside0 (cabinetryref03_isField.j0 kq a0_1 x24_12 a0_0 a0_1 a0_2 a0_3 = some r) ∧ Aside0 (kq ≤ k) ∧ Aside0 (wc.heap[gb103]? = some (.cells #[.string a0_0, .int .i64 a0_1, .int .i64 a0_2, .bool a0_3] 23 (0, 0))) ∧ Aside0 (Below w.heap.size w wc))
 case first =>
  have H := HC13.out
  clear HC13
  by_cases c16 : a0_1 = 3
  ·rw [if_pos c16] at H
   have c16b0 : (a0_1 == 3) = true := beq_iff_eq.mpr c16
   have c16b1 : (a0_1 != 3) = false := bne_eq_false_iff_eq.mpr c16
   clear c16
   (first | rw [c16b0] | (simp only [i64_w, i32_w]; rw [c16b0]) | skip)
   have H' := Z0 H
   clear H
   go_wp2
   go_meet
   case rel => exact ⟨_, ((a0_1 == 3)), V2, H', ⟨by first | omega | exact Nat.le_refl _⟩, ⟨bk⟩, ⟨V0⟩⟩
  rw [if_neg c16] at H
  have c16b0 : (a0_1 == 3) = false := beq_eq_false_iff_ne.mpr c16
  have c16b1 : (a0_1 != 3) = true := bne_iff_ne.mpr c16
  (first | rw [c16b0] | (simp only [i64_w, i32_w]; rw [c16b0]) | skip)
  have H' := Z0 H
  clear H
  go_wp2
  go_meet
  case rel => exact ⟨_, ((a0_1 == 5)), V2, H', ⟨by first | omega | exact Nat.le_refl _⟩, ⟨bk⟩, ⟨V0⟩⟩
 case rest =>
  clear HC13
  obtain ⟨kq, x24_12, rfl, HA, HJ12, BK103, HB⟩ := hcut
  cases kq with
  | zero => exact absurd HA.out (by simp [cabinetryref03_isField.j0])
  | succ kj12 =>
   have H := HA.out
   clear HA
   simp only [cabinetryref03_isField.j0] at H
   by_cases c17 : x24_12 = true
   ·subst c17
    have H1 : (some (a0_2 == 8)) = some r := by rw [if_pos rfl] at H; exact H
    clear H
    have H := H1
    clear H1
    obtain rfl := Option.some.inj H
    obtain ⟨hcz18_0, hcz18_1, hcz18_2, hcz18_3⟩ := bc4 BK103.out
    obtain ⟨hfz18_0, hfz18_1, hfz18_2, hfz18_3⟩ := bf4 BK103.out
    go_wp2
    go_ret
    exact ⟨rfl, V0⟩
   replace c17 := Bool.eq_false_iff.mpr c17
   subst c17
   have H1 : (if a0_1 = 4 then (if a0_2 ≥ 1 then (some (decide (a0_2 ≤ 254))) else (some false)) else (some false)) = some r := by rw [if_neg (show ¬ (false = true) by decide)] at H; exact H
   clear H
   have H := H1
   clear H1
   by_cases c19 : a0_1 = 4
   rotate_left
   ·rw [if_neg c19] at H
    have c19b0 : (a0_1 == 4) = false := beq_eq_false_iff_ne.mpr c19
    have c19b1 : (a0_1 != 4) = true := bne_iff_ne.mpr c19
    obtain rfl := Option.some.inj H
    go_wp2
    go_ret
    exact ⟨rfl, V0⟩
   rw [if_pos c19] at H
   have c19b0 : (a0_1 == 4) = true := beq_iff_eq.mpr c19
   have c19b1 : (a0_1 != 4) = false := bne_eq_false_iff_eq.mpr c19
   clear c19
   by_cases c20 : a0_2 ≥ 1
   ·rw [if_pos c20] at H
    have c20b0 : decide (1 ≤ a0_2) = true := decide_eq_true c20
    clear c20
    obtain rfl := Option.some.inj H
    obtain ⟨hcz21_0, hcz21_1, hcz21_2, hcz21_3⟩ := bc4 BK103.out
    obtain ⟨hfz21_0, hfz21_1, hfz21_2, hfz21_3⟩ := bf4 BK103.out
    go_wp2
    go_ret
    exact ⟨rfl, V0⟩
   rw [if_neg c20] at H
   have c20b0 : decide (1 ≤ a0_2) = false := decide_eq_false c20
   clear c20
   obtain rfl := Option.some.inj H
   obtain ⟨hcz22_0, hcz22_1, hcz22_2, hcz22_3⟩ := bc4 BK103.out
   obtain ⟨hfz22_0, hfz22_1, hfz22_2, hfz22_3⟩ := bf4 BK103.out
   go_wp2
   go_ret
   exact ⟨rfl, V0⟩
def cabinetryref03_isPage.f (a0 : Int) : Option (Bool) := if a0 ≥ 0 then (some (decide (a0 ≤ 2))) else (some false)
theorem cabinetryref03_isPage.calls (a0 : Int) (r : Bool) (w : World) (h : cabinetryref03_isPage.f a0 = some r) :
  Calls Tryz.prog 56 #[.int .i64 a0] w fun e w' => e = .returned (.bool r) ∧ Drawn0 w w' := by
 have H : (if a0 ≥ 0 then (some (decide (a0 ≤ 2))) else (some false)) = some r := h
 clear h
 by_cases c2 : a0 ≥ 0
 ·rw [if_pos c2] at H
  have c2b0 : decide (0 ≤ a0) = true := decide_eq_true c2
  clear c2
  obtain rfl := Option.some.inj H
  go_enter Tryz.func56, Tryz.ntmps56
  go_wp2
  go_ret
  exact ⟨V2, by repeat (first | exact Y4 _ | apply Y0)⟩
 rw [if_neg c2] at H
 have c2b0 : decide (0 ≤ a0) = false := decide_eq_false c2
 clear c2
 obtain rfl := Option.some.inj H
 go_enter Tryz.func56, Tryz.ntmps56
 go_wp2
 go_ret
 exact ⟨V2, by repeat (first | exact Y4 _ | apply Y0)⟩
def cabinetryref01_InNum.f (a0 : Int) : Option (Bool) := if a0 ≥ (-1000000000000000) then (some (decide (a0 ≤ 1000000000000000))) else (some false)
theorem cabinetryref01_InNum.calls (a0 : Int) (r : Bool) (w : World) (h : cabinetryref01_InNum.f a0 = some r) :
  Calls Tryz.prog 102 #[.int .i64 a0] w fun e w' => e = .returned (.bool r) ∧ Drawn0 w w' := by
 have H : (if a0 ≥ (-1000000000000000) then (some (decide (a0 ≤ 1000000000000000))) else (some false)) = some r := h
 clear h
 by_cases c2 : a0 ≥ (-1000000000000000)
 ·rw [if_pos c2] at H
  have c2b0 : decide ((-1000000000000000) ≤ a0) = true := decide_eq_true c2
  clear c2
  obtain rfl := Option.some.inj H
  go_enter Tryz.func102, Tryz.ntmps102
  go_wp2
  go_ret
  exact ⟨V2, by repeat (first | exact Y4 _ | apply Y0)⟩
 rw [if_neg c2] at H
 have c2b0 : decide ((-1000000000000000) ≤ a0) = false := decide_eq_false c2
 clear c2
 obtain rfl := Option.some.inj H
 go_enter Tryz.func102, Tryz.ntmps102
 go_wp2
 go_ret
 exact ⟨V2, by repeat (first | exact Y4 _ | apply Y0)⟩
def cabinetryref01_Validate.f (a0_0 : Int) (a0_1 : Int) (a0_2 : ByteArray) : Option (Int) := if (a0_2.size : Int) > 2048 then (some 3) else (if a0_0 = 0 then (if a0_1 = 0 then (if a0_0 = 4 then (some 0) else (if a0_2.toList = ([] : List UInt8) then (some 0) else (some 1))) else (some 1)) else (if a0_0 = 1 then (if a0_1 = 0 then (if a0_0 = 4 then (some 0) else (if a0_2.toList = ([] : List UInt8) then (some 0) else (some 1))) else (if a0_1 = 1 then (if a0_0 = 4 then (some 0) else (if a0_2.toList = ([] : List UInt8) then (some 0) else (some 1))) else (some 1))) else (if a0_0 = 2 then ((cabinetryref01_InNum.f a0_1).bind fun t106 => (if t106 = true then (if a0_0 = 4 then (some 0) else (if a0_2.toList = ([] : List UInt8) then (some 0) else (some 1))) else (some 1))) else (if a0_0 = 3 then (if a0_1 ≥ 0 then (if a0_1 ≤ 3652059 then (if a0_0 = 4 then (some 0) else (if a0_2.toList = ([] : List UInt8) then (some 0) else (some 1))) else (some 1)) else (some 1)) else (if a0_0 = 4 then (if a0_1 = 0 then (some 0) else (some 1)) else (some 1))))))
theorem cabinetryref01_Validate.calls (a0_0 : Int) (a0_1 : Int) (a0_2 : ByteArray) (r : Int) (w : World) (h : cabinetryref01_Validate.f a0_0 a0_1 a0_2 = some r) :
  Calls Tryz.prog 57 #[.agg #[.int .i64 a0_0, .int .i64 a0_1, .string a0_2]] w fun e w' => e = .returned (.int .i64 r) ∧ Below w.heap.size w w' := by
 have hu25 := Tryz.underlying25
 have HB := Z0 (Below.refl w.heap.size w)
 unfold cabinetryref01_Validate.f at h
 have H := h
 clear h
 by_cases c2 : (a0_2.size : Int) > 2048
 ·rw [if_pos c2] at H
  have c2b0 : decide (2048 < (a0_2.size : Int)) = true := decide_eq_true c2
  have c2b1 : decide (2048 < a0_2.size) = true := decide_eq_true (by omega)
  clear c2
  obtain rfl := Option.some.inj H
  go_enter Tryz.func57, Tryz.ntmps57
  go_wp2_with (first | ((with_reducible refine Z9 (N := 1) rfl ?_); refine bx (N := 1) (cs := #[.int .i64 a0_0, .int .i64 a0_1, .string a0_2]) (t := 25) ?_; intro gb105 hg w3 hbox hb; have BK105 := Z0 hbox; have GE105 := ge hg HB.out; replace HB := Z0 (Z1 HB.out hb); clear hb hbox hg; obtain ⟨hcz4_0, hcz4_1, hcz4_2⟩ := bc3 BK105.out; obtain ⟨hfz4_0, hfz4_1, hfz4_2⟩ := bf3 BK105.out))
  go_ret
  exact ⟨rfl, V0⟩
 rw [if_neg c2] at H
 have c2b0 : decide (2048 < (a0_2.size : Int)) = false := decide_eq_false c2
 have c2b1 : decide (2048 < a0_2.size) = false := decide_eq_false (by omega)
 clear c2
 by_cases c5 : a0_0 = 0
 ·rw [if_pos c5] at H
  have c5b0 : (a0_0 == 0) = true := beq_iff_eq.mpr c5
  have c5b1 : (a0_0 != 0) = false := bne_eq_false_iff_eq.mpr c5
  clear c5
  by_cases c6 : a0_1 = 0
  rotate_left
  ·rw [if_neg c6] at H
   have c6b0 : (a0_1 == 0) = false := beq_eq_false_iff_ne.mpr c6
   have c6b1 : (a0_1 != 0) = true := bne_iff_ne.mpr c6
   obtain rfl := Option.some.inj H
   go_enter Tryz.func57, Tryz.ntmps57
   go_wp2_with (first | ((with_reducible refine Z9 (N := 1) rfl ?_); refine bx (N := 1) (cs := #[.int .i64 a0_0, .int .i64 a0_1, .string a0_2]) (t := 25) ?_; intro gb105 hg w15 hbox hb; have BK105 := Z0 hbox; have GE105 := ge hg HB.out; replace HB := Z0 (Z1 HB.out hb); clear hb hbox hg; obtain ⟨hcz16_0, hcz16_1, hcz16_2⟩ := bc3 BK105.out; obtain ⟨hfz16_0, hfz16_1, hfz16_2⟩ := bf3 BK105.out))
   go_ret
   exact ⟨rfl, V0⟩
  rw [if_pos c6] at H
  have c6b0 : (a0_1 == 0) = true := beq_iff_eq.mpr c6
  have c6b1 : (a0_1 != 0) = false := bne_eq_false_iff_eq.mpr c6
  clear c6
  by_cases c7 : a0_0 = 4
  ·rw [if_pos c7] at H
   have c7b0 : (a0_0 == 4) = true := beq_iff_eq.mpr c7
   have c7b1 : (a0_0 != 4) = false := bne_eq_false_iff_eq.mpr c7
   clear c7
   obtain rfl := Option.some.inj H
   go_enter Tryz.func57, Tryz.ntmps57
   go_wp2_with (first | ((with_reducible refine Z9 (N := 1) rfl ?_); refine bx (N := 1) (cs := #[.int .i64 a0_0, .int .i64 a0_1, .string a0_2]) (t := 25) ?_; intro gb105 hg w8 hbox hb; have BK105 := Z0 hbox; have GE105 := ge hg HB.out; replace HB := Z0 (Z1 HB.out hb); clear hb hbox hg; obtain ⟨hcz9_0, hcz9_1, hcz9_2⟩ := bc3 BK105.out; obtain ⟨hfz9_0, hfz9_1, hfz9_2⟩ := bf3 BK105.out))
   go_ret
   exact ⟨rfl, V0⟩
  rw [if_neg c7] at H
  have c7b0 : (a0_0 == 4) = false := beq_eq_false_iff_ne.mpr c7
  have c7b1 : (a0_0 != 4) = true := bne_iff_ne.mpr c7
  by_cases c10 : a0_2.toList = ([] : List UInt8)
  ·rw [if_pos c10] at H
   have c10b0 : (a0_2.toList == ([] : List UInt8)) = true := beq_iff_eq.mpr c10
   have c10b1 : (a0_2.toList != ([] : List UInt8)) = false := bne_eq_false_iff_eq.mpr c10
   clear c10
   obtain rfl := Option.some.inj H
   go_enter Tryz.func57, Tryz.ntmps57
   go_wp2_with (first | ((with_reducible refine Z9 (N := 1) rfl ?_); refine bx (N := 1) (cs := #[.int .i64 a0_0, .int .i64 a0_1, .string a0_2]) (t := 25) ?_; intro gb105 hg w11 hbox hb; have BK105 := Z0 hbox; have GE105 := ge hg HB.out; replace HB := Z0 (Z1 HB.out hb); clear hb hbox hg; obtain ⟨hcz12_0, hcz12_1, hcz12_2⟩ := bc3 BK105.out; obtain ⟨hfz12_0, hfz12_1, hfz12_2⟩ := bf3 BK105.out))
   go_ret
   exact ⟨rfl, V0⟩
  rw [if_neg c10] at H
  have c10b0 : (a0_2.toList == ([] : List UInt8)) = false := beq_eq_false_iff_ne.mpr c10
  have c10b1 : (a0_2.toList != ([] : List UInt8)) = true := bne_iff_ne.mpr c10
  obtain rfl := Option.some.inj H
  go_enter Tryz.func57, Tryz.ntmps57
  go_wp2_with (first | ((with_reducible refine Z9 (N := 1) rfl ?_); refine bx (N := 1) (cs := #[.int .i64 a0_0, .int .i64 a0_1, .string a0_2]) (t := 25) ?_; intro gb105 hg w13 hbox hb; have BK105 := Z0 hbox; have GE105 := ge hg HB.out; replace HB := Z0 (Z1 HB.out hb); clear hb hbox hg; obtain ⟨hcz14_0, hcz14_1, hcz14_2⟩ := bc3 BK105.out; obtain ⟨hfz14_0, hfz14_1, hfz14_2⟩ := bf3 BK105.out))
  go_ret
  exact ⟨rfl, V0⟩
 rw [if_neg c5] at H
 have c5b0 : (a0_0 == 0) = false := beq_eq_false_iff_ne.mpr c5
 have c5b1 : (a0_0 != 0) = true := bne_iff_ne.mpr c5
 by_cases c17 : a0_0 = 1
 ·rw [if_pos c17] at H
  have c17b0 : (a0_0 == 1) = true := beq_iff_eq.mpr c17
  have c17b1 : (a0_0 != 1) = false := bne_eq_false_iff_eq.mpr c17
  clear c17
  by_cases c18 : a0_1 = 0
  ·rw [if_pos c18] at H
   have c18b0 : (a0_1 == 0) = true := beq_iff_eq.mpr c18
   have c18b1 : (a0_1 != 0) = false := bne_eq_false_iff_eq.mpr c18
   clear c18
   by_cases c19 : a0_0 = 4
   ·rw [if_pos c19] at H
    have c19b0 : (a0_0 == 4) = true := beq_iff_eq.mpr c19
    have c19b1 : (a0_0 != 4) = false := bne_eq_false_iff_eq.mpr c19
    clear c19
    obtain rfl := Option.some.inj H
    go_enter Tryz.func57, Tryz.ntmps57
    go_wp2_with (first | ((with_reducible refine Z9 (N := 1) rfl ?_); refine bx (N := 1) (cs := #[.int .i64 a0_0, .int .i64 a0_1, .string a0_2]) (t := 25) ?_; intro gb105 hg w20 hbox hb; have BK105 := Z0 hbox; have GE105 := ge hg HB.out; replace HB := Z0 (Z1 HB.out hb); clear hb hbox hg; obtain ⟨hcz21_0, hcz21_1, hcz21_2⟩ := bc3 BK105.out; obtain ⟨hfz21_0, hfz21_1, hfz21_2⟩ := bf3 BK105.out))
    go_ret
    exact ⟨rfl, V0⟩
   rw [if_neg c19] at H
   have c19b0 : (a0_0 == 4) = false := beq_eq_false_iff_ne.mpr c19
   have c19b1 : (a0_0 != 4) = true := bne_iff_ne.mpr c19
   by_cases c22 : a0_2.toList = ([] : List UInt8)
   ·rw [if_pos c22] at H
    have c22b0 : (a0_2.toList == ([] : List UInt8)) = true := beq_iff_eq.mpr c22
    have c22b1 : (a0_2.toList != ([] : List UInt8)) = false := bne_eq_false_iff_eq.mpr c22
    clear c22
    obtain rfl := Option.some.inj H
    go_enter Tryz.func57, Tryz.ntmps57
    go_wp2_with (first | ((with_reducible refine Z9 (N := 1) rfl ?_); refine bx (N := 1) (cs := #[.int .i64 a0_0, .int .i64 a0_1, .string a0_2]) (t := 25) ?_; intro gb105 hg w23 hbox hb; have BK105 := Z0 hbox; have GE105 := ge hg HB.out; replace HB := Z0 (Z1 HB.out hb); clear hb hbox hg; obtain ⟨hcz24_0, hcz24_1, hcz24_2⟩ := bc3 BK105.out; obtain ⟨hfz24_0, hfz24_1, hfz24_2⟩ := bf3 BK105.out))
    go_ret
    exact ⟨rfl, V0⟩
   rw [if_neg c22] at H
   have c22b0 : (a0_2.toList == ([] : List UInt8)) = false := beq_eq_false_iff_ne.mpr c22
   have c22b1 : (a0_2.toList != ([] : List UInt8)) = true := bne_iff_ne.mpr c22
   obtain rfl := Option.some.inj H
   go_enter Tryz.func57, Tryz.ntmps57
   go_wp2_with (first | ((with_reducible refine Z9 (N := 1) rfl ?_); refine bx (N := 1) (cs := #[.int .i64 a0_0, .int .i64 a0_1, .string a0_2]) (t := 25) ?_; intro gb105 hg w25 hbox hb; have BK105 := Z0 hbox; have GE105 := ge hg HB.out; replace HB := Z0 (Z1 HB.out hb); clear hb hbox hg; obtain ⟨hcz26_0, hcz26_1, hcz26_2⟩ := bc3 BK105.out; obtain ⟨hfz26_0, hfz26_1, hfz26_2⟩ := bf3 BK105.out))
   go_ret
   exact ⟨rfl, V0⟩
  rw [if_neg c18] at H
  have c18b0 : (a0_1 == 0) = false := beq_eq_false_iff_ne.mpr c18
  have c18b1 : (a0_1 != 0) = true := bne_iff_ne.mpr c18
  by_cases c27 : a0_1 = 1
  rotate_left
  ·rw [if_neg c27] at H
   have c27b0 : (a0_1 == 1) = false := beq_eq_false_iff_ne.mpr c27
   have c27b1 : (a0_1 != 1) = true := bne_iff_ne.mpr c27
   obtain rfl := Option.some.inj H
   go_enter Tryz.func57, Tryz.ntmps57
   go_wp2_with (first | ((with_reducible refine Z9 (N := 1) rfl ?_); refine bx (N := 1) (cs := #[.int .i64 a0_0, .int .i64 a0_1, .string a0_2]) (t := 25) ?_; intro gb105 hg w36 hbox hb; have BK105 := Z0 hbox; have GE105 := ge hg HB.out; replace HB := Z0 (Z1 HB.out hb); clear hb hbox hg; obtain ⟨hcz37_0, hcz37_1, hcz37_2⟩ := bc3 BK105.out; obtain ⟨hfz37_0, hfz37_1, hfz37_2⟩ := bf3 BK105.out))
   go_ret
   exact ⟨rfl, V0⟩
  rw [if_pos c27] at H
  have c27b0 : (a0_1 == 1) = true := beq_iff_eq.mpr c27
  have c27b1 : (a0_1 != 1) = false := bne_eq_false_iff_eq.mpr c27
  clear c27
  by_cases c28 : a0_0 = 4
  ·rw [if_pos c28] at H
   have c28b0 : (a0_0 == 4) = true := beq_iff_eq.mpr c28
   have c28b1 : (a0_0 != 4) = false := bne_eq_false_iff_eq.mpr c28
   clear c28
   obtain rfl := Option.some.inj H
   go_enter Tryz.func57, Tryz.ntmps57
   go_wp2_with (first | ((with_reducible refine Z9 (N := 1) rfl ?_); refine bx (N := 1) (cs := #[.int .i64 a0_0, .int .i64 a0_1, .string a0_2]) (t := 25) ?_; intro gb105 hg w29 hbox hb; have BK105 := Z0 hbox; have GE105 := ge hg HB.out; replace HB := Z0 (Z1 HB.out hb); clear hb hbox hg; obtain ⟨hcz30_0, hcz30_1, hcz30_2⟩ := bc3 BK105.out; obtain ⟨hfz30_0, hfz30_1, hfz30_2⟩ := bf3 BK105.out))
   go_ret
   exact ⟨rfl, V0⟩
  rw [if_neg c28] at H
  have c28b0 : (a0_0 == 4) = false := beq_eq_false_iff_ne.mpr c28
  have c28b1 : (a0_0 != 4) = true := bne_iff_ne.mpr c28
  by_cases c31 : a0_2.toList = ([] : List UInt8)
  ·rw [if_pos c31] at H
   have c31b0 : (a0_2.toList == ([] : List UInt8)) = true := beq_iff_eq.mpr c31
   have c31b1 : (a0_2.toList != ([] : List UInt8)) = false := bne_eq_false_iff_eq.mpr c31
   clear c31
   obtain rfl := Option.some.inj H
   go_enter Tryz.func57, Tryz.ntmps57
   go_wp2_with (first | ((with_reducible refine Z9 (N := 1) rfl ?_); refine bx (N := 1) (cs := #[.int .i64 a0_0, .int .i64 a0_1, .string a0_2]) (t := 25) ?_; intro gb105 hg w32 hbox hb; have BK105 := Z0 hbox; have GE105 := ge hg HB.out; replace HB := Z0 (Z1 HB.out hb); clear hb hbox hg; obtain ⟨hcz33_0, hcz33_1, hcz33_2⟩ := bc3 BK105.out; obtain ⟨hfz33_0, hfz33_1, hfz33_2⟩ := bf3 BK105.out))
   go_ret
   exact ⟨rfl, V0⟩
  rw [if_neg c31] at H
  have c31b0 : (a0_2.toList == ([] : List UInt8)) = false := beq_eq_false_iff_ne.mpr c31
  have c31b1 : (a0_2.toList != ([] : List UInt8)) = true := bne_iff_ne.mpr c31
  obtain rfl := Option.some.inj H
  go_enter Tryz.func57, Tryz.ntmps57
  go_wp2_with (first | ((with_reducible refine Z9 (N := 1) rfl ?_); refine bx (N := 1) (cs := #[.int .i64 a0_0, .int .i64 a0_1, .string a0_2]) (t := 25) ?_; intro gb105 hg w34 hbox hb; have BK105 := Z0 hbox; have GE105 := ge hg HB.out; replace HB := Z0 (Z1 HB.out hb); clear hb hbox hg; obtain ⟨hcz35_0, hcz35_1, hcz35_2⟩ := bc3 BK105.out; obtain ⟨hfz35_0, hfz35_1, hfz35_2⟩ := bf3 BK105.out))
  go_ret
  exact ⟨rfl, V0⟩
 rw [if_neg c17] at H
 have c17b0 : (a0_0 == 1) = false := beq_eq_false_iff_ne.mpr c17
 have c17b1 : (a0_0 != 1) = true := bne_iff_ne.mpr c17
 by_cases c38 : a0_0 = 2
 ·rw [if_pos c38] at H
  have c38b0 : (a0_0 == 2) = true := beq_iff_eq.mpr c38
  have c38b1 : (a0_0 != 2) = false := bne_eq_false_iff_eq.mpr c38
  clear c38
  replace H := Option.bind_eq_some_iff.mp H
  obtain ⟨t106, A390, H⟩ := H
  replace H : (if t106 = true then (if a0_0 = 4 then (some 0) else (if a0_2.toList = ([] : List UInt8) then (some 0) else (some 1))) else (some 1)) = some r := H
  have A39 := Z0 A390
  clear A390
  by_cases c40 : t106 = true
  rotate_left
  ·replace c40 := Bool.eq_false_iff.mpr c40
   subst c40
   have H1 : (some 1) = some r := by rw [if_neg (show ¬ (false = true) by decide)] at H; exact H
   clear H
   have H := H1
   clear H1
   obtain rfl := Option.some.inj H
   go_enter Tryz.func57, Tryz.ntmps57
   go_wp2_with (first | ((with_reducible refine Z9 (N := 1) rfl ?_); refine bx (N := 1) (cs := #[.int .i64 a0_0, .int .i64 a0_1, .string a0_2]) (t := 25) ?_; intro gb105 hg w49 hbox hb; have BK105 := Z0 hbox; have GE105 := ge hg HB.out; replace HB := Z0 (Z1 HB.out hb); clear hb hbox hg; obtain ⟨hcz50_0, hcz50_1, hcz50_2⟩ := bc3 BK105.out; obtain ⟨hfz50_0, hfz50_1, hfz50_2⟩ := bf3 BK105.out) | ((with_reducible refine Z5 (f := 102) rfl ?_); refine gl Tryz.func102 (cabinetryref01_InNum.calls a0_1 false _ A39.out) ?_; rintro e w' ⟨rfl, ⟨nd, rfl⟩⟩; refine ⟨_, rfl, ?_⟩))
   go_ret
   exact ⟨rfl, V0⟩
  subst c40
  have H1 : (if a0_0 = 4 then (some 0) else (if a0_2.toList = ([] : List UInt8) then (some 0) else (some 1))) = some r := by rw [if_pos rfl] at H; exact H
  clear H
  have H := H1
  clear H1
  by_cases c41 : a0_0 = 4
  ·rw [if_pos c41] at H
   have c41b0 : (a0_0 == 4) = true := beq_iff_eq.mpr c41
   have c41b1 : (a0_0 != 4) = false := bne_eq_false_iff_eq.mpr c41
   clear c41
   obtain rfl := Option.some.inj H
   go_enter Tryz.func57, Tryz.ntmps57
   go_wp2_with (first | ((with_reducible refine Z9 (N := 1) rfl ?_); refine bx (N := 1) (cs := #[.int .i64 a0_0, .int .i64 a0_1, .string a0_2]) (t := 25) ?_; intro gb105 hg w42 hbox hb; have BK105 := Z0 hbox; have GE105 := ge hg HB.out; replace HB := Z0 (Z1 HB.out hb); clear hb hbox hg; obtain ⟨hcz43_0, hcz43_1, hcz43_2⟩ := bc3 BK105.out; obtain ⟨hfz43_0, hfz43_1, hfz43_2⟩ := bf3 BK105.out) | ((with_reducible refine Z5 (f := 102) rfl ?_); refine gl Tryz.func102 (cabinetryref01_InNum.calls a0_1 true _ A39.out) ?_; rintro e w' ⟨rfl, ⟨nd, rfl⟩⟩; refine ⟨_, rfl, ?_⟩))
   go_ret
   exact ⟨rfl, V0⟩
  rw [if_neg c41] at H
  have c41b0 : (a0_0 == 4) = false := beq_eq_false_iff_ne.mpr c41
  have c41b1 : (a0_0 != 4) = true := bne_iff_ne.mpr c41
  by_cases c44 : a0_2.toList = ([] : List UInt8)
  ·rw [if_pos c44] at H
   have c44b0 : (a0_2.toList == ([] : List UInt8)) = true := beq_iff_eq.mpr c44
   have c44b1 : (a0_2.toList != ([] : List UInt8)) = false := bne_eq_false_iff_eq.mpr c44
   clear c44
   obtain rfl := Option.some.inj H
   go_enter Tryz.func57, Tryz.ntmps57
   go_wp2_with (first | ((with_reducible refine Z9 (N := 1) rfl ?_); refine bx (N := 1) (cs := #[.int .i64 a0_0, .int .i64 a0_1, .string a0_2]) (t := 25) ?_; intro gb105 hg w45 hbox hb; have BK105 := Z0 hbox; have GE105 := ge hg HB.out; replace HB := Z0 (Z1 HB.out hb); clear hb hbox hg; obtain ⟨hcz46_0, hcz46_1, hcz46_2⟩ := bc3 BK105.out; obtain ⟨hfz46_0, hfz46_1, hfz46_2⟩ := bf3 BK105.out) | ((with_reducible refine Z5 (f := 102) rfl ?_); refine gl Tryz.func102 (cabinetryref01_InNum.calls a0_1 true _ A39.out) ?_; rintro e w' ⟨rfl, ⟨nd, rfl⟩⟩; refine ⟨_, rfl, ?_⟩))
   go_ret
   exact ⟨rfl, V0⟩
  rw [if_neg c44] at H
  have c44b0 : (a0_2.toList == ([] : List UInt8)) = false := beq_eq_false_iff_ne.mpr c44
  have c44b1 : (a0_2.toList != ([] : List UInt8)) = true := bne_iff_ne.mpr c44
  obtain rfl := Option.some.inj H
  go_enter Tryz.func57, Tryz.ntmps57
  go_wp2_with (first | ((with_reducible refine Z9 (N := 1) rfl ?_); refine bx (N := 1) (cs := #[.int .i64 a0_0, .int .i64 a0_1, .string a0_2]) (t := 25) ?_; intro gb105 hg w47 hbox hb; have BK105 := Z0 hbox; have GE105 := ge hg HB.out; replace HB := Z0 (Z1 HB.out hb); clear hb hbox hg; obtain ⟨hcz48_0, hcz48_1, hcz48_2⟩ := bc3 BK105.out; obtain ⟨hfz48_0, hfz48_1, hfz48_2⟩ := bf3 BK105.out) | ((with_reducible refine Z5 (f := 102) rfl ?_); refine gl Tryz.func102 (cabinetryref01_InNum.calls a0_1 true _ A39.out) ?_; rintro e w' ⟨rfl, ⟨nd, rfl⟩⟩; refine ⟨_, rfl, ?_⟩))
  go_ret
  exact ⟨rfl, V0⟩
 rw [if_neg c38] at H
 have c38b0 : (a0_0 == 2) = false := beq_eq_false_iff_ne.mpr c38
 have c38b1 : (a0_0 != 2) = true := bne_iff_ne.mpr c38
 by_cases c51 : a0_0 = 3
 rotate_left
 ·rw [if_neg c51] at H
  have c51b0 : (a0_0 == 3) = false := beq_eq_false_iff_ne.mpr c51
  have c51b1 : (a0_0 != 3) = true := bne_iff_ne.mpr c51
  by_cases c66 : a0_0 = 4
  rotate_left
  ·rw [if_neg c66] at H
   have c66b0 : (a0_0 == 4) = false := beq_eq_false_iff_ne.mpr c66
   have c66b1 : (a0_0 != 4) = true := bne_iff_ne.mpr c66
   obtain rfl := Option.some.inj H
   go_enter Tryz.func57, Tryz.ntmps57
   go_wp2_with (first | ((with_reducible refine Z9 (N := 1) rfl ?_); refine bx (N := 1) (cs := #[.int .i64 a0_0, .int .i64 a0_1, .string a0_2]) (t := 25) ?_; intro gb105 hg w72 hbox hb; have BK105 := Z0 hbox; have GE105 := ge hg HB.out; replace HB := Z0 (Z1 HB.out hb); clear hb hbox hg; obtain ⟨hcz73_0, hcz73_1, hcz73_2⟩ := bc3 BK105.out; obtain ⟨hfz73_0, hfz73_1, hfz73_2⟩ := bf3 BK105.out))
   go_ret
   exact ⟨rfl, V0⟩
  rw [if_pos c66] at H
  have c66b0 : (a0_0 == 4) = true := beq_iff_eq.mpr c66
  have c66b1 : (a0_0 != 4) = false := bne_eq_false_iff_eq.mpr c66
  clear c66
  by_cases c67 : a0_1 = 0
  ·rw [if_pos c67] at H
   have c67b0 : (a0_1 == 0) = true := beq_iff_eq.mpr c67
   have c67b1 : (a0_1 != 0) = false := bne_eq_false_iff_eq.mpr c67
   clear c67
   obtain rfl := Option.some.inj H
   go_enter Tryz.func57, Tryz.ntmps57
   go_wp2_with (first | ((with_reducible refine Z9 (N := 1) rfl ?_); refine bx (N := 1) (cs := #[.int .i64 a0_0, .int .i64 a0_1, .string a0_2]) (t := 25) ?_; intro gb105 hg w68 hbox hb; have BK105 := Z0 hbox; have GE105 := ge hg HB.out; replace HB := Z0 (Z1 HB.out hb); clear hb hbox hg; obtain ⟨hcz69_0, hcz69_1, hcz69_2⟩ := bc3 BK105.out; obtain ⟨hfz69_0, hfz69_1, hfz69_2⟩ := bf3 BK105.out))
   go_ret
   exact ⟨rfl, V0⟩
  rw [if_neg c67] at H
  have c67b0 : (a0_1 == 0) = false := beq_eq_false_iff_ne.mpr c67
  have c67b1 : (a0_1 != 0) = true := bne_iff_ne.mpr c67
  obtain rfl := Option.some.inj H
  go_enter Tryz.func57, Tryz.ntmps57
  go_wp2_with (first | ((with_reducible refine Z9 (N := 1) rfl ?_); refine bx (N := 1) (cs := #[.int .i64 a0_0, .int .i64 a0_1, .string a0_2]) (t := 25) ?_; intro gb105 hg w70 hbox hb; have BK105 := Z0 hbox; have GE105 := ge hg HB.out; replace HB := Z0 (Z1 HB.out hb); clear hb hbox hg; obtain ⟨hcz71_0, hcz71_1, hcz71_2⟩ := bc3 BK105.out; obtain ⟨hfz71_0, hfz71_1, hfz71_2⟩ := bf3 BK105.out))
  go_ret
  exact ⟨rfl, V0⟩
 rw [if_pos c51] at H
 have c51b0 : (a0_0 == 3) = true := beq_iff_eq.mpr c51
 have c51b1 : (a0_0 != 3) = false := bne_eq_false_iff_eq.mpr c51
 clear c51
 by_cases c52 : a0_1 ≥ 0
 rotate_left
 ·rw [if_neg c52] at H
  have c52b0 : decide (0 ≤ a0_1) = false := decide_eq_false c52
  clear c52
  obtain rfl := Option.some.inj H
  go_enter Tryz.func57, Tryz.ntmps57
  go_wp2_with (first | ((with_reducible refine Z9 (N := 1) rfl ?_); refine bx (N := 1) (cs := #[.int .i64 a0_0, .int .i64 a0_1, .string a0_2]) (t := 25) ?_; intro gb105 hg w64 hbox hb; have BK105 := Z0 hbox; have GE105 := ge hg HB.out; replace HB := Z0 (Z1 HB.out hb); clear hb hbox hg; obtain ⟨hcz65_0, hcz65_1, hcz65_2⟩ := bc3 BK105.out; obtain ⟨hfz65_0, hfz65_1, hfz65_2⟩ := bf3 BK105.out))
  go_ret
  exact ⟨rfl, V0⟩
 rw [if_pos c52] at H
 have c52b0 : decide (0 ≤ a0_1) = true := decide_eq_true c52
 clear c52
 by_cases c53 : a0_1 ≤ 3652059
 rotate_left
 ·rw [if_neg c53] at H
  have c53b0 : decide (a0_1 ≤ 3652059) = false := decide_eq_false c53
  clear c53
  obtain rfl := Option.some.inj H
  go_enter Tryz.func57, Tryz.ntmps57
  go_wp2_with (first | ((with_reducible refine Z9 (N := 1) rfl ?_); refine bx (N := 1) (cs := #[.int .i64 a0_0, .int .i64 a0_1, .string a0_2]) (t := 25) ?_; intro gb105 hg w62 hbox hb; have BK105 := Z0 hbox; have GE105 := ge hg HB.out; replace HB := Z0 (Z1 HB.out hb); clear hb hbox hg; obtain ⟨hcz63_0, hcz63_1, hcz63_2⟩ := bc3 BK105.out; obtain ⟨hfz63_0, hfz63_1, hfz63_2⟩ := bf3 BK105.out))
  go_ret
  exact ⟨rfl, V0⟩
 rw [if_pos c53] at H
 have c53b0 : decide (a0_1 ≤ 3652059) = true := decide_eq_true c53
 clear c53
 by_cases c54 : a0_0 = 4
 ·rw [if_pos c54] at H
  have c54b0 : (a0_0 == 4) = true := beq_iff_eq.mpr c54
  have c54b1 : (a0_0 != 4) = false := bne_eq_false_iff_eq.mpr c54
  clear c54
  obtain rfl := Option.some.inj H
  go_enter Tryz.func57, Tryz.ntmps57
  go_wp2_with (first | ((with_reducible refine Z9 (N := 1) rfl ?_); refine bx (N := 1) (cs := #[.int .i64 a0_0, .int .i64 a0_1, .string a0_2]) (t := 25) ?_; intro gb105 hg w55 hbox hb; have BK105 := Z0 hbox; have GE105 := ge hg HB.out; replace HB := Z0 (Z1 HB.out hb); clear hb hbox hg; obtain ⟨hcz56_0, hcz56_1, hcz56_2⟩ := bc3 BK105.out; obtain ⟨hfz56_0, hfz56_1, hfz56_2⟩ := bf3 BK105.out))
  go_ret
  exact ⟨rfl, V0⟩
 rw [if_neg c54] at H
 have c54b0 : (a0_0 == 4) = false := beq_eq_false_iff_ne.mpr c54
 have c54b1 : (a0_0 != 4) = true := bne_iff_ne.mpr c54
 by_cases c57 : a0_2.toList = ([] : List UInt8)
 ·rw [if_pos c57] at H
  have c57b0 : (a0_2.toList == ([] : List UInt8)) = true := beq_iff_eq.mpr c57
  have c57b1 : (a0_2.toList != ([] : List UInt8)) = false := bne_eq_false_iff_eq.mpr c57
  clear c57
  obtain rfl := Option.some.inj H
  go_enter Tryz.func57, Tryz.ntmps57
  go_wp2_with (first | ((with_reducible refine Z9 (N := 1) rfl ?_); refine bx (N := 1) (cs := #[.int .i64 a0_0, .int .i64 a0_1, .string a0_2]) (t := 25) ?_; intro gb105 hg w58 hbox hb; have BK105 := Z0 hbox; have GE105 := ge hg HB.out; replace HB := Z0 (Z1 HB.out hb); clear hb hbox hg; obtain ⟨hcz59_0, hcz59_1, hcz59_2⟩ := bc3 BK105.out; obtain ⟨hfz59_0, hfz59_1, hfz59_2⟩ := bf3 BK105.out))
  go_ret
  exact ⟨rfl, V0⟩
 rw [if_neg c57] at H
 have c57b0 : (a0_2.toList == ([] : List UInt8)) = false := beq_eq_false_iff_ne.mpr c57
 have c57b1 : (a0_2.toList != ([] : List UInt8)) = true := bne_iff_ne.mpr c57
 obtain rfl := Option.some.inj H
 go_enter Tryz.func57, Tryz.ntmps57
 go_wp2_with (first | ((with_reducible refine Z9 (N := 1) rfl ?_); refine bx (N := 1) (cs := #[.int .i64 a0_0, .int .i64 a0_1, .string a0_2]) (t := 25) ?_; intro gb105 hg w60 hbox hb; have BK105 := Z0 hbox; have GE105 := ge hg HB.out; replace HB := Z0 (Z1 HB.out hb); clear hb hbox hg; obtain ⟨hcz61_0, hcz61_1, hcz61_2⟩ := bc3 BK105.out; obtain ⟨hfz61_0, hfz61_1, hfz61_2⟩ := bf3 BK105.out))
 go_ret
 exact ⟨rfl, V0⟩
mutual
def cabinetryref01_Bare.j1 : Nat → ByteArray → Int → Option (ByteArray)
 | 0, _, _ => none
 | k + 1, x0, x3 => if 0 ≤ x3 then (if x3 ≤ (x0.size : Int) then (some (x0.extract 0 (x3 : Int).toNat)) else (none)) else (none)
def cabinetryref01_Bare.l0 : Nat → ByteArray → Int → Option (ByteArray)
 | 0, _, _ => none
 | k + 1, x0, x3 => if x3 > 0 then (if 0 ≤ (wrap64 (x3 - 1)) then (if (wrap64 (x3 - 1)) < (x0.size : Int) then (if (bt x0 (wrap64 (x3 - 1))) = 32 then (cabinetryref01_Bare.l0 k x0 (wrap64 (x3 - 1))) else (cabinetryref01_Bare.j1 k x0 x3)) else (none)) else (none)) else (cabinetryref01_Bare.j1 k x0 x3)
end
def cabinetryref01_Bare.f (k : Nat) (a0 : ByteArray) : Option (ByteArray) := cabinetryref01_Bare.l0 k a0 (a0.size : Int)
theorem cabinetryref01_Bare.mono_l : ∀ k, (∀ y0 y1, LeO (cabinetryref01_Bare.j1 k y0 y1) (cabinetryref01_Bare.j1 (k + 1) y0 y1)) ∧ (∀ y0 y1, LeO (cabinetryref01_Bare.l0 k y0 y1) (cabinetryref01_Bare.l0 (k + 1) y0 y1))
 | 0 => ⟨fun _ _ r h => by simp [cabinetryref01_Bare.j1] at h, fun _ _ r h => by simp [cabinetryref01_Bare.l0] at h⟩
 | k + 1 => by
  obtain ⟨ih0, ih1⟩ := cabinetryref01_Bare.mono_l k
  refine ⟨?_, ?_⟩
  ·intro y0 y1
   unfold cabinetryref01_Bare.j1
   repeat' first
   | (with_reducible exact ih0 _ _)
   | (with_reducible exact ih1 _ _)
   | (with_reducible exact LeO.refl _)
   | (with_reducible exact LeO.none _)
   | (with_reducible refine LeO.ite ?_ ?_)
   | (with_reducible refine LeO.bind ?_ (fun _ => ?_))
  ·intro y0 y1
   unfold cabinetryref01_Bare.l0
   repeat' first
   | (with_reducible exact ih0 _ _)
   | (with_reducible exact ih1 _ _)
   | (with_reducible exact LeO.refl _)
   | (with_reducible exact LeO.none _)
   | (with_reducible refine LeO.ite ?_ ?_)
   | (with_reducible refine LeO.bind ?_ (fun _ => ?_))
theorem cabinetryref01_Bare.mono : ∀ a0 k, LeO (cabinetryref01_Bare.f k a0) (cabinetryref01_Bare.f (k + 1) a0) := by
 intro a0 k
 obtain ⟨ih0, ih1⟩ := cabinetryref01_Bare.mono_l k
 unfold cabinetryref01_Bare.f
 repeat' first
   | (with_reducible exact ih0 _ _)
   | (with_reducible exact ih1 _ _)
   | (with_reducible exact LeO.refl _)
   | (with_reducible exact LeO.none _)
   | (with_reducible refine LeO.ite ?_ ?_)
   | (with_reducible refine LeO.bind ?_ (fun _ => ?_))
theorem cabinetryref01_Bare.calls (k : Nat) (a0 : ByteArray) (r : ByteArray) (w : World) (h : cabinetryref01_Bare.f k a0 = some r) :
  Calls Tryz.prog 103 #[.string a0] w fun e w' => e = .returned (.string r) ∧ Drawn0 w w' := by
 unfold cabinetryref01_Bare.f at h
 have H := h
 clear h
 have HC2 := Z0 H
 clear H
 go_enter Tryz.func103, Tryz.ntmps103
 go_upto_block 0 with (fail)
 go_cut [3] (fun v3 wc => ∃ (kq : Nat) (x3_1 : Int), v3 = .int .i64 x3_1 ∧ Aside0 (cabinetryref01_Bare.j1 kq a0 x3_1 = some r) ∧ Aside0 (kq ≤ k) ∧ Drawn0 w wc)
 case first =>
  have H := HC2.out
  clear HC2
  have H' := Z0 H
  clear H
  go_wp2
  go_loopg [3] k (fun kq v3 w' => ∃ (x3_1 : Int), v3 = .int .i64 x3_1 ∧ Aside0 (cabinetryref01_Bare.l0 kq a0 x3_1 = some r) ∧ Aside0 (kq ≤ k) ∧ Drawn0 w w')
  case atStart => exact ⟨((a0.size : Int)), V2, H', ⟨Nat.le_refl _⟩, by repeat (first | exact Y4 _ | apply Y0)⟩
  case round =>
   clear H'
   obtain ⟨x3_1, rfl, HA, HK1, ⟨m1, rfl⟩⟩ := hrel
   cases gk with
   | zero => exact absurd HA.out (by simp [cabinetryref01_Bare.l0])
   | succ k1 =>
    have H := HA.out
    clear HA
    simp only [cabinetryref01_Bare.l0] at H
    by_cases c3 : x3_1 > 0
    rotate_left
    ·rw [if_neg c3] at H
     have c3b0 : decide (0 < x3_1) = false := decide_eq_false c3
     clear c3
     (first | rw [c3b0] | (simp only [i64_w, i32_w]; rw [c3b0]) | skip)
     have H' := Z0 H
     clear H
     go_wp2
     go_meet
     case rel => exact ⟨_, (x3_1), V2, H', ⟨by have := HK1.out; first | omega | exact Nat.le_refl _⟩, by repeat (first | exact Y4 _ | apply Y0)⟩
    rw [if_pos c3] at H
    have c3b0 : decide (0 < x3_1) = true := decide_eq_true c3
    clear c3
    (first | rw [c3b0] | (simp only [i64_w, i32_w]; rw [c3b0]) | skip)
    obtain ⟨ji4, hji4⟩ : ∃ j_ : Int, (wrap64 (x3_1 - 1)) = j_ := ⟨_, rfl⟩
    replace H : (if 0 ≤ (ji4) then (if (ji4) < (a0.size : Int) then (if (bt a0 (ji4)) = 32 then (cabinetryref01_Bare.l0 k1 a0 ji4) else (cabinetryref01_Bare.j1 k1 a0 x3_1)) else (none)) else (none)) = some r := by first | (rw [hji4] at H; exact H) | (simp only [hji4] at H ⊢; exact H)
    have hji4w : (IntKind.i64.wrap (x3_1 - 1)) = ji4 := (i64_w _).trans hji4
    by_cases c5 : 0 ≤ (ji4)
    rotate_left
    ·rw [if_neg c5] at H
     exact absurd H (by simp)
    rw [if_pos c5] at H
    have c5b0 : decide (0 ≤ (ji4)) = true := decide_eq_true c5
    clear c5
    by_cases c6 : (ji4) < (a0.size : Int)
    rotate_left
    ·rw [if_neg c6] at H
     exact absurd H (by simp)
    rw [if_pos c6] at H
    have c6b0 : decide ((ji4) < (a0.size : Int)) = true := decide_eq_true c6
    clear c6
    by_cases c8 : (bt a0 (ji4)) = 32
    rotate_left
    ·rw [if_neg c8] at H
     have c8b0 : ((bt a0 (ji4)) == 32) = false := beq_eq_false_iff_ne.mpr c8
     have c8b1 : ((bt a0 (ji4)) != 32) = true := bne_iff_ne.mpr c8
     have H' := Z0 H
     clear H
     have p7 : 0 ≤ ((ji4) : Int) := of_decide_eq_true V3
     have q7 : (ji4) < (a0.size : Int) := of_decide_eq_true V3
     have hx7 := bt_at a0 (ji4)
     replace p7 := eq_true p7
     replace q7 := eq_true q7
     go_wp2
     go_meet
     case rel => exact ⟨_, (x3_1), V2, H', ⟨by have := HK1.out; first | omega | exact Nat.le_refl _⟩, by repeat (first | exact Y4 _ | apply Y0)⟩
    rw [if_pos c8] at H
    have c8b0 : ((bt a0 (ji4)) == 32) = true := beq_iff_eq.mpr c8
    have c8b1 : ((bt a0 (ji4)) != 32) = false := bne_eq_false_iff_eq.mpr c8
    clear c8
    have H' := Z0 H
    clear H
    have p7 : 0 ≤ ((ji4) : Int) := of_decide_eq_true V3
    have q7 : (ji4) < (a0.size : Int) := of_decide_eq_true V3
    have hx7 := bt_at a0 (ji4)
    replace p7 := eq_true p7
    replace q7 := eq_true q7
    go_wp2
    go_roundg k1
    case measure => have := HK1.out; omega
    case rel => exact ⟨(ji4), (by first | rfl | (simp; done) | (simp only [← hji4] <;> (first | rfl | simp)) | (simp [*]; done)), H', ⟨by have := HK1.out; omega⟩, by repeat (first | exact Y4 _ | apply Y0)⟩
 case rest =>
  clear HC2
  obtain ⟨kq, x3_1, rfl, HA, HJ1, ⟨mc1, rfl⟩⟩ := hcut
  cases kq with
  | zero => exact absurd HA.out (by simp [cabinetryref01_Bare.j1])
  | succ kj1 =>
   have H := HA.out
   clear HA
   simp only [cabinetryref01_Bare.j1] at H
   by_cases c9 : 0 ≤ x3_1
   rotate_left
   ·rw [if_neg c9] at H
    exact absurd H (by simp)
   rw [if_pos c9] at H
   have c9b0 := eq_true c9
   have c9b1 : decide (0 ≤ x3_1) = true := decide_eq_true c9
   clear c9
   by_cases c10 : x3_1 ≤ (a0.size : Int)
   rotate_left
   ·rw [if_neg c10] at H
    exact absurd H (by simp)
   rw [if_pos c10] at H
   have c10b0 := eq_true c10
   have c10b1 : decide (x3_1 ≤ (a0.size : Int)) = true := decide_eq_true c10
   clear c10
   obtain rfl := Option.some.inj H
   go_wp2
   go_ret
   exact ⟨V2, by repeat (first | exact Y4 _ | apply Y0)⟩
def cabinetryref03_On.j0 : Nat → Bool → Option (Bool)
 | 0, _ => none
 | k + 1, x4 => some x4
def cabinetryref03_On.f (k : Nat) (a0 : Int) (a1 : Int) : Option (Bool) := if a1 = 0 then (some (decide (a0 < 128))) else (if a1 = 1 then (some true) else (if a0 < 176 then (cabinetryref03_On.j0 k true) else (if a0 ≥ 224 then (cabinetryref03_On.j0 k (decide (a0 < 240))) else (cabinetryref03_On.j0 k false))))
theorem cabinetryref03_On.mono_l : ∀ k, (∀ y0, LeO (cabinetryref03_On.j0 k y0) (cabinetryref03_On.j0 (k + 1) y0))
 | 0 => fun _ r h => by simp [cabinetryref03_On.j0] at h
 | k + 1 => by
  have ih0 := cabinetryref03_On.mono_l k
  ·intro y0
   unfold cabinetryref03_On.j0
   repeat' first
   | (with_reducible exact ih0 _)
   | (with_reducible exact LeO.refl _)
   | (with_reducible exact LeO.none _)
   | (with_reducible refine LeO.ite ?_ ?_)
   | (with_reducible refine LeO.bind ?_ (fun _ => ?_))
theorem cabinetryref03_On.mono : ∀ a0 a1 k, LeO (cabinetryref03_On.f k a0 a1) (cabinetryref03_On.f (k + 1) a0 a1) := by
 intro a0 a1 k
 have ih0 := cabinetryref03_On.mono_l k
 unfold cabinetryref03_On.f
 repeat' first
   | (with_reducible exact ih0 _)
   | (with_reducible exact LeO.refl _)
   | (with_reducible exact LeO.none _)
   | (with_reducible refine LeO.ite ?_ ?_)
   | (with_reducible refine LeO.bind ?_ (fun _ => ?_))
theorem cabinetryref03_On.calls (k : Nat) (a0 : Int) (a1 : Int) (r : Bool) (w : World) (h : cabinetryref03_On.f k a0 a1 = some r) :
  Calls Tryz.prog 146 #[.int .u8 a0, .int .i64 a1] w fun e w' => e = .returned (.bool r) ∧ Drawn0 w w' := by
 unfold cabinetryref03_On.f at h
 have H := h
 clear h
 by_cases c3 : a1 = 0
 ·rw [if_pos c3] at H
  have c3b0 : (a1 == 0) = true := beq_iff_eq.mpr c3
  have c3b1 : (a1 != 0) = false := bne_eq_false_iff_eq.mpr c3
  clear c3
  obtain rfl := Option.some.inj H
  go_enter Tryz.func146, Tryz.ntmps146
  go_wp2
  go_ret
  exact ⟨V2, by repeat (first | exact Y4 _ | apply Y0)⟩
 rw [if_neg c3] at H
 have c3b0 : (a1 == 0) = false := beq_eq_false_iff_ne.mpr c3
 have c3b1 : (a1 != 0) = true := bne_iff_ne.mpr c3
 by_cases c4 : a1 = 1
 ·rw [if_pos c4] at H
  have c4b0 : (a1 == 1) = true := beq_iff_eq.mpr c4
  have c4b1 : (a1 != 1) = false := bne_eq_false_iff_eq.mpr c4
  clear c4
  obtain rfl := Option.some.inj H
  go_enter Tryz.func146, Tryz.ntmps146
  go_wp2
  go_ret
  exact ⟨V2, by repeat (first | exact Y4 _ | apply Y0)⟩
 rw [if_neg c4] at H
 have c4b0 : (a1 == 1) = false := beq_eq_false_iff_ne.mpr c4
 have c4b1 : (a1 != 1) = true := bne_iff_ne.mpr c4
 have HC5 := Z0 H
 clear H
 go_enter Tryz.func146, Tryz.ntmps146
 go_upto_region 6 with (fail)
 go_cut [4] (fun v4 wc => ∃ (kq : Nat) (x4_4 : Bool), v4 = .bool x4_4 ∧ Aside0 (cabinetryref03_On.j0 kq x4_4 = some r) ∧ Aside0 (kq ≤ k) ∧ Drawn0 w wc)
 case first =>
  have H := HC5.out
  clear HC5
  by_cases c6 : a0 < 176
  ·rw [if_pos c6] at H
   have c6b0 : decide (a0 < 176) = true := decide_eq_true c6
   clear c6
   (first | rw [c6b0] | (simp only [i64_w, i32_w]; rw [c6b0]) | skip)
   have H' := Z0 H
   clear H
   go_wp2
   go_meet
   case rel => exact ⟨_, (true), V2, H', ⟨by first | omega | exact Nat.le_refl _⟩, by repeat (first | exact Y4 _ | apply Y0)⟩
  rw [if_neg c6] at H
  have c6b0 : decide (a0 < 176) = false := decide_eq_false c6
  clear c6
  (first | rw [c6b0] | (simp only [i64_w, i32_w]; rw [c6b0]) | skip)
  by_cases c7 : a0 ≥ 224
  ·rw [if_pos c7] at H
   have c7b0 : decide (224 ≤ a0) = true := decide_eq_true c7
   clear c7
   have H' := Z0 H
   clear H
   go_wp2
   go_meet
   case rel => exact ⟨_, (decide (a0 < 240)), V2, H', ⟨by first | omega | exact Nat.le_refl _⟩, by repeat (first | exact Y4 _ | apply Y0)⟩
  rw [if_neg c7] at H
  have c7b0 : decide (224 ≤ a0) = false := decide_eq_false c7
  clear c7
  have H' := Z0 H
  clear H
  go_wp2
  go_meet
  case rel => exact ⟨_, (false), V2, H', ⟨by first | omega | exact Nat.le_refl _⟩, by repeat (first | exact Y4 _ | apply Y0)⟩
 case rest =>
  clear HC5
  obtain ⟨kq, x4_4, rfl, HA, HJ4, ⟨mc4, rfl⟩⟩ := hcut
  cases kq with
  | zero => exact absurd HA.out (by simp [cabinetryref03_On.j0])
  | succ kj4 =>
   have H := HA.out
   clear HA
   simp only [cabinetryref03_On.j0] at H
   obtain rfl := Option.some.inj H
   go_wp2
   go_ret
   exact ⟨V2, by repeat (first | exact Y4 _ | apply Y0)⟩
def cabinetryref03_written.l0 : Nat → ByteArray → Int → Int → Option (Bool)
 | 0, _, _, _ => none
 | k + 1, x0, x1, x5 => if x5 < (x0.size : Int) then (if 0 ≤ x5 then ((cabinetryref03_On.f k (bt x0 x5) x1).bind fun t108 => (if t108 = true then (cabinetryref03_written.l0 k x0 x1 (wrap64 (x5 + 1))) else (some false))) else (none)) else (some true)
def cabinetryref03_written.f (k : Nat) (a0 : ByteArray) (a1 : Int) : Option (Bool) := cabinetryref03_written.l0 k a0 a1 0
theorem cabinetryref03_written.mono_l : ∀ k, (∀ y0 y1 y2, LeO (cabinetryref03_written.l0 k y0 y1 y2) (cabinetryref03_written.l0 (k + 1) y0 y1 y2))
 | 0 => fun _ _ _ r h => by simp [cabinetryref03_written.l0] at h
 | k + 1 => by
  have ih0 := cabinetryref03_written.mono_l k
  ·intro y0 y1 y2
   unfold cabinetryref03_written.l0
   repeat' first
   | (with_reducible exact ih0 _ _ _)
   | (with_reducible exact cabinetryref03_On.mono _ _ _)
   | (with_reducible exact LeO.refl _)
   | (with_reducible exact LeO.none _)
   | (with_reducible refine LeO.ite ?_ ?_)
   | (with_reducible refine LeO.bind ?_ (fun _ => ?_))
theorem cabinetryref03_written.mono : ∀ a0 a1 k, LeO (cabinetryref03_written.f k a0 a1) (cabinetryref03_written.f (k + 1) a0 a1) := by
 intro a0 a1 k
 have ih0 := cabinetryref03_written.mono_l k
 unfold cabinetryref03_written.f
 repeat' first
   | (with_reducible exact ih0 _ _ _)
   | (with_reducible exact cabinetryref03_On.mono _ _ _)
   | (with_reducible exact LeO.refl _)
   | (with_reducible exact LeO.none _)
   | (with_reducible refine LeO.ite ?_ ?_)
   | (with_reducible refine LeO.bind ?_ (fun _ => ?_))
theorem cabinetryref03_written.calls (k : Nat) (a0 : ByteArray) (a1 : Int) (r : Bool) (w : World) (h : cabinetryref03_written.f k a0 a1 = some r) :
  Calls Tryz.prog 104 #[.string a0, .int .i64 a1] w fun e w' => e = .returned (.bool r) ∧ Drawn0 w w' := by
 unfold cabinetryref03_written.f at h
 have H := h
 clear h
 have H' := Z0 H
 clear H
 go_enter Tryz.func104, Tryz.ntmps104
 go_wp2
 go_loopg [5] k (fun kq v5 w' => ∃ (x5_1 : Int), v5 = .int .i64 x5_1 ∧ Aside0 (cabinetryref03_written.l0 kq a0 a1 x5_1 = some r) ∧ Aside0 (kq ≤ k) ∧ Drawn0 w w')
 case atStart => exact ⟨(0), V2, H', ⟨Nat.le_refl _⟩, by repeat (first | exact Y4 _ | apply Y0)⟩
 case round =>
  clear H'
  obtain ⟨x5_1, rfl, HA, HK1, ⟨m1, rfl⟩⟩ := hrel
  cases gk with
  | zero => exact absurd HA.out (by simp [cabinetryref03_written.l0])
  | succ k1 =>
   have H := HA.out
   clear HA
   simp only [cabinetryref03_written.l0] at H
   by_cases c3 : x5_1 < (a0.size : Int)
   rotate_left
   ·rw [if_neg c3] at H
    have c3b0 : decide (x5_1 < (a0.size : Int)) = false := decide_eq_false c3
    clear c3
    obtain rfl := Option.some.inj H
    go_wp2
    go_ret
    exact ⟨V2, by repeat (first | exact Y4 _ | apply Y0)⟩
   rw [if_pos c3] at H
   have c3b0 : decide (x5_1 < (a0.size : Int)) = true := decide_eq_true c3
   clear c3
   by_cases c4 : 0 ≤ x5_1
   rotate_left
   ·rw [if_neg c4] at H
    exact absurd H (by simp)
   rw [if_pos c4] at H
   have c4b0 : decide (0 ≤ x5_1) = true := decide_eq_true c4
   clear c4
   replace H := Option.bind_eq_some_iff.mp H
   obtain ⟨t108, A60, H⟩ := H
   replace H : (if t108 = true then (cabinetryref03_written.l0 k1 a0 a1 (wrap64 (x5_1 + 1))) else (some false)) = some r := H
   have A6 := Z0 A60
   clear A60
   by_cases c7 : t108 = true
   rotate_left
   ·replace c7 := Bool.eq_false_iff.mpr c7
    subst c7
    have H1 : (some false) = some r := by rw [if_neg (show ¬ (false = true) by decide)] at H; exact H
    clear H
    have H := H1
    clear H1
    obtain rfl := Option.some.inj H
    have p5 : 0 ≤ (x5_1 : Int) := of_decide_eq_true V3
    have q5 : x5_1 < (a0.size : Int) := of_decide_eq_true V3
    have hx5 := bt_at a0 x5_1
    replace p5 := eq_true p5
    replace q5 := eq_true q5
    go_wp2_with (first | ((with_reducible refine Z5 (f := 146) rfl ?_); refine gl Tryz.func146 (cabinetryref03_On.calls k1 (bt a0 x5_1) a1 false _ A6.out) ?_; rintro e w' ⟨rfl, ⟨nd, rfl⟩⟩; refine ⟨_, rfl, ?_⟩))
    go_ret
    exact ⟨V2, by repeat (first | exact Y4 _ | apply Y0)⟩
   subst c7
   have H1 : (cabinetryref03_written.l0 k1 a0 a1 (wrap64 (x5_1 + 1))) = some r := by rw [if_pos rfl] at H; exact H
   clear H
   have H := H1
   clear H1
   have H' := Z0 H
   clear H
   have p5 : 0 ≤ (x5_1 : Int) := of_decide_eq_true V3
   have q5 : x5_1 < (a0.size : Int) := of_decide_eq_true V3
   have hx5 := bt_at a0 x5_1
   replace p5 := eq_true p5
   replace q5 := eq_true q5
   go_wp2_with (first | ((with_reducible refine Z5 (f := 146) rfl ?_); refine gl Tryz.func146 (cabinetryref03_On.calls k1 (bt a0 x5_1) a1 true _ A6.out) ?_; rintro e w' ⟨rfl, ⟨nd, rfl⟩⟩; refine ⟨_, rfl, ?_⟩))
   go_roundg k1
   case measure => have := HK1.out; omega
   case rel => exact ⟨(wrap64 (x5_1 + 1)), V2, H', ⟨by have := HK1.out; omega⟩, by repeat (first | exact Y4 _ | apply Y0)⟩
def cabinetryref01_Written.f : Nat → Int → Option (ByteArray)
 | 0, _ => none
 | k + 1, a0 => if a0 < 0 then (if a0 = (-9223372036854775808) then (some (⟨#[45, 57, 50, 50, 51, 51, 55, 50, 48, 51, 54, 56, 53, 52, 55, 55, 53, 56, 48, 56]⟩ : ByteArray)) else ((cabinetryref01_Written.f k (wrap64 (-a0))).bind fun t109 => (if 1 + t109.size ≤ 9223372036854775807 then (some ((⟨#[45]⟩ : ByteArray) ++ t109)) else (none)))) else (if a0 < 10 then (if 0 ≤ a0 then (if a0 ≤ (wrap64 (a0 + 1)) then (if (wrap64 (a0 + 1)) ≤ 10 then (some ((⟨#[48, 49, 50, 51, 52, 53, 54, 55, 56, 57]⟩ : ByteArray).extract (a0 : Int).toNat ((wrap64 (a0 + 1)) : Int).toNat)) else (none)) else (none)) else (none)) else ((cabinetryref01_Written.f k (wrap64 (Int.tdiv a0 10))).bind fun t110 => ((cabinetryref01_Written.f k (Int.tmod a0 10)).bind fun t111 => (if t110.size + t111.size ≤ 9223372036854775807 then (some (t110 ++ t111)) else (none)))))
theorem cabinetryref01_Written.mono_l : ∀ k, (∀ y0, LeO (cabinetryref01_Written.f k y0) (cabinetryref01_Written.f (k + 1) y0))
 | 0 => fun _ r h => by simp [cabinetryref01_Written.f] at h
 | k + 1 => by
  have ih0 := cabinetryref01_Written.mono_l k
  ·intro y0
   unfold cabinetryref01_Written.f
   repeat' first
   | (with_reducible exact ih0 _)
   | (with_reducible exact LeO.refl _)
   | (with_reducible exact LeO.none _)
   | (with_reducible refine LeO.ite ?_ ?_)
   | (with_reducible refine LeO.bind ?_ (fun _ => ?_))
theorem cabinetryref01_Written.mono : ∀ a0 k, LeO (cabinetryref01_Written.f k a0) (cabinetryref01_Written.f (k + 1) a0) := by
 intro a0 k
 have ih0 := cabinetryref01_Written.mono_l k
 exact ih0 a0
theorem cabinetryref01_Written.calls (k : Nat) : ∀ (a0 : Int) (r : ByteArray) (w : World) (h : cabinetryref01_Written.f k a0 = some r),
  Calls Tryz.prog 119 #[.int .i64 a0] w fun e w' => e = .returned (.string r) ∧ Drawn0 w w' := by
 induction k using Nat.strongRecOn with
 | _ k ih =>
 intro a0 r w h
 cases k with
 | zero => exact absurd h (by simp [cabinetryref01_Written.f])
 | succ k =>
 simp only [cabinetryref01_Written.f] at h
 have H : (if a0 < 0 then (if a0 = (-9223372036854775808) then (some (⟨#[45, 57, 50, 50, 51, 51, 55, 50, 48, 51, 54, 56, 53, 52, 55, 55, 53, 56, 48, 56]⟩ : ByteArray)) else ((cabinetryref01_Written.f k (wrap64 (-a0))).bind fun t109 => (if 1 + t109.size ≤ 9223372036854775807 then (some ((⟨#[45]⟩ : ByteArray) ++ t109)) else (none)))) else (if a0 < 10 then (if 0 ≤ a0 then (if a0 ≤ (wrap64 (a0 + 1)) then (if (wrap64 (a0 + 1)) ≤ 10 then (some ((⟨#[48, 49, 50, 51, 52, 53, 54, 55, 56, 57]⟩ : ByteArray).extract (a0 : Int).toNat ((wrap64 (a0 + 1)) : Int).toNat)) else (none)) else (none)) else (none)) else ((cabinetryref01_Written.f k (wrap64 (Int.tdiv a0 10))).bind fun t110 => ((cabinetryref01_Written.f k (Int.tmod a0 10)).bind fun t111 => (if t110.size + t111.size ≤ 9223372036854775807 then (some (t110 ++ t111)) else (none)))))) = some r := h
 clear h
 by_cases c2 : a0 < 0
 ·rw [if_pos c2] at H
  have c2b0 : decide (a0 < 0) = true := decide_eq_true c2
  clear c2
  by_cases c3 : a0 = (-9223372036854775808)
  ·rw [if_pos c3] at H
   have c3b0 : (a0 == (-9223372036854775808)) = true := beq_iff_eq.mpr c3
   have c3b1 : (a0 != (-9223372036854775808)) = false := bne_eq_false_iff_eq.mpr c3
   clear c3
   obtain rfl := Option.some.inj H
   go_enter Tryz.func119, Tryz.ntmps119
   go_wp2
   go_ret
   exact ⟨V2, by repeat (first | exact Y4 _ | apply Y0)⟩
  rw [if_neg c3] at H
  have c3b0 : (a0 == (-9223372036854775808)) = false := beq_eq_false_iff_ne.mpr c3
  have c3b1 : (a0 != (-9223372036854775808)) = true := bne_iff_ne.mpr c3
  replace H := Option.bind_eq_some_iff.mp H
  obtain ⟨t109, A40, H⟩ := H
  replace H : (if 1 + t109.size ≤ 9223372036854775807 then (some ((⟨#[45]⟩ : ByteArray) ++ t109)) else (none)) = some r := H
  have A4 := Z0 A40
  clear A40
  by_cases c5 : 1 + t109.size ≤ 9223372036854775807
  rotate_left
  ·rw [if_neg c5] at H
   exact absurd H (by simp)
  rw [if_pos c5] at H
  have c5b0 := eq_true c5
  have c5b1 : decide (1 + t109.size ≤ 9223372036854775807) = true := decide_eq_true c5
  try have c5b2 : (9223372036854775807 < 1 + t109.size) = False := eq_false (Nat.not_lt.2 c5)
  obtain rfl := Option.some.inj H
  go_enter Tryz.func119, Tryz.ntmps119
  go_wp2_with (first | ((with_reducible refine Z5 (f := 119) rfl ?_); refine gl Tryz.func119 (ih k (by omega) (wrap64 (-a0)) t109 _ A4.out) ?_; rintro e w' ⟨rfl, ⟨nd, rfl⟩⟩; refine ⟨_, rfl, ?_⟩))
  go_ret
  exact ⟨V2, by repeat (first | exact Y4 _ | apply Y0)⟩
 rw [if_neg c2] at H
 have c2b0 : decide (a0 < 0) = false := decide_eq_false c2
 clear c2
 by_cases c6 : a0 < 10
 ·rw [if_pos c6] at H
  have c6b0 : decide (a0 < 10) = true := decide_eq_true c6
  clear c6
  by_cases c7 : 0 ≤ a0
  rotate_left
  ·rw [if_neg c7] at H
   exact absurd H (by simp)
  rw [if_pos c7] at H
  have c7b0 := eq_true c7
  have c7b1 : decide (0 ≤ a0) = true := decide_eq_true c7
  clear c7
  by_cases c8 : a0 ≤ (wrap64 (a0 + 1))
  rotate_left
  ·rw [if_neg c8] at H
   exact absurd H (by simp)
  rw [if_pos c8] at H
  have c8b0 := eq_true c8
  have c8b1 : decide (a0 ≤ (wrap64 (a0 + 1))) = true := decide_eq_true c8
  by_cases c9 : (wrap64 (a0 + 1)) ≤ 10
  rotate_left
  ·rw [if_neg c9] at H
   exact absurd H (by simp)
  rw [if_pos c9] at H
  have c9b0 := eq_true c9
  have c9b1 : decide ((wrap64 (a0 + 1)) ≤ 10) = true := decide_eq_true c9
  obtain rfl := Option.some.inj H
  go_enter Tryz.func119, Tryz.ntmps119
  go_wp2
  go_ret
  exact ⟨V2, by repeat (first | exact Y4 _ | apply Y0)⟩
 rw [if_neg c6] at H
 have c6b0 : decide (a0 < 10) = false := decide_eq_false c6
 clear c6
 replace H := Option.bind_eq_some_iff.mp H
 obtain ⟨t110, A100, H⟩ := H
 replace H : ((cabinetryref01_Written.f k (Int.tmod a0 10)).bind fun t111 => (if t110.size + t111.size ≤ 9223372036854775807 then (some (t110 ++ t111)) else (none))) = some r := H
 have A10 := Z0 A100
 clear A100
 replace H := Option.bind_eq_some_iff.mp H
 obtain ⟨t111, A110, H⟩ := H
 replace H : (if t110.size + t111.size ≤ 9223372036854775807 then (some (t110 ++ t111)) else (none)) = some r := H
 have A11 := Z0 A110
 clear A110
 by_cases c12 : t110.size + t111.size ≤ 9223372036854775807
 rotate_left
 ·rw [if_neg c12] at H
  exact absurd H (by simp)
 rw [if_pos c12] at H
 have c12b0 := eq_true c12
 have c12b1 : decide (t110.size + t111.size ≤ 9223372036854775807) = true := decide_eq_true c12
 try have c12b2 : (9223372036854775807 < t110.size + t111.size) = False := eq_false (Nat.not_lt.2 c12)
 obtain rfl := Option.some.inj H
 go_enter Tryz.func119, Tryz.ntmps119
 go_wp2_with (first | ((with_reducible refine Z5 (f := 119) rfl ?_); refine gl Tryz.func119 (ih k (by omega) (wrap64 (Int.tdiv a0 10)) t110 _ A10.out) ?_; rintro e w' ⟨rfl, ⟨nd, rfl⟩⟩; refine ⟨_, rfl, ?_⟩) | ((with_reducible refine Z5 (f := 119) rfl ?_); refine gl Tryz.func119 (ih k (by omega) (Int.tmod a0 10) t111 _ A11.out) ?_; rintro e w' ⟨rfl, ⟨nd, rfl⟩⟩; refine ⟨_, rfl, ?_⟩))
 go_ret
 exact ⟨V2, by repeat (first | exact Y4 _ | apply Y0)⟩
def cabinetryref03_isMemo.f (a0 : Int) : Option (Bool) := if a0 ≥ 0 then (some (decide (a0 ≤ 99999999))) else (some false)
theorem cabinetryref03_isMemo.calls (a0 : Int) (r : Bool) (w : World) (h : cabinetryref03_isMemo.f a0 = some r) :
  Calls Tryz.prog 147 #[.int .i64 a0] w fun e w' => e = .returned (.bool r) ∧ Drawn0 w w' := by
 have H : (if a0 ≥ 0 then (some (decide (a0 ≤ 99999999))) else (some false)) = some r := h
 clear h
 by_cases c2 : a0 ≥ 0
 ·rw [if_pos c2] at H
  have c2b0 : decide (0 ≤ a0) = true := decide_eq_true c2
  clear c2
  obtain rfl := Option.some.inj H
  go_enter Tryz.func147, Tryz.ntmps147
  go_wp2
  go_ret
  exact ⟨V2, by repeat (first | exact Y4 _ | apply Y0)⟩
 rw [if_neg c2] at H
 have c2b0 : decide (0 ≤ a0) = false := decide_eq_false c2
 clear c2
 obtain rfl := Option.some.inj H
 go_enter Tryz.func147, Tryz.ntmps147
 go_wp2
 go_ret
 exact ⟨V2, by repeat (first | exact Y4 _ | apply Y0)⟩
def cabinetryref03_fits.j0 : Nat → Bool → Option (Bool)
 | 0, _ => none
 | k + 1, x6 => some x6
def cabinetryref03_fits.f (k : Nat) (a0_0 : ByteArray) (a0_1 : Int) (a0_2 : Int) (a0_3 : Bool) (a1 : Int) (a2_0 : Int) (a2_1 : Int) (a2_2 : ByteArray) : Option (Bool) := (cabinetryref01_Validate.f a2_0 a2_1 a2_2).bind fun t114 => (if t114 = 0 then (if a2_0 = 0 then (some a0_3) else (if a0_1 = 5 then (if a2_0 = 2 then ((cabinetryref03_isMemo.f a2_1).bind fun t115 => (some t115)) else (some false)) else (if a2_0 = a0_1 then (if a0_1 = 2 then ((cabinetryref01_Written.f k a2_1).bind fun t116 => (some (decide ((t116.size : Int) ≤ a0_2)))) else (if a0_1 = 4 then (if (a2_2.size : Int) ≤ a0_2 then ((cabinetryref01_Bare.f k a2_2).bind fun t117 => (if t117.toList = a2_2.toList then ((cabinetryref03_written.f k a2_2 a1).bind fun t118 => (cabinetryref03_fits.j0 k t118)) else (cabinetryref03_fits.j0 k false))) else (cabinetryref03_fits.j0 k false)) else (some true))) else (some false)))) else (some false))
theorem cabinetryref03_fits.mono_l : ∀ k, (∀ y0, LeO (cabinetryref03_fits.j0 k y0) (cabinetryref03_fits.j0 (k + 1) y0))
 | 0 => fun _ r h => by simp [cabinetryref03_fits.j0] at h
 | k + 1 => by
  have ih0 := cabinetryref03_fits.mono_l k
  ·intro y0
   unfold cabinetryref03_fits.j0
   repeat' first
   | (with_reducible exact ih0 _)
   | (with_reducible exact cabinetryref01_Bare.mono _ _)
   | (with_reducible exact cabinetryref01_Written.mono _ _)
   | (with_reducible exact cabinetryref03_written.mono _ _ _)
   | (with_reducible exact LeO.refl _)
   | (with_reducible exact LeO.none _)
   | (with_reducible refine LeO.ite ?_ ?_)
   | (with_reducible refine LeO.bind ?_ (fun _ => ?_))
theorem cabinetryref03_fits.mono : ∀ a0 a1 a2 a3 a4 a5 a6 a7 k, LeO (cabinetryref03_fits.f k a0 a1 a2 a3 a4 a5 a6 a7) (cabinetryref03_fits.f (k + 1) a0 a1 a2 a3 a4 a5 a6 a7) := by
 intro a0 a1 a2 a3 a4 a5 a6 a7 k
 have ih0 := cabinetryref03_fits.mono_l k
 unfold cabinetryref03_fits.f
 repeat' first
   | (with_reducible exact ih0 _)
   | (with_reducible exact cabinetryref01_Bare.mono _ _)
   | (with_reducible exact cabinetryref01_Written.mono _ _)
   | (with_reducible exact cabinetryref03_written.mono _ _ _)
   | (with_reducible exact LeO.refl _)
   | (with_reducible exact LeO.none _)
   | (with_reducible refine LeO.ite ?_ ?_)
   | (with_reducible refine LeO.bind ?_ (fun _ => ?_))
theorem cabinetryref03_fits.calls (k : Nat) (a0_0 : ByteArray) (a0_1 : Int) (a0_2 : Int) (a0_3 : Bool) (a1 : Int) (a2_0 : Int) (a2_1 : Int) (a2_2 : ByteArray) (r : Bool) (w : World) (h : cabinetryref03_fits.f k a0_0 a0_1 a0_2 a0_3 a1 a2_0 a2_1 a2_2 = some r) :
  Calls Tryz.prog 105 #[.agg #[.string a0_0, .int .i64 a0_1, .int .i64 a0_2, .bool a0_3], .int .i64 a1, .agg #[.int .i64 a2_0, .int .i64 a2_1, .string a2_2]] w fun e w' => e = .returned (.bool r) ∧ Below w.heap.size w w' := by
 have hu23 := Tryz.underlying23
 have hu25 := Tryz.underlying25
 have HB := Z0 (Below.refl w.heap.size w)
 unfold cabinetryref03_fits.f at h
 have H := h
 clear h
 replace H := Option.bind_eq_some_iff.mp H
 obtain ⟨t114, A40, H⟩ := H
 replace H : (if t114 = 0 then (if a2_0 = 0 then (some a0_3) else (if a0_1 = 5 then (if a2_0 = 2 then ((cabinetryref03_isMemo.f a2_1).bind fun t115 => (some t115)) else (some false)) else (if a2_0 = a0_1 then (if a0_1 = 2 then ((cabinetryref01_Written.f k a2_1).bind fun t116 => (some (decide ((t116.size : Int) ≤ a0_2)))) else (if a0_1 = 4 then (if (a2_2.size : Int) ≤ a0_2 then ((cabinetryref01_Bare.f k a2_2).bind fun t117 => (if t117.toList = a2_2.toList then ((cabinetryref03_written.f k a2_2 a1).bind fun t118 => (cabinetryref03_fits.j0 k t118)) else (cabinetryref03_fits.j0 k false))) else (cabinetryref03_fits.j0 k false)) else (some true))) else (some false)))) else (some false)) = some r := H
 have A4 := Z0 A40
 clear A40
 by_cases c5 : t114 = 0
 rotate_left
 ·rw [if_neg c5] at H
  have c5b0 : (t114 == 0) = false := beq_eq_false_iff_ne.mpr c5
  have c5b1 : (t114 != 0) = true := bne_iff_ne.mpr c5
  obtain rfl := Option.some.inj H
  go_enter Tryz.func105, Tryz.ntmps105
  go_wp2_with (first | ((with_reducible refine Z9 (N := 3) rfl ?_); refine bx (N := 3) (cs := #[.string a0_0, .int .i64 a0_1, .int .i64 a0_2, .bool a0_3]) (t := 23) ?_; intro gb112 hg w77 hbox hb; have BK112 := Z0 hbox; have GE112 := ge hg HB.out; replace HB := Z0 (Z1 HB.out hb); clear hb hbox hg) | ((with_reducible refine Z9 (N := 5) rfl ?_); refine bx (N := 5) (cs := #[.int .i64 a2_0, .int .i64 a2_1, .string a2_2]) (t := 25) ?_; intro gb113 hg w78 hbox hb; have BK113 := Z0 hbox; have GE113 := ge hg HB.out; replace HB := Z0 (Z1 HB.out hb); obtain ⟨NB112_113, NB113_112⟩ := nb hg BK112.out; replace BK112 := Z0 (Z2 BK112.out hb); clear hb hbox hg; have hnb79 := NB113_112.out; have hnc79 := NB112_113.out; obtain ⟨hcz80_0, hcz80_1, hcz80_2⟩ := bc3 BK113.out; obtain ⟨hfz80_0, hfz80_1, hfz80_2⟩ := bf3 BK113.out) | (go_at_call 57; (with_reducible refine (cabinetryref01_Validate.calls a2_0 a2_1 a2_2 t114 _ A4.out).mono ?_); rintro e w81 ⟨rfl, hb⟩; replace BK112 := Z0 (Z2 BK112.out hb); replace BK113 := Z0 (Z2 BK113.out hb); replace HB := Z0 (Z1 HB.out hb)))
  repeat (go_quiet (first | ((with_reducible refine Z9 (N := 3) rfl ?_); refine bx (N := 3) (cs := #[.string a0_0, .int .i64 a0_1, .int .i64 a0_2, .bool a0_3]) (t := 23) ?_; intro gb112 hg w77 hbox hb; have BK112 := Z0 hbox; have GE112 := ge hg HB.out; replace HB := Z0 (Z1 HB.out hb); clear hb hbox hg) | ((with_reducible refine Z9 (N := 5) rfl ?_); refine bx (N := 5) (cs := #[.int .i64 a2_0, .int .i64 a2_1, .string a2_2]) (t := 25) ?_; intro gb113 hg w78 hbox hb; have BK113 := Z0 hbox; have GE113 := ge hg HB.out; replace HB := Z0 (Z1 HB.out hb); obtain ⟨NB112_113, NB113_112⟩ := nb hg BK112.out; replace BK112 := Z0 (Z2 BK112.out hb); clear hb hbox hg; have hnb79 := NB113_112.out; have hnc79 := NB112_113.out; obtain ⟨hcz80_0, hcz80_1, hcz80_2⟩ := bc3 BK113.out; obtain ⟨hfz80_0, hfz80_1, hfz80_2⟩ := bf3 BK113.out) | (go_at_call 57; (with_reducible refine (cabinetryref01_Validate.calls a2_0 a2_1 a2_2 t114 _ A4.out).mono ?_); rintro e w81 ⟨rfl, hb⟩; replace BK112 := Z0 (Z2 BK112.out hb); replace BK113 := Z0 (Z2 BK113.out hb); replace HB := Z0 (Z1 HB.out hb))); try go_wp2_with (first | ((with_reducible refine Z9 (N := 3) rfl ?_); refine bx (N := 3) (cs := #[.string a0_0, .int .i64 a0_1, .int .i64 a0_2, .bool a0_3]) (t := 23) ?_; intro gb112 hg w77 hbox hb; have BK112 := Z0 hbox; have GE112 := ge hg HB.out; replace HB := Z0 (Z1 HB.out hb); clear hb hbox hg) | ((with_reducible refine Z9 (N := 5) rfl ?_); refine bx (N := 5) (cs := #[.int .i64 a2_0, .int .i64 a2_1, .string a2_2]) (t := 25) ?_; intro gb113 hg w78 hbox hb; have BK113 := Z0 hbox; have GE113 := ge hg HB.out; replace HB := Z0 (Z1 HB.out hb); obtain ⟨NB112_113, NB113_112⟩ := nb hg BK112.out; replace BK112 := Z0 (Z2 BK112.out hb); clear hb hbox hg; have hnb79 := NB113_112.out; have hnc79 := NB112_113.out; obtain ⟨hcz80_0, hcz80_1, hcz80_2⟩ := bc3 BK113.out; obtain ⟨hfz80_0, hfz80_1, hfz80_2⟩ := bf3 BK113.out) | (go_at_call 57; (with_reducible refine (cabinetryref01_Validate.calls a2_0 a2_1 a2_2 t114 _ A4.out).mono ?_); rintro e w81 ⟨rfl, hb⟩; replace BK112 := Z0 (Z2 BK112.out hb); replace BK113 := Z0 (Z2 BK113.out hb); replace HB := Z0 (Z1 HB.out hb))))
  go_ret
  exact ⟨rfl, V0⟩
 rw [if_pos c5] at H
 have c5b0 : (t114 == 0) = true := beq_iff_eq.mpr c5
 have c5b1 : (t114 != 0) = false := bne_eq_false_iff_eq.mpr c5
 clear c5
 by_cases c6 : a2_0 = 0
 ·rw [if_pos c6] at H
  have c6b0 : (a2_0 == 0) = true := beq_iff_eq.mpr c6
  have c6b1 : (a2_0 != 0) = false := bne_eq_false_iff_eq.mpr c6
  clear c6
  obtain rfl := Option.some.inj H
  go_enter Tryz.func105, Tryz.ntmps105
  go_wp2_with (first | ((with_reducible refine Z9 (N := 3) rfl ?_); refine bx (N := 3) (cs := #[.string a0_0, .int .i64 a0_1, .int .i64 a0_2, .bool a0_3]) (t := 23) ?_; intro gb112 hg w7 hbox hb; have BK112 := Z0 hbox; have GE112 := ge hg HB.out; replace HB := Z0 (Z1 HB.out hb); clear hb hbox hg) | ((with_reducible refine Z9 (N := 5) rfl ?_); refine bx (N := 5) (cs := #[.int .i64 a2_0, .int .i64 a2_1, .string a2_2]) (t := 25) ?_; intro gb113 hg w8 hbox hb; have BK113 := Z0 hbox; have GE113 := ge hg HB.out; replace HB := Z0 (Z1 HB.out hb); obtain ⟨NB112_113, NB113_112⟩ := nb hg BK112.out; replace BK112 := Z0 (Z2 BK112.out hb); clear hb hbox hg; have hnb9 := NB113_112.out; have hnc9 := NB112_113.out; obtain ⟨hcz10_0, hcz10_1, hcz10_2⟩ := bc3 BK113.out; obtain ⟨hfz10_0, hfz10_1, hfz10_2⟩ := bf3 BK113.out) | (go_at_call 57; (with_reducible refine (cabinetryref01_Validate.calls a2_0 a2_1 a2_2 t114 _ A4.out).mono ?_); rintro e w11 ⟨rfl, hb⟩; replace BK112 := Z0 (Z2 BK112.out hb); replace BK113 := Z0 (Z2 BK113.out hb); replace HB := Z0 (Z1 HB.out hb); obtain ⟨hcz12_0, hcz12_1, hcz12_2⟩ := bc3 BK113.out; obtain ⟨hfz12_0, hfz12_1, hfz12_2⟩ := bf3 BK113.out; obtain ⟨hcz13_0, hcz13_1, hcz13_2, hcz13_3⟩ := bc4 BK112.out; obtain ⟨hfz13_0, hfz13_1, hfz13_2, hfz13_3⟩ := bf4 BK112.out))
  repeat (go_quiet (first | ((with_reducible refine Z9 (N := 3) rfl ?_); refine bx (N := 3) (cs := #[.string a0_0, .int .i64 a0_1, .int .i64 a0_2, .bool a0_3]) (t := 23) ?_; intro gb112 hg w7 hbox hb; have BK112 := Z0 hbox; have GE112 := ge hg HB.out; replace HB := Z0 (Z1 HB.out hb); clear hb hbox hg) | ((with_reducible refine Z9 (N := 5) rfl ?_); refine bx (N := 5) (cs := #[.int .i64 a2_0, .int .i64 a2_1, .string a2_2]) (t := 25) ?_; intro gb113 hg w8 hbox hb; have BK113 := Z0 hbox; have GE113 := ge hg HB.out; replace HB := Z0 (Z1 HB.out hb); obtain ⟨NB112_113, NB113_112⟩ := nb hg BK112.out; replace BK112 := Z0 (Z2 BK112.out hb); clear hb hbox hg; have hnb9 := NB113_112.out; have hnc9 := NB112_113.out; obtain ⟨hcz10_0, hcz10_1, hcz10_2⟩ := bc3 BK113.out; obtain ⟨hfz10_0, hfz10_1, hfz10_2⟩ := bf3 BK113.out) | (go_at_call 57; (with_reducible refine (cabinetryref01_Validate.calls a2_0 a2_1 a2_2 t114 _ A4.out).mono ?_); rintro e w11 ⟨rfl, hb⟩; replace BK112 := Z0 (Z2 BK112.out hb); replace BK113 := Z0 (Z2 BK113.out hb); replace HB := Z0 (Z1 HB.out hb); obtain ⟨hcz12_0, hcz12_1, hcz12_2⟩ := bc3 BK113.out; obtain ⟨hfz12_0, hfz12_1, hfz12_2⟩ := bf3 BK113.out; obtain ⟨hcz13_0, hcz13_1, hcz13_2, hcz13_3⟩ := bc4 BK112.out; obtain ⟨hfz13_0, hfz13_1, hfz13_2, hfz13_3⟩ := bf4 BK112.out)); try go_wp2_with (first | ((with_reducible refine Z9 (N := 3) rfl ?_); refine bx (N := 3) (cs := #[.string a0_0, .int .i64 a0_1, .int .i64 a0_2, .bool a0_3]) (t := 23) ?_; intro gb112 hg w7 hbox hb; have BK112 := Z0 hbox; have GE112 := ge hg HB.out; replace HB := Z0 (Z1 HB.out hb); clear hb hbox hg) | ((with_reducible refine Z9 (N := 5) rfl ?_); refine bx (N := 5) (cs := #[.int .i64 a2_0, .int .i64 a2_1, .string a2_2]) (t := 25) ?_; intro gb113 hg w8 hbox hb; have BK113 := Z0 hbox; have GE113 := ge hg HB.out; replace HB := Z0 (Z1 HB.out hb); obtain ⟨NB112_113, NB113_112⟩ := nb hg BK112.out; replace BK112 := Z0 (Z2 BK112.out hb); clear hb hbox hg; have hnb9 := NB113_112.out; have hnc9 := NB112_113.out; obtain ⟨hcz10_0, hcz10_1, hcz10_2⟩ := bc3 BK113.out; obtain ⟨hfz10_0, hfz10_1, hfz10_2⟩ := bf3 BK113.out) | (go_at_call 57; (with_reducible refine (cabinetryref01_Validate.calls a2_0 a2_1 a2_2 t114 _ A4.out).mono ?_); rintro e w11 ⟨rfl, hb⟩; replace BK112 := Z0 (Z2 BK112.out hb); replace BK113 := Z0 (Z2 BK113.out hb); replace HB := Z0 (Z1 HB.out hb); obtain ⟨hcz12_0, hcz12_1, hcz12_2⟩ := bc3 BK113.out; obtain ⟨hfz12_0, hfz12_1, hfz12_2⟩ := bf3 BK113.out; obtain ⟨hcz13_0, hcz13_1, hcz13_2, hcz13_3⟩ := bc4 BK112.out; obtain ⟨hfz13_0, hfz13_1, hfz13_2, hfz13_3⟩ := bf4 BK112.out)))
  go_ret
  exact ⟨rfl, V0⟩
 rw [if_neg c6] at H
 have c6b0 : (a2_0 == 0) = false := beq_eq_false_iff_ne.mpr c6
 have c6b1 : (a2_0 != 0) = true := bne_iff_ne.mpr c6
 by_cases c14 : a0_1 = 5
 ·rw [if_pos c14] at H
  have c14b0 : (a0_1 == 5) = true := beq_iff_eq.mpr c14
  have c14b1 : (a0_1 != 5) = false := bne_eq_false_iff_eq.mpr c14
  clear c14
  by_cases c15 : a2_0 = 2
  rotate_left
  ·rw [if_neg c15] at H
   have c15b0 : (a2_0 == 2) = false := beq_eq_false_iff_ne.mpr c15
   have c15b1 : (a2_0 != 2) = true := bne_iff_ne.mpr c15
   obtain rfl := Option.some.inj H
   go_enter Tryz.func105, Tryz.ntmps105
   go_wp2_with (first | ((with_reducible refine Z9 (N := 3) rfl ?_); refine bx (N := 3) (cs := #[.string a0_0, .int .i64 a0_1, .int .i64 a0_2, .bool a0_3]) (t := 23) ?_; intro gb112 hg w24 hbox hb; have BK112 := Z0 hbox; have GE112 := ge hg HB.out; replace HB := Z0 (Z1 HB.out hb); clear hb hbox hg) | ((with_reducible refine Z9 (N := 5) rfl ?_); refine bx (N := 5) (cs := #[.int .i64 a2_0, .int .i64 a2_1, .string a2_2]) (t := 25) ?_; intro gb113 hg w25 hbox hb; have BK113 := Z0 hbox; have GE113 := ge hg HB.out; replace HB := Z0 (Z1 HB.out hb); obtain ⟨NB112_113, NB113_112⟩ := nb hg BK112.out; replace BK112 := Z0 (Z2 BK112.out hb); clear hb hbox hg; have hnb26 := NB113_112.out; have hnc26 := NB112_113.out; obtain ⟨hcz27_0, hcz27_1, hcz27_2⟩ := bc3 BK113.out; obtain ⟨hfz27_0, hfz27_1, hfz27_2⟩ := bf3 BK113.out) | (go_at_call 57; (with_reducible refine (cabinetryref01_Validate.calls a2_0 a2_1 a2_2 t114 _ A4.out).mono ?_); rintro e w28 ⟨rfl, hb⟩; replace BK112 := Z0 (Z2 BK112.out hb); replace BK113 := Z0 (Z2 BK113.out hb); replace HB := Z0 (Z1 HB.out hb); obtain ⟨hcz29_0, hcz29_1, hcz29_2⟩ := bc3 BK113.out; obtain ⟨hfz29_0, hfz29_1, hfz29_2⟩ := bf3 BK113.out; obtain ⟨hcz30_0, hcz30_1, hcz30_2, hcz30_3⟩ := bc4 BK112.out; obtain ⟨hfz30_0, hfz30_1, hfz30_2, hfz30_3⟩ := bf4 BK112.out))
   repeat (go_quiet (first | ((with_reducible refine Z9 (N := 3) rfl ?_); refine bx (N := 3) (cs := #[.string a0_0, .int .i64 a0_1, .int .i64 a0_2, .bool a0_3]) (t := 23) ?_; intro gb112 hg w24 hbox hb; have BK112 := Z0 hbox; have GE112 := ge hg HB.out; replace HB := Z0 (Z1 HB.out hb); clear hb hbox hg) | ((with_reducible refine Z9 (N := 5) rfl ?_); refine bx (N := 5) (cs := #[.int .i64 a2_0, .int .i64 a2_1, .string a2_2]) (t := 25) ?_; intro gb113 hg w25 hbox hb; have BK113 := Z0 hbox; have GE113 := ge hg HB.out; replace HB := Z0 (Z1 HB.out hb); obtain ⟨NB112_113, NB113_112⟩ := nb hg BK112.out; replace BK112 := Z0 (Z2 BK112.out hb); clear hb hbox hg; have hnb26 := NB113_112.out; have hnc26 := NB112_113.out; obtain ⟨hcz27_0, hcz27_1, hcz27_2⟩ := bc3 BK113.out; obtain ⟨hfz27_0, hfz27_1, hfz27_2⟩ := bf3 BK113.out) | (go_at_call 57; (with_reducible refine (cabinetryref01_Validate.calls a2_0 a2_1 a2_2 t114 _ A4.out).mono ?_); rintro e w28 ⟨rfl, hb⟩; replace BK112 := Z0 (Z2 BK112.out hb); replace BK113 := Z0 (Z2 BK113.out hb); replace HB := Z0 (Z1 HB.out hb); obtain ⟨hcz29_0, hcz29_1, hcz29_2⟩ := bc3 BK113.out; obtain ⟨hfz29_0, hfz29_1, hfz29_2⟩ := bf3 BK113.out; obtain ⟨hcz30_0, hcz30_1, hcz30_2, hcz30_3⟩ := bc4 BK112.out; obtain ⟨hfz30_0, hfz30_1, hfz30_2, hfz30_3⟩ := bf4 BK112.out)); try go_wp2_with (first | ((with_reducible refine Z9 (N := 3) rfl ?_); refine bx (N := 3) (cs := #[.string a0_0, .int .i64 a0_1, .int .i64 a0_2, .bool a0_3]) (t := 23) ?_; intro gb112 hg w24 hbox hb; have BK112 := Z0 hbox; have GE112 := ge hg HB.out; replace HB := Z0 (Z1 HB.out hb); clear hb hbox hg) | ((with_reducible refine Z9 (N := 5) rfl ?_); refine bx (N := 5) (cs := #[.int .i64 a2_0, .int .i64 a2_1, .string a2_2]) (t := 25) ?_; intro gb113 hg w25 hbox hb; have BK113 := Z0 hbox; have GE113 := ge hg HB.out; replace HB := Z0 (Z1 HB.out hb); obtain ⟨NB112_113, NB113_112⟩ := nb hg BK112.out; replace BK112 := Z0 (Z2 BK112.out hb); clear hb hbox hg; have hnb26 := NB113_112.out; have hnc26 := NB112_113.out; obtain ⟨hcz27_0, hcz27_1, hcz27_2⟩ := bc3 BK113.out; obtain ⟨hfz27_0, hfz27_1, hfz27_2⟩ := bf3 BK113.out) | (go_at_call 57; (with_reducible refine (cabinetryref01_Validate.calls a2_0 a2_1 a2_2 t114 _ A4.out).mono ?_); rintro e w28 ⟨rfl, hb⟩; replace BK112 := Z0 (Z2 BK112.out hb); replace BK113 := Z0 (Z2 BK113.out hb); replace HB := Z0 (Z1 HB.out hb); obtain ⟨hcz29_0, hcz29_1, hcz29_2⟩ := bc3 BK113.out; obtain ⟨hfz29_0, hfz29_1, hfz29_2⟩ := bf3 BK113.out; obtain ⟨hcz30_0, hcz30_1, hcz30_2, hcz30_3⟩ := bc4 BK112.out; obtain ⟨hfz30_0, hfz30_1, hfz30_2, hfz30_3⟩ := bf4 BK112.out)))
   go_ret
   exact ⟨rfl, V0⟩
  rw [if_pos c15] at H
  have c15b0 : (a2_0 == 2) = true := beq_iff_eq.mpr c15
  have c15b1 : (a2_0 != 2) = false := bne_eq_false_iff_eq.mpr c15
  clear c15
  replace H := Option.bind_eq_some_iff.mp H
  obtain ⟨t115, A160, H⟩ := H
  replace H : (some t115) = some r := H
  have A16 := Z0 A160
  clear A160
  obtain rfl := Option.some.inj H
  go_enter Tryz.func105, Tryz.ntmps105
  go_wp2_with (first | ((with_reducible refine Z9 (N := 3) rfl ?_); refine bx (N := 3) (cs := #[.string a0_0, .int .i64 a0_1, .int .i64 a0_2, .bool a0_3]) (t := 23) ?_; intro gb112 hg w17 hbox hb; have BK112 := Z0 hbox; have GE112 := ge hg HB.out; replace HB := Z0 (Z1 HB.out hb); clear hb hbox hg) | ((with_reducible refine Z9 (N := 5) rfl ?_); refine bx (N := 5) (cs := #[.int .i64 a2_0, .int .i64 a2_1, .string a2_2]) (t := 25) ?_; intro gb113 hg w18 hbox hb; have BK113 := Z0 hbox; have GE113 := ge hg HB.out; replace HB := Z0 (Z1 HB.out hb); obtain ⟨NB112_113, NB113_112⟩ := nb hg BK112.out; replace BK112 := Z0 (Z2 BK112.out hb); clear hb hbox hg; have hnb19 := NB113_112.out; have hnc19 := NB112_113.out; obtain ⟨hcz20_0, hcz20_1, hcz20_2⟩ := bc3 BK113.out; obtain ⟨hfz20_0, hfz20_1, hfz20_2⟩ := bf3 BK113.out) | (go_at_call 57; (with_reducible refine (cabinetryref01_Validate.calls a2_0 a2_1 a2_2 t114 _ A4.out).mono ?_); rintro e w21 ⟨rfl, hb⟩; replace BK112 := Z0 (Z2 BK112.out hb); replace BK113 := Z0 (Z2 BK113.out hb); replace HB := Z0 (Z1 HB.out hb); obtain ⟨hcz22_0, hcz22_1, hcz22_2⟩ := bc3 BK113.out; obtain ⟨hfz22_0, hfz22_1, hfz22_2⟩ := bf3 BK113.out; obtain ⟨hcz23_0, hcz23_1, hcz23_2, hcz23_3⟩ := bc4 BK112.out; obtain ⟨hfz23_0, hfz23_1, hfz23_2, hfz23_3⟩ := bf4 BK112.out) | (go_at_call 147; (with_reducible refine (cabinetryref03_isMemo.calls a2_1 t115 _ A16.out).mono ?_); rintro e w' ⟨rfl, ⟨nd, rfl⟩⟩; (try first | exact ⟨rfl, _, World.drewN_drewN _ _ _⟩ | exact ⟨rfl, _, Eq.trans (World.drewN_drewN _ _ _) (congrArg (World.drewN _) (Nat.add_assoc _ _ _))⟩)))
  repeat (go_quiet (first | ((with_reducible refine Z9 (N := 3) rfl ?_); refine bx (N := 3) (cs := #[.string a0_0, .int .i64 a0_1, .int .i64 a0_2, .bool a0_3]) (t := 23) ?_; intro gb112 hg w17 hbox hb; have BK112 := Z0 hbox; have GE112 := ge hg HB.out; replace HB := Z0 (Z1 HB.out hb); clear hb hbox hg) | ((with_reducible refine Z9 (N := 5) rfl ?_); refine bx (N := 5) (cs := #[.int .i64 a2_0, .int .i64 a2_1, .string a2_2]) (t := 25) ?_; intro gb113 hg w18 hbox hb; have BK113 := Z0 hbox; have GE113 := ge hg HB.out; replace HB := Z0 (Z1 HB.out hb); obtain ⟨NB112_113, NB113_112⟩ := nb hg BK112.out; replace BK112 := Z0 (Z2 BK112.out hb); clear hb hbox hg; have hnb19 := NB113_112.out; have hnc19 := NB112_113.out; obtain ⟨hcz20_0, hcz20_1, hcz20_2⟩ := bc3 BK113.out; obtain ⟨hfz20_0, hfz20_1, hfz20_2⟩ := bf3 BK113.out) | (go_at_call 57; (with_reducible refine (cabinetryref01_Validate.calls a2_0 a2_1 a2_2 t114 _ A4.out).mono ?_); rintro e w21 ⟨rfl, hb⟩; replace BK112 := Z0 (Z2 BK112.out hb); replace BK113 := Z0 (Z2 BK113.out hb); replace HB := Z0 (Z1 HB.out hb); obtain ⟨hcz22_0, hcz22_1, hcz22_2⟩ := bc3 BK113.out; obtain ⟨hfz22_0, hfz22_1, hfz22_2⟩ := bf3 BK113.out; obtain ⟨hcz23_0, hcz23_1, hcz23_2, hcz23_3⟩ := bc4 BK112.out; obtain ⟨hfz23_0, hfz23_1, hfz23_2, hfz23_3⟩ := bf4 BK112.out) | (go_at_call 147; (with_reducible refine (cabinetryref03_isMemo.calls a2_1 t115 _ A16.out).mono ?_); rintro e w' ⟨rfl, ⟨nd, rfl⟩⟩; (try first | exact ⟨rfl, _, World.drewN_drewN _ _ _⟩ | exact ⟨rfl, _, Eq.trans (World.drewN_drewN _ _ _) (congrArg (World.drewN _) (Nat.add_assoc _ _ _))⟩))); try go_wp2_with (first | ((with_reducible refine Z9 (N := 3) rfl ?_); refine bx (N := 3) (cs := #[.string a0_0, .int .i64 a0_1, .int .i64 a0_2, .bool a0_3]) (t := 23) ?_; intro gb112 hg w17 hbox hb; have BK112 := Z0 hbox; have GE112 := ge hg HB.out; replace HB := Z0 (Z1 HB.out hb); clear hb hbox hg) | ((with_reducible refine Z9 (N := 5) rfl ?_); refine bx (N := 5) (cs := #[.int .i64 a2_0, .int .i64 a2_1, .string a2_2]) (t := 25) ?_; intro gb113 hg w18 hbox hb; have BK113 := Z0 hbox; have GE113 := ge hg HB.out; replace HB := Z0 (Z1 HB.out hb); obtain ⟨NB112_113, NB113_112⟩ := nb hg BK112.out; replace BK112 := Z0 (Z2 BK112.out hb); clear hb hbox hg; have hnb19 := NB113_112.out; have hnc19 := NB112_113.out; obtain ⟨hcz20_0, hcz20_1, hcz20_2⟩ := bc3 BK113.out; obtain ⟨hfz20_0, hfz20_1, hfz20_2⟩ := bf3 BK113.out) | (go_at_call 57; (with_reducible refine (cabinetryref01_Validate.calls a2_0 a2_1 a2_2 t114 _ A4.out).mono ?_); rintro e w21 ⟨rfl, hb⟩; replace BK112 := Z0 (Z2 BK112.out hb); replace BK113 := Z0 (Z2 BK113.out hb); replace HB := Z0 (Z1 HB.out hb); obtain ⟨hcz22_0, hcz22_1, hcz22_2⟩ := bc3 BK113.out; obtain ⟨hfz22_0, hfz22_1, hfz22_2⟩ := bf3 BK113.out; obtain ⟨hcz23_0, hcz23_1, hcz23_2, hcz23_3⟩ := bc4 BK112.out; obtain ⟨hfz23_0, hfz23_1, hfz23_2, hfz23_3⟩ := bf4 BK112.out) | (go_at_call 147; (with_reducible refine (cabinetryref03_isMemo.calls a2_1 t115 _ A16.out).mono ?_); rintro e w' ⟨rfl, ⟨nd, rfl⟩⟩; (try first | exact ⟨rfl, _, World.drewN_drewN _ _ _⟩ | exact ⟨rfl, _, Eq.trans (World.drewN_drewN _ _ _) (congrArg (World.drewN _) (Nat.add_assoc _ _ _))⟩))))
  go_ret
  exact ⟨rfl, V0⟩
 rw [if_neg c14] at H
 have c14b0 : (a0_1 == 5) = false := beq_eq_false_iff_ne.mpr c14
 have c14b1 : (a0_1 != 5) = true := bne_iff_ne.mpr c14
 by_cases c31 : a2_0 = a0_1
 rotate_left
 ·rw [if_neg c31] at H
  have c31b0 : (a2_0 == a0_1) = false := beq_eq_false_iff_ne.mpr c31
  have c31b1 : (a2_0 != a0_1) = true := bne_iff_ne.mpr c31
  obtain rfl := Option.some.inj H
  go_enter Tryz.func105, Tryz.ntmps105
  go_wp2_with (first | ((with_reducible refine Z9 (N := 3) rfl ?_); refine bx (N := 3) (cs := #[.string a0_0, .int .i64 a0_1, .int .i64 a0_2, .bool a0_3]) (t := 23) ?_; intro gb112 hg w70 hbox hb; have BK112 := Z0 hbox; have GE112 := ge hg HB.out; replace HB := Z0 (Z1 HB.out hb); clear hb hbox hg) | ((with_reducible refine Z9 (N := 5) rfl ?_); refine bx (N := 5) (cs := #[.int .i64 a2_0, .int .i64 a2_1, .string a2_2]) (t := 25) ?_; intro gb113 hg w71 hbox hb; have BK113 := Z0 hbox; have GE113 := ge hg HB.out; replace HB := Z0 (Z1 HB.out hb); obtain ⟨NB112_113, NB113_112⟩ := nb hg BK112.out; replace BK112 := Z0 (Z2 BK112.out hb); clear hb hbox hg; have hnb72 := NB113_112.out; have hnc72 := NB112_113.out; obtain ⟨hcz73_0, hcz73_1, hcz73_2⟩ := bc3 BK113.out; obtain ⟨hfz73_0, hfz73_1, hfz73_2⟩ := bf3 BK113.out) | (go_at_call 57; (with_reducible refine (cabinetryref01_Validate.calls a2_0 a2_1 a2_2 t114 _ A4.out).mono ?_); rintro e w74 ⟨rfl, hb⟩; replace BK112 := Z0 (Z2 BK112.out hb); replace BK113 := Z0 (Z2 BK113.out hb); replace HB := Z0 (Z1 HB.out hb); obtain ⟨hcz75_0, hcz75_1, hcz75_2⟩ := bc3 BK113.out; obtain ⟨hfz75_0, hfz75_1, hfz75_2⟩ := bf3 BK113.out; obtain ⟨hcz76_0, hcz76_1, hcz76_2, hcz76_3⟩ := bc4 BK112.out; obtain ⟨hfz76_0, hfz76_1, hfz76_2, hfz76_3⟩ := bf4 BK112.out))
  repeat (go_quiet (first | ((with_reducible refine Z9 (N := 3) rfl ?_); refine bx (N := 3) (cs := #[.string a0_0, .int .i64 a0_1, .int .i64 a0_2, .bool a0_3]) (t := 23) ?_; intro gb112 hg w70 hbox hb; have BK112 := Z0 hbox; have GE112 := ge hg HB.out; replace HB := Z0 (Z1 HB.out hb); clear hb hbox hg) | ((with_reducible refine Z9 (N := 5) rfl ?_); refine bx (N := 5) (cs := #[.int .i64 a2_0, .int .i64 a2_1, .string a2_2]) (t := 25) ?_; intro gb113 hg w71 hbox hb; have BK113 := Z0 hbox; have GE113 := ge hg HB.out; replace HB := Z0 (Z1 HB.out hb); obtain ⟨NB112_113, NB113_112⟩ := nb hg BK112.out; replace BK112 := Z0 (Z2 BK112.out hb); clear hb hbox hg; have hnb72 := NB113_112.out; have hnc72 := NB112_113.out; obtain ⟨hcz73_0, hcz73_1, hcz73_2⟩ := bc3 BK113.out; obtain ⟨hfz73_0, hfz73_1, hfz73_2⟩ := bf3 BK113.out) | (go_at_call 57; (with_reducible refine (cabinetryref01_Validate.calls a2_0 a2_1 a2_2 t114 _ A4.out).mono ?_); rintro e w74 ⟨rfl, hb⟩; replace BK112 := Z0 (Z2 BK112.out hb); replace BK113 := Z0 (Z2 BK113.out hb); replace HB := Z0 (Z1 HB.out hb); obtain ⟨hcz75_0, hcz75_1, hcz75_2⟩ := bc3 BK113.out; obtain ⟨hfz75_0, hfz75_1, hfz75_2⟩ := bf3 BK113.out; obtain ⟨hcz76_0, hcz76_1, hcz76_2, hcz76_3⟩ := bc4 BK112.out; obtain ⟨hfz76_0, hfz76_1, hfz76_2, hfz76_3⟩ := bf4 BK112.out)); try go_wp2_with (first | ((with_reducible refine Z9 (N := 3) rfl ?_); refine bx (N := 3) (cs := #[.string a0_0, .int .i64 a0_1, .int .i64 a0_2, .bool a0_3]) (t := 23) ?_; intro gb112 hg w70 hbox hb; have BK112 := Z0 hbox; have GE112 := ge hg HB.out; replace HB := Z0 (Z1 HB.out hb); clear hb hbox hg) | ((with_reducible refine Z9 (N := 5) rfl ?_); refine bx (N := 5) (cs := #[.int .i64 a2_0, .int .i64 a2_1, .string a2_2]) (t := 25) ?_; intro gb113 hg w71 hbox hb; have BK113 := Z0 hbox; have GE113 := ge hg HB.out; replace HB := Z0 (Z1 HB.out hb); obtain ⟨NB112_113, NB113_112⟩ := nb hg BK112.out; replace BK112 := Z0 (Z2 BK112.out hb); clear hb hbox hg; have hnb72 := NB113_112.out; have hnc72 := NB112_113.out; obtain ⟨hcz73_0, hcz73_1, hcz73_2⟩ := bc3 BK113.out; obtain ⟨hfz73_0, hfz73_1, hfz73_2⟩ := bf3 BK113.out) | (go_at_call 57; (with_reducible refine (cabinetryref01_Validate.calls a2_0 a2_1 a2_2 t114 _ A4.out).mono ?_); rintro e w74 ⟨rfl, hb⟩; replace BK112 := Z0 (Z2 BK112.out hb); replace BK113 := Z0 (Z2 BK113.out hb); replace HB := Z0 (Z1 HB.out hb); obtain ⟨hcz75_0, hcz75_1, hcz75_2⟩ := bc3 BK113.out; obtain ⟨hfz75_0, hfz75_1, hfz75_2⟩ := bf3 BK113.out; obtain ⟨hcz76_0, hcz76_1, hcz76_2, hcz76_3⟩ := bc4 BK112.out; obtain ⟨hfz76_0, hfz76_1, hfz76_2, hfz76_3⟩ := bf4 BK112.out)))
  go_ret
  exact ⟨rfl, V0⟩
 rw [if_pos c31] at H
 have c31b0 : (a2_0 == a0_1) = true := beq_iff_eq.mpr c31
 have c31b1 : (a2_0 != a0_1) = false := bne_eq_false_iff_eq.mpr c31
 clear c31
 by_cases c32 : a0_1 = 2
 ·rw [if_pos c32] at H
  have c32b0 : (a0_1 == 2) = true := beq_iff_eq.mpr c32
  have c32b1 : (a0_1 != 2) = false := bne_eq_false_iff_eq.mpr c32
  clear c32
  replace H := Option.bind_eq_some_iff.mp H
  obtain ⟨t116, A330, H⟩ := H
  replace H : (some (decide ((t116.size : Int) ≤ a0_2))) = some r := H
  have A33 := Z0 A330
  clear A330
  obtain rfl := Option.some.inj H
  go_enter Tryz.func105, Tryz.ntmps105
  go_wp2_with (first | ((with_reducible refine Z9 (N := 3) rfl ?_); refine bx (N := 3) (cs := #[.string a0_0, .int .i64 a0_1, .int .i64 a0_2, .bool a0_3]) (t := 23) ?_; intro gb112 hg w34 hbox hb; have BK112 := Z0 hbox; have GE112 := ge hg HB.out; replace HB := Z0 (Z1 HB.out hb); clear hb hbox hg) | ((with_reducible refine Z9 (N := 5) rfl ?_); refine bx (N := 5) (cs := #[.int .i64 a2_0, .int .i64 a2_1, .string a2_2]) (t := 25) ?_; intro gb113 hg w35 hbox hb; have BK113 := Z0 hbox; have GE113 := ge hg HB.out; replace HB := Z0 (Z1 HB.out hb); obtain ⟨NB112_113, NB113_112⟩ := nb hg BK112.out; replace BK112 := Z0 (Z2 BK112.out hb); clear hb hbox hg; have hnb36 := NB113_112.out; have hnc36 := NB112_113.out; obtain ⟨hcz37_0, hcz37_1, hcz37_2⟩ := bc3 BK113.out; obtain ⟨hfz37_0, hfz37_1, hfz37_2⟩ := bf3 BK113.out) | (go_at_call 57; (with_reducible refine (cabinetryref01_Validate.calls a2_0 a2_1 a2_2 t114 _ A4.out).mono ?_); rintro e w38 ⟨rfl, hb⟩; replace BK112 := Z0 (Z2 BK112.out hb); replace BK113 := Z0 (Z2 BK113.out hb); replace HB := Z0 (Z1 HB.out hb); obtain ⟨hcz39_0, hcz39_1, hcz39_2⟩ := bc3 BK113.out; obtain ⟨hfz39_0, hfz39_1, hfz39_2⟩ := bf3 BK113.out; obtain ⟨hcz40_0, hcz40_1, hcz40_2, hcz40_3⟩ := bc4 BK112.out; obtain ⟨hfz40_0, hfz40_1, hfz40_2, hfz40_3⟩ := bf4 BK112.out) | (go_at_call 119; (with_reducible refine (cabinetryref01_Written.calls k a2_1 t116 _ A33.out).mono ?_); rintro e w' ⟨rfl, ⟨nd, rfl⟩⟩; (try first | exact ⟨rfl, _, World.drewN_drewN _ _ _⟩ | exact ⟨rfl, _, Eq.trans (World.drewN_drewN _ _ _) (congrArg (World.drewN _) (Nat.add_assoc _ _ _))⟩)))
  repeat (go_quiet (first | ((with_reducible refine Z9 (N := 3) rfl ?_); refine bx (N := 3) (cs := #[.string a0_0, .int .i64 a0_1, .int .i64 a0_2, .bool a0_3]) (t := 23) ?_; intro gb112 hg w34 hbox hb; have BK112 := Z0 hbox; have GE112 := ge hg HB.out; replace HB := Z0 (Z1 HB.out hb); clear hb hbox hg) | ((with_reducible refine Z9 (N := 5) rfl ?_); refine bx (N := 5) (cs := #[.int .i64 a2_0, .int .i64 a2_1, .string a2_2]) (t := 25) ?_; intro gb113 hg w35 hbox hb; have BK113 := Z0 hbox; have GE113 := ge hg HB.out; replace HB := Z0 (Z1 HB.out hb); obtain ⟨NB112_113, NB113_112⟩ := nb hg BK112.out; replace BK112 := Z0 (Z2 BK112.out hb); clear hb hbox hg; have hnb36 := NB113_112.out; have hnc36 := NB112_113.out; obtain ⟨hcz37_0, hcz37_1, hcz37_2⟩ := bc3 BK113.out; obtain ⟨hfz37_0, hfz37_1, hfz37_2⟩ := bf3 BK113.out) | (go_at_call 57; (with_reducible refine (cabinetryref01_Validate.calls a2_0 a2_1 a2_2 t114 _ A4.out).mono ?_); rintro e w38 ⟨rfl, hb⟩; replace BK112 := Z0 (Z2 BK112.out hb); replace BK113 := Z0 (Z2 BK113.out hb); replace HB := Z0 (Z1 HB.out hb); obtain ⟨hcz39_0, hcz39_1, hcz39_2⟩ := bc3 BK113.out; obtain ⟨hfz39_0, hfz39_1, hfz39_2⟩ := bf3 BK113.out; obtain ⟨hcz40_0, hcz40_1, hcz40_2, hcz40_3⟩ := bc4 BK112.out; obtain ⟨hfz40_0, hfz40_1, hfz40_2, hfz40_3⟩ := bf4 BK112.out) | (go_at_call 119; (with_reducible refine (cabinetryref01_Written.calls k a2_1 t116 _ A33.out).mono ?_); rintro e w' ⟨rfl, ⟨nd, rfl⟩⟩; (try first | exact ⟨rfl, _, World.drewN_drewN _ _ _⟩ | exact ⟨rfl, _, Eq.trans (World.drewN_drewN _ _ _) (congrArg (World.drewN _) (Nat.add_assoc _ _ _))⟩))); try go_wp2_with (first | ((with_reducible refine Z9 (N := 3) rfl ?_); refine bx (N := 3) (cs := #[.string a0_0, .int .i64 a0_1, .int .i64 a0_2, .bool a0_3]) (t := 23) ?_; intro gb112 hg w34 hbox hb; have BK112 := Z0 hbox; have GE112 := ge hg HB.out; replace HB := Z0 (Z1 HB.out hb); clear hb hbox hg) | ((with_reducible refine Z9 (N := 5) rfl ?_); refine bx (N := 5) (cs := #[.int .i64 a2_0, .int .i64 a2_1, .string a2_2]) (t := 25) ?_; intro gb113 hg w35 hbox hb; have BK113 := Z0 hbox; have GE113 := ge hg HB.out; replace HB := Z0 (Z1 HB.out hb); obtain ⟨NB112_113, NB113_112⟩ := nb hg BK112.out; replace BK112 := Z0 (Z2 BK112.out hb); clear hb hbox hg; have hnb36 := NB113_112.out; have hnc36 := NB112_113.out; obtain ⟨hcz37_0, hcz37_1, hcz37_2⟩ := bc3 BK113.out; obtain ⟨hfz37_0, hfz37_1, hfz37_2⟩ := bf3 BK113.out) | (go_at_call 57; (with_reducible refine (cabinetryref01_Validate.calls a2_0 a2_1 a2_2 t114 _ A4.out).mono ?_); rintro e w38 ⟨rfl, hb⟩; replace BK112 := Z0 (Z2 BK112.out hb); replace BK113 := Z0 (Z2 BK113.out hb); replace HB := Z0 (Z1 HB.out hb); obtain ⟨hcz39_0, hcz39_1, hcz39_2⟩ := bc3 BK113.out; obtain ⟨hfz39_0, hfz39_1, hfz39_2⟩ := bf3 BK113.out; obtain ⟨hcz40_0, hcz40_1, hcz40_2, hcz40_3⟩ := bc4 BK112.out; obtain ⟨hfz40_0, hfz40_1, hfz40_2, hfz40_3⟩ := bf4 BK112.out) | (go_at_call 119; (with_reducible refine (cabinetryref01_Written.calls k a2_1 t116 _ A33.out).mono ?_); rintro e w' ⟨rfl, ⟨nd, rfl⟩⟩; (try first | exact ⟨rfl, _, World.drewN_drewN _ _ _⟩ | exact ⟨rfl, _, Eq.trans (World.drewN_drewN _ _ _) (congrArg (World.drewN _) (Nat.add_assoc _ _ _))⟩))))
  go_ret
  exact ⟨rfl, V0⟩
 rw [if_neg c32] at H
 have c32b0 : (a0_1 == 2) = false := beq_eq_false_iff_ne.mpr c32
 have c32b1 : (a0_1 != 2) = true := bne_iff_ne.mpr c32
 by_cases c41 : a0_1 = 4
 rotate_left
 ·rw [if_neg c41] at H
  have c41b0 : (a0_1 == 4) = false := beq_eq_false_iff_ne.mpr c41
  have c41b1 : (a0_1 != 4) = true := bne_iff_ne.mpr c41
  obtain rfl := Option.some.inj H
  go_enter Tryz.func105, Tryz.ntmps105
  go_wp2_with (first | ((with_reducible refine Z9 (N := 3) rfl ?_); refine bx (N := 3) (cs := #[.string a0_0, .int .i64 a0_1, .int .i64 a0_2, .bool a0_3]) (t := 23) ?_; intro gb112 hg w63 hbox hb; have BK112 := Z0 hbox; have GE112 := ge hg HB.out; replace HB := Z0 (Z1 HB.out hb); clear hb hbox hg) | ((with_reducible refine Z9 (N := 5) rfl ?_); refine bx (N := 5) (cs := #[.int .i64 a2_0, .int .i64 a2_1, .string a2_2]) (t := 25) ?_; intro gb113 hg w64 hbox hb; have BK113 := Z0 hbox; have GE113 := ge hg HB.out; replace HB := Z0 (Z1 HB.out hb); obtain ⟨NB112_113, NB113_112⟩ := nb hg BK112.out; replace BK112 := Z0 (Z2 BK112.out hb); clear hb hbox hg; have hnb65 := NB113_112.out; have hnc65 := NB112_113.out; obtain ⟨hcz66_0, hcz66_1, hcz66_2⟩ := bc3 BK113.out; obtain ⟨hfz66_0, hfz66_1, hfz66_2⟩ := bf3 BK113.out) | (go_at_call 57; (with_reducible refine (cabinetryref01_Validate.calls a2_0 a2_1 a2_2 t114 _ A4.out).mono ?_); rintro e w67 ⟨rfl, hb⟩; replace BK112 := Z0 (Z2 BK112.out hb); replace BK113 := Z0 (Z2 BK113.out hb); replace HB := Z0 (Z1 HB.out hb); obtain ⟨hcz68_0, hcz68_1, hcz68_2⟩ := bc3 BK113.out; obtain ⟨hfz68_0, hfz68_1, hfz68_2⟩ := bf3 BK113.out; obtain ⟨hcz69_0, hcz69_1, hcz69_2, hcz69_3⟩ := bc4 BK112.out; obtain ⟨hfz69_0, hfz69_1, hfz69_2, hfz69_3⟩ := bf4 BK112.out))
  repeat (go_quiet (first | ((with_reducible refine Z9 (N := 3) rfl ?_); refine bx (N := 3) (cs := #[.string a0_0, .int .i64 a0_1, .int .i64 a0_2, .bool a0_3]) (t := 23) ?_; intro gb112 hg w63 hbox hb; have BK112 := Z0 hbox; have GE112 := ge hg HB.out; replace HB := Z0 (Z1 HB.out hb); clear hb hbox hg) | ((with_reducible refine Z9 (N := 5) rfl ?_); refine bx (N := 5) (cs := #[.int .i64 a2_0, .int .i64 a2_1, .string a2_2]) (t := 25) ?_; intro gb113 hg w64 hbox hb; have BK113 := Z0 hbox; have GE113 := ge hg HB.out; replace HB := Z0 (Z1 HB.out hb); obtain ⟨NB112_113, NB113_112⟩ := nb hg BK112.out; replace BK112 := Z0 (Z2 BK112.out hb); clear hb hbox hg; have hnb65 := NB113_112.out; have hnc65 := NB112_113.out; obtain ⟨hcz66_0, hcz66_1, hcz66_2⟩ := bc3 BK113.out; obtain ⟨hfz66_0, hfz66_1, hfz66_2⟩ := bf3 BK113.out) | (go_at_call 57; (with_reducible refine (cabinetryref01_Validate.calls a2_0 a2_1 a2_2 t114 _ A4.out).mono ?_); rintro e w67 ⟨rfl, hb⟩; replace BK112 := Z0 (Z2 BK112.out hb); replace BK113 := Z0 (Z2 BK113.out hb); replace HB := Z0 (Z1 HB.out hb); obtain ⟨hcz68_0, hcz68_1, hcz68_2⟩ := bc3 BK113.out; obtain ⟨hfz68_0, hfz68_1, hfz68_2⟩ := bf3 BK113.out; obtain ⟨hcz69_0, hcz69_1, hcz69_2, hcz69_3⟩ := bc4 BK112.out; obtain ⟨hfz69_0, hfz69_1, hfz69_2, hfz69_3⟩ := bf4 BK112.out)); try go_wp2_with (first | ((with_reducible refine Z9 (N := 3) rfl ?_); refine bx (N := 3) (cs := #[.string a0_0, .int .i64 a0_1, .int .i64 a0_2, .bool a0_3]) (t := 23) ?_; intro gb112 hg w63 hbox hb; have BK112 := Z0 hbox; have GE112 := ge hg HB.out; replace HB := Z0 (Z1 HB.out hb); clear hb hbox hg) | ((with_reducible refine Z9 (N := 5) rfl ?_); refine bx (N := 5) (cs := #[.int .i64 a2_0, .int .i64 a2_1, .string a2_2]) (t := 25) ?_; intro gb113 hg w64 hbox hb; have BK113 := Z0 hbox; have GE113 := ge hg HB.out; replace HB := Z0 (Z1 HB.out hb); obtain ⟨NB112_113, NB113_112⟩ := nb hg BK112.out; replace BK112 := Z0 (Z2 BK112.out hb); clear hb hbox hg; have hnb65 := NB113_112.out; have hnc65 := NB112_113.out; obtain ⟨hcz66_0, hcz66_1, hcz66_2⟩ := bc3 BK113.out; obtain ⟨hfz66_0, hfz66_1, hfz66_2⟩ := bf3 BK113.out) | (go_at_call 57; (with_reducible refine (cabinetryref01_Validate.calls a2_0 a2_1 a2_2 t114 _ A4.out).mono ?_); rintro e w67 ⟨rfl, hb⟩; replace BK112 := Z0 (Z2 BK112.out hb); replace BK113 := Z0 (Z2 BK113.out hb); replace HB := Z0 (Z1 HB.out hb); obtain ⟨hcz68_0, hcz68_1, hcz68_2⟩ := bc3 BK113.out; obtain ⟨hfz68_0, hfz68_1, hfz68_2⟩ := bf3 BK113.out; obtain ⟨hcz69_0, hcz69_1, hcz69_2, hcz69_3⟩ := bc4 BK112.out; obtain ⟨hfz69_0, hfz69_1, hfz69_2, hfz69_3⟩ := bf4 BK112.out)))
  go_ret
  exact ⟨rfl, V0⟩
 rw [if_pos c41] at H
 have c41b0 : (a0_1 == 4) = true := beq_iff_eq.mpr c41
 have c41b1 : (a0_1 != 4) = false := bne_eq_false_iff_eq.mpr c41
 clear c41
 have HC42 := Z0 H
 clear H
 go_enter Tryz.func105, Tryz.ntmps105
 go_upto_region 12 with (first | ((with_reducible refine Z9 (N := 3) rfl ?_); refine bx (N := 3) (cs := #[.string a0_0, .int .i64 a0_1, .int .i64 a0_2, .bool a0_3]) (t := 23) ?_; intro gb112 hg w43 hbox hb; have BK112 := Z0 hbox; have GE112 := ge hg HB.out; replace HB := Z0 (Z1 HB.out hb); clear hb hbox hg) | ((with_reducible refine Z9 (N := 5) rfl ?_); refine bx (N := 5) (cs := #[.int .i64 a2_0, .int .i64 a2_1, .string a2_2]) (t := 25) ?_; intro gb113 hg w44 hbox hb; have BK113 := Z0 hbox; have GE113 := ge hg HB.out; replace HB := Z0 (Z1 HB.out hb); obtain ⟨NB112_113, NB113_112⟩ := nb hg BK112.out; replace BK112 := Z0 (Z2 BK112.out hb); clear hb hbox hg; have hnb45 := NB113_112.out; have hnc45 := NB112_113.out; obtain ⟨hcz46_0, hcz46_1, hcz46_2⟩ := bc3 BK113.out; obtain ⟨hfz46_0, hfz46_1, hfz46_2⟩ := bf3 BK113.out) | (go_at_call 57; (with_reducible refine (cabinetryref01_Validate.calls a2_0 a2_1 a2_2 t114 _ A4.out).mono ?_); rintro e w47 ⟨rfl, hb⟩; replace BK112 := Z0 (Z2 BK112.out hb); replace BK113 := Z0 (Z2 BK113.out hb); replace HB := Z0 (Z1 HB.out hb); obtain ⟨hcz48_0, hcz48_1, hcz48_2⟩ := bc3 BK113.out; obtain ⟨hfz48_0, hfz48_1, hfz48_2⟩ := bf3 BK113.out; obtain ⟨hcz49_0, hcz49_1, hcz49_2, hcz49_3⟩ := bc4 BK112.out; obtain ⟨hfz49_0, hfz49_1, hfz49_2, hfz49_3⟩ := bf4 BK112.out))
 repeat (go_quiet (first | ((with_reducible refine Z9 (N := 3) rfl ?_); refine bx (N := 3) (cs := #[.string a0_0, .int .i64 a0_1, .int .i64 a0_2, .bool a0_3]) (t := 23) ?_; intro gb112 hg w43 hbox hb; have BK112 := Z0 hbox; have GE112 := ge hg HB.out; replace HB := Z0 (Z1 HB.out hb); clear hb hbox hg) | ((with_reducible refine Z9 (N := 5) rfl ?_); refine bx (N := 5) (cs := #[.int .i64 a2_0, .int .i64 a2_1, .string a2_2]) (t := 25) ?_; intro gb113 hg w44 hbox hb; have BK113 := Z0 hbox; have GE113 := ge hg HB.out; replace HB := Z0 (Z1 HB.out hb); obtain ⟨NB112_113, NB113_112⟩ := nb hg BK112.out; replace BK112 := Z0 (Z2 BK112.out hb); clear hb hbox hg; have hnb45 := NB113_112.out; have hnc45 := NB112_113.out; obtain ⟨hcz46_0, hcz46_1, hcz46_2⟩ := bc3 BK113.out; obtain ⟨hfz46_0, hfz46_1, hfz46_2⟩ := bf3 BK113.out) | (go_at_call 57; (with_reducible refine (cabinetryref01_Validate.calls a2_0 a2_1 a2_2 t114 _ A4.out).mono ?_); rintro e w47 ⟨rfl, hb⟩; replace BK112 := Z0 (Z2 BK112.out hb); replace BK113 := Z0 (Z2 BK113.out hb); replace HB := Z0 (Z1 HB.out hb); obtain ⟨hcz48_0, hcz48_1, hcz48_2⟩ := bc3 BK113.out; obtain ⟨hfz48_0, hfz48_1, hfz48_2⟩ := bf3 BK113.out; obtain ⟨hcz49_0, hcz49_1, hcz49_2, hcz49_3⟩ := bc4 BK112.out; obtain ⟨hfz49_0, hfz49_1, hfz49_2, hfz49_3⟩ := bf4 BK112.out)); go_upto_region 12 with (first | ((with_reducible refine Z9 (N := 3) rfl ?_); refine bx (N := 3) (cs := #[.string a0_0, .int .i64 a0_1, .int .i64 a0_2, .bool a0_3]) (t := 23) ?_; intro gb112 hg w43 hbox hb; have BK112 := Z0 hbox; have GE112 := ge hg HB.out; replace HB := Z0 (Z1 HB.out hb); clear hb hbox hg) | ((with_reducible refine Z9 (N := 5) rfl ?_); refine bx (N := 5) (cs := #[.int .i64 a2_0, .int .i64 a2_1, .string a2_2]) (t := 25) ?_; intro gb113 hg w44 hbox hb; have BK113 := Z0 hbox; have GE113 := ge hg HB.out; replace HB := Z0 (Z1 HB.out hb); obtain ⟨NB112_113, NB113_112⟩ := nb hg BK112.out; replace BK112 := Z0 (Z2 BK112.out hb); clear hb hbox hg; have hnb45 := NB113_112.out; have hnc45 := NB112_113.out; obtain ⟨hcz46_0, hcz46_1, hcz46_2⟩ := bc3 BK113.out; obtain ⟨hfz46_0, hfz46_1, hfz46_2⟩ := bf3 BK113.out) | (go_at_call 57; (with_reducible refine (cabinetryref01_Validate.calls a2_0 a2_1 a2_2 t114 _ A4.out).mono ?_); rintro e w47 ⟨rfl, hb⟩; replace BK112 := Z0 (Z2 BK112.out hb); replace BK113 := Z0 (Z2 BK113.out hb); replace HB := Z0 (Z1 HB.out hb); obtain ⟨hcz48_0, hcz48_1, hcz48_2⟩ := bc3 BK113.out; obtain ⟨hfz48_0, hfz48_1, hfz48_2⟩ := bf3 BK113.out; obtain ⟨hcz49_0, hcz49_1, hcz49_2, hcz49_3⟩ := bc4 BK112.out; obtain ⟨hfz49_0, hfz49_1, hfz49_2, hfz49_3⟩ := bf4 BK112.out)))
 (try simp only [Act.put, Z3, Z6, Z7])
 go_cut [6] (fun v6 wc => ∃ (kq : Nat) (x6_41 : Bool), v6 = .bool x6_41 ∧ Aside0 (cabinetryref03_fits.j0 kq x6_41 = some r) ∧ Aside0 (kq ≤ k) ∧ Aside0 (wc.heap[gb112]? = some (.cells #[.string a0_0, .int .i64 a0_1, .int .i64 a0_2, .bool a0_3] 23 (0, 0))) ∧ Aside0 (wc.heap[gb113]? = some (.cells #[.int .i64 a2_0, .int .i64 a2_1, .string a2_2] 25 (0, 0))) ∧ Aside0 (Below w.heap.size w wc))
 case first =>
  have H := HC42.out
  clear HC42
  by_cases c50 : (a2_2.size : Int) ≤ a0_2
  rotate_left
  ·rw [if_neg c50] at H
   have c50b0 : decide ((a2_2.size : Int) ≤ a0_2) = false := decide_eq_false c50
   clear c50
   (first | rw [c50b0] | (simp only [i64_w, i32_w]; rw [c50b0]) | skip)
   have H' := Z0 H
   clear H
   have hnb60 := NB113_112.out
   have hnc60 := NB112_113.out
   obtain ⟨hcz61_0, hcz61_1, hcz61_2⟩ := bc3 BK113.out
   obtain ⟨hfz61_0, hfz61_1, hfz61_2⟩ := bf3 BK113.out
   obtain ⟨hcz62_0, hcz62_1, hcz62_2, hcz62_3⟩ := bc4 BK112.out
   obtain ⟨hfz62_0, hfz62_1, hfz62_2, hfz62_3⟩ := bf4 BK112.out
   go_wp2
   repeat (go_quiet (fail); try go_wp2)
   go_meet
   case rel => exact ⟨_, (false), V2, H', ⟨by first | omega | exact Nat.le_refl _⟩, ⟨bk⟩, ⟨bk⟩, ⟨V0⟩⟩
  rw [if_pos c50] at H
  have c50b0 : decide ((a2_2.size : Int) ≤ a0_2) = true := decide_eq_true c50
  clear c50
  (first | rw [c50b0] | (simp only [i64_w, i32_w]; rw [c50b0]) | skip)
  replace H := Option.bind_eq_some_iff.mp H
  obtain ⟨t117, A510, H⟩ := H
  replace H : (if t117.toList = a2_2.toList then ((cabinetryref03_written.f k a2_2 a1).bind fun t118 => (cabinetryref03_fits.j0 k t118)) else (cabinetryref03_fits.j0 k false)) = some r := H
  have A51 := Z0 A510
  clear A510
  by_cases c52 : t117.toList = a2_2.toList
  rotate_left
  ·rw [if_neg c52] at H
   have c52b0 : (t117.toList == a2_2.toList) = false := beq_eq_false_iff_ne.mpr c52
   have c52b1 : (t117.toList != a2_2.toList) = true := bne_iff_ne.mpr c52
   have H' := Z0 H
   clear H
   have hnb57 := NB113_112.out
   have hnc57 := NB112_113.out
   obtain ⟨hcz58_0, hcz58_1, hcz58_2⟩ := bc3 BK113.out
   obtain ⟨hfz58_0, hfz58_1, hfz58_2⟩ := bf3 BK113.out
   obtain ⟨hcz59_0, hcz59_1, hcz59_2, hcz59_3⟩ := bc4 BK112.out
   obtain ⟨hfz59_0, hfz59_1, hfz59_2, hfz59_3⟩ := bf4 BK112.out
   go_wp2_with (first | (go_at_call 103; (with_reducible refine (cabinetryref01_Bare.calls k a2_2 t117 _ A51.out).mono ?_); rintro e w' ⟨rfl, ⟨nd, rfl⟩⟩; (try first | exact ⟨rfl, _, World.drewN_drewN _ _ _⟩ | exact ⟨rfl, _, Eq.trans (World.drewN_drewN _ _ _) (congrArg (World.drewN _) (Nat.add_assoc _ _ _))⟩)))
   repeat (go_quiet (first | (go_at_call 103; (with_reducible refine (cabinetryref01_Bare.calls k a2_2 t117 _ A51.out).mono ?_); rintro e w' ⟨rfl, ⟨nd, rfl⟩⟩; (try first | exact ⟨rfl, _, World.drewN_drewN _ _ _⟩ | exact ⟨rfl, _, Eq.trans (World.drewN_drewN _ _ _) (congrArg (World.drewN _) (Nat.add_assoc _ _ _))⟩))); try go_wp2_with (first | (go_at_call 103; (with_reducible refine (cabinetryref01_Bare.calls k a2_2 t117 _ A51.out).mono ?_); rintro e w' ⟨rfl, ⟨nd, rfl⟩⟩; (try first | exact ⟨rfl, _, World.drewN_drewN _ _ _⟩ | exact ⟨rfl, _, Eq.trans (World.drewN_drewN _ _ _) (congrArg (World.drewN _) (Nat.add_assoc _ _ _))⟩))))
   go_meet
   case rel => exact ⟨_, (false), V2, H', ⟨by first | omega | exact Nat.le_refl _⟩, ⟨bk⟩, ⟨bk⟩, ⟨V0⟩⟩
  rw [if_pos c52] at H
  have c52b0 : (t117.toList == a2_2.toList) = true := beq_iff_eq.mpr c52
  have c52b1 : (t117.toList != a2_2.toList) = false := bne_eq_false_iff_eq.mpr c52
  clear c52
  replace H := Option.bind_eq_some_iff.mp H
  obtain ⟨t118, A530, H⟩ := H
  replace H : (cabinetryref03_fits.j0 k t118) = some r := H
  have A53 := Z0 A530
  clear A530
  have H' := Z0 H
  clear H
  have hnb54 := NB113_112.out
  have hnc54 := NB112_113.out
  obtain ⟨hcz55_0, hcz55_1, hcz55_2⟩ := bc3 BK113.out
  obtain ⟨hfz55_0, hfz55_1, hfz55_2⟩ := bf3 BK113.out
  obtain ⟨hcz56_0, hcz56_1, hcz56_2, hcz56_3⟩ := bc4 BK112.out
  obtain ⟨hfz56_0, hfz56_1, hfz56_2, hfz56_3⟩ := bf4 BK112.out
  go_wp2_with (first | (go_at_call 103; (with_reducible refine (cabinetryref01_Bare.calls k a2_2 t117 _ A51.out).mono ?_); rintro e w' ⟨rfl, ⟨nd, rfl⟩⟩; (try first | exact ⟨rfl, _, World.drewN_drewN _ _ _⟩ | exact ⟨rfl, _, Eq.trans (World.drewN_drewN _ _ _) (congrArg (World.drewN _) (Nat.add_assoc _ _ _))⟩)) | (go_at_call 104; (with_reducible refine (cabinetryref03_written.calls k a2_2 a1 t118 _ A53.out).mono ?_); rintro e w' ⟨rfl, ⟨nd, rfl⟩⟩; (try first | exact ⟨rfl, _, World.drewN_drewN _ _ _⟩ | exact ⟨rfl, _, Eq.trans (World.drewN_drewN _ _ _) (congrArg (World.drewN _) (Nat.add_assoc _ _ _))⟩)))
  repeat (go_quiet (first | (go_at_call 103; (with_reducible refine (cabinetryref01_Bare.calls k a2_2 t117 _ A51.out).mono ?_); rintro e w' ⟨rfl, ⟨nd, rfl⟩⟩; (try first | exact ⟨rfl, _, World.drewN_drewN _ _ _⟩ | exact ⟨rfl, _, Eq.trans (World.drewN_drewN _ _ _) (congrArg (World.drewN _) (Nat.add_assoc _ _ _))⟩)) | (go_at_call 104; (with_reducible refine (cabinetryref03_written.calls k a2_2 a1 t118 _ A53.out).mono ?_); rintro e w' ⟨rfl, ⟨nd, rfl⟩⟩; (try first | exact ⟨rfl, _, World.drewN_drewN _ _ _⟩ | exact ⟨rfl, _, Eq.trans (World.drewN_drewN _ _ _) (congrArg (World.drewN _) (Nat.add_assoc _ _ _))⟩))); try go_wp2_with (first | (go_at_call 103; (with_reducible refine (cabinetryref01_Bare.calls k a2_2 t117 _ A51.out).mono ?_); rintro e w' ⟨rfl, ⟨nd, rfl⟩⟩; (try first | exact ⟨rfl, _, World.drewN_drewN _ _ _⟩ | exact ⟨rfl, _, Eq.trans (World.drewN_drewN _ _ _) (congrArg (World.drewN _) (Nat.add_assoc _ _ _))⟩)) | (go_at_call 104; (with_reducible refine (cabinetryref03_written.calls k a2_2 a1 t118 _ A53.out).mono ?_); rintro e w' ⟨rfl, ⟨nd, rfl⟩⟩; (try first | exact ⟨rfl, _, World.drewN_drewN _ _ _⟩ | exact ⟨rfl, _, Eq.trans (World.drewN_drewN _ _ _) (congrArg (World.drewN _) (Nat.add_assoc _ _ _))⟩))))
  go_meet
  case rel => exact ⟨_, (t118), V2, H', ⟨by first | omega | exact Nat.le_refl _⟩, ⟨bk⟩, ⟨bk⟩, ⟨V0⟩⟩
 case rest =>
  clear HC42
  obtain ⟨kq, x6_41, rfl, HA, HJ41, BK112, BK113, HB⟩ := hcut
  cases kq with
  | zero => exact absurd HA.out (by simp [cabinetryref03_fits.j0])
  | succ kj41 =>
   have H := HA.out
   clear HA
   simp only [cabinetryref03_fits.j0] at H
   obtain rfl := Option.some.inj H
   go_wp2
   repeat (go_quiet (fail); try go_wp2)
   go_ret
   exact ⟨rfl, V0⟩
def cabinetryref01_Text.f (a0 : ByteArray) : Option (Int × Int × ByteArray) := some (4, 0, a0)
theorem cabinetryref01_Text.calls (a0 : ByteArray) (r1 : Int) (r2 : Int) (r3 : ByteArray) (w : World) (h : cabinetryref01_Text.f a0 = some (r1, r2, r3)) :
  Calls Tryz.prog 46 #[.string a0] w fun e w' => e = .returned (.agg #[.int .i64 r1, .int .i64 r2, .string r3]) ∧ Below w.heap.size w w' := by
 have hu25 := Tryz.underlying25
 have HB := Z0 (Below.refl w.heap.size w)
 unfold cabinetryref01_Text.f at h
 have H := h
 clear h
 simp only [Option.some.injEq, Prod.mk.injEq] at H
 obtain ⟨rfl, rfl, rfl⟩ := H
 go_enter Tryz.func46, Tryz.ntmps46
 go_wp2_with (first | ((with_reducible refine Z9 (N := 2) rfl ?_); refine box_event ?hg (N := 2) ?hd (cs := #[.int .i64 0, .int .i64 0, .string (⟨#[]⟩ : ByteArray)]) (t := 25) ?hr ?_; (case hd => rfl); (case hg => rfl); (case hr => first | (go_simp; done) | (go_simp; rfl)); intro gb107 hg w2 hbox hb; have n0_ := Z0 (Z1 V0 hb); have n1_ := Z0 hbox; have n2_ := Z0 ((by rw [hg]; exact (below_size V0) : w.heap.size ≤ gb107)); have n3_ := Z0 ((by rw [hg]; exact (below_size V0) : w.heap.size ≤ gb107)); clear HB; have HB := n0_; have BK107 := n1_; have GW107 := n2_; have GE107 := n3_; clear n0_ n1_ n2_ n3_; clear hb hbox hg; have hcz3_0 : w2.cell? ⟨gb107, 0, none⟩ = some (.int .i64 0) := (Z4 BK107.out 0).trans rfl; have hcz3_1 : w2.cell? ⟨gb107, 1, none⟩ = some (.int .i64 0) := (Z4 BK107.out 1).trans rfl; have hcz3_2 : w2.cell? ⟨gb107, 2, none⟩ = some (.string (⟨#[]⟩ : ByteArray)) := (Z4 BK107.out 2).trans rfl; have hfz3_0 := Z8 BK107.out 0; have hfz3_1 := Z8 BK107.out 1; have hfz3_2 := Z8 BK107.out 2))
 refine bodyPost_ret (results_cell_row rfl _ _ gb107 25 #[.int .i64 4, .int .i64 0, .string a0] (0, 0) _ rfl (by (with_reducible repeat (first | refine Y6 ?_ _ | refine Y5 ?_ | refine Y7 ?_ _)); refine blk_put (cs := #[.int .i64 4, .int .i64 0, .string (⟨#[]⟩ : ByteArray)]) ?_ 2 _ rfl; (with_reducible repeat (first | refine Y6 ?_ _ | refine Y5 ?_ | refine Y7 ?_ _)); refine blk_put (cs := #[.int .i64 4, .int .i64 0, .string (⟨#[]⟩ : ByteArray)]) ?_ 1 _ rfl; (with_reducible repeat (first | refine Y6 ?_ _ | refine Y5 ?_ | refine Y7 ?_ _)); refine blk_put (cs := #[.int .i64 0, .int .i64 0, .string (⟨#[]⟩ : ByteArray)]) ?_ 0 _ rfl; (with_reducible repeat (first | refine Y6 ?_ _ | refine Y5 ?_ | refine Y7 ?_ _)); exact BK107.out) Tryz.underlying25 rfl (by kernel_rfl)) rfl ?_
 exact ⟨by first | rfl | (simp [errW_none, errW_some] <;> rfl) | (simp [*, errW_none, errW_some] <;> rfl), V0⟩
end
end Go.Proofs.YtldpdidlfbphcaaGreatDoor.P
end
