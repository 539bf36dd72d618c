import PyProof.Rows.All
import Wide.All
import OpenK.AllK
import Wide.FinOn
import HandS.ForMost
import HandS.Codes
import HandS.Evl
import HandS.IsInst
import HandS.RevRange
import HandS.Rev
import HandS.Conv
import HandS.Flow
import PySem.Challenge.RW_numberpile_k05_rows
set_option Elab.async false
set_option linter.all false
set_option maxRecDepth 100000
set_option maxHeartbeats 4000000
set_option Elab.async false
set_option maxRecDepth 100000
set_option maxHeartbeats 4000000
namespace Np
/-! ### counts -/
/-- counts as the document tells them -/
structure Good (ns : List Int) : Prop where
  pos : 0 < ns.length
  len : ns.length ≤ 100
  nn : ∀ c ∈ ns, 0 ≤ c
  le : ∀ c ∈ ns, c ≤ 999
  sum : 0 < ns.sum
theorem sum_nn : ∀ {ns : List Int}, (∀ c ∈ ns, 0 ≤ c) → 0 ≤ ns.sum
  | [], _ => by simp
  | c :: r, h => by
    have h1 := h c (List.mem_cons_self ..)
    have h2 := sum_nn (ns := r) fun d hd => h d (List.mem_cons_of_mem _ hd)
    rw [List.sum_cons]
    omega
theorem sum_le : ∀ {ns : List Int}, (∀ c ∈ ns, c ≤ 999) → ns.sum ≤ 999 * ns.length
  | [], _ => by simp
  | c :: r, h => by
    have h1 := h c (List.mem_cons_self ..)
    have h2 := sum_le (ns := r) fun d hd => h d (List.mem_cons_of_mem _ hd)
    rw [List.sum_cons, List.length_cons]
    omega
theorem Good.sumle {ns : List Int} (g : Good ns) : ns.sum ≤ 99900 := by
  have h1 := sum_le g.le
  have h2 := g.len
  omega
theorem take_nn {ns : List Int} (h : ∀ c ∈ ns, 0 ≤ c) (k : Nat) : ∀ c ∈ ns.take k, 0 ≤ c := fun c hc => h c (List.mem_of_mem_take hc)
theorem first_le {ns : List Int} (h : ∀ c ∈ ns, 0 ≤ c) (k : Nat) : (ns.take k).sum ≤ ns.sum := by
  have e : (ns.take k).sum + (ns.drop k).sum = ns.sum := by rw [← List.sum_append, List.take_append_drop]
  have h2 : 0 ≤ (ns.drop k).sum := sum_nn fun c hc => h c (List.mem_of_mem_drop hc)
  omega
theorem sum_mono {ns : List Int} (h : ∀ c ∈ ns, 0 ≤ c) {i j : Nat} (hij : i ≤ j) : (ns.take i).sum ≤ (ns.take j).sum := by
  have e : ns.take i = (ns.take j).take i := by rw [List.take_take, Nat.min_eq_left hij]
  rw [e]
  exact first_le (take_nn h j) i
/-- the sign of a slot -/
def holder : List Int → Int → Nat
  | [], _ => 0
  | c :: r, s => if c ≤ s then holder r (s - c) + 1 else 0
theorem holder_spec : ∀ {ns : List Int} {s : Int}, 0 ≤ s → s < ns.sum →
    holder ns s < ns.length ∧ (ns.take (holder ns s)).sum ≤ s ∧ ∃ c, ns[holder ns s]? = some c ∧ s < (ns.take (holder ns s)).sum + c
  | [], s, h0, h1 => by simp at h1; omega
  | c :: r, s, h0, h1 => by
    unfold holder
    by_cases h : c ≤ s
    · rw [if_pos h]
      rw [List.sum_cons] at h1
      obtain ⟨a, b, d, e, f⟩ := holder_spec (ns := r) (s := s - c) (by omega) (by omega)
      refine ⟨by rw [List.length_cons]; omega, ?_, d, ?_, ?_⟩
      · rw [List.take_succ_cons, List.sum_cons]; omega
      · simpa using e
      · rw [List.take_succ_cons, List.sum_cons]; omega
    · rw [if_neg h]
      refine ⟨by rw [List.length_cons]; omega, ?_, c, by simp, ?_⟩
      · simpa using h0
      · simp; omega
/-- one step of the search -/
theorem holder_step {ns : List Int} {j : Nat} {c s : Int} (e : ns[j]? = some c) : holder (ns.drop j) s = if c ≤ s then holder (ns.drop (j + 1)) (s - c) + 1 else 0 := by
  obtain ⟨h, e⟩ := List.getElem?_eq_some_iff.mp e
  rw [List.drop_eq_getElem_cons h, e]
  rfl
theorem sum_drop {ns : List Int} {j : Nat} {c : Int} (e : ns[j]? = some c) : (ns.drop j).sum = c + (ns.drop (j + 1)).sum := by
  obtain ⟨h, e⟩ := List.getElem?_eq_some_iff.mp e
  rw [List.drop_eq_getElem_cons h, e, List.sum_cons]
theorem sum_take1 {ns : List Int} {j : Nat} {c : Int} (e : ns[j]? = some c) : (ns.take (j + 1)).sum = (ns.take j).sum + c := by
  obtain ⟨h, e⟩ := List.getElem?_eq_some_iff.mp e
  rw [List.take_succ_eq_append_getElem h, e, List.sum_append]
  simp
/-! ### the laws' draws -/
def draw (cell k bound : Int) : Int := ((cell % 1000003 * 48271 + k * 69621 + 11) % 2147483647) * ((cell % 7919 + 1) * (k * k + 31 * k + 7) % 65537 + 1) / 4099 % bound
theorem draw_nn {cell k bound : Int} (h : 0 < bound) : 0 ≤ draw cell k bound := Int.emod_nonneg _ (by omega)
theorem draw_lt {cell k bound : Int} (h : 0 < bound) : draw cell k bound < bound := Int.emod_lt_of_pos _ h
def topOf (cell : Int) : Int := if cell % 4 = 0 then 2 else if cell % 4 = 1 then 10 else if cell % 4 = 2 then 1000 else 4
theorem topOf_pos (cell : Int) : 2 ≤ topOf cell ∧ topOf cell ≤ 1000 := by unfold topOf; repeat' split <;> omega
def counts0 (cell many : Int) : List Int := (List.range many.toNat).map fun (k : Nat) => draw (cell / 4) (k : Int) (topOf cell)
def lawCounts (cell many : Int) : List Int := if (counts0 cell many).sum = 0 then (counts0 cell many).set (cell / 4 % many).toNat 1 else counts0 cell many
theorem sum_zero : ∀ {ns : List Int}, (∀ c ∈ ns, 0 ≤ c) → ns.sum = 0 → ∀ c ∈ ns, c = 0
  | [], _, _, c, hc => by cases hc
  | d :: r, h, e, c, hc => by
    have h1 := h d (List.mem_cons_self ..)
    have h2 := sum_nn (ns := r) fun x hx => h x (List.mem_cons_of_mem _ hx)
    rw [List.sum_cons] at e
    rcases List.mem_cons.mp hc with rfl | hc
    · omega
    · exact sum_zero (fun x hx => h x (List.mem_cons_of_mem _ hx)) (by omega) c hc
theorem mem_le_sum : ∀ {ns : List Int} {c : Int}, (∀ c ∈ ns, 0 ≤ c) → c ∈ ns → c ≤ ns.sum
  | d :: r, c, h, hc => by
    have h1 := h d (List.mem_cons_self ..)
    have h2 := sum_nn (ns := r) fun x hx => h x (List.mem_cons_of_mem _ hx)
    rw [List.sum_cons]
    rcases List.mem_cons.mp hc with rfl | hc
    · omega
    · have := mem_le_sum (fun x hx => h x (List.mem_cons_of_mem _ hx)) hc
      omega
theorem counts0_len (cell many : Int) : (counts0 cell many).length = many.toNat := by simp [counts0]
theorem lawCounts_len (cell many : Int) : (lawCounts cell many).length = many.toNat := by
  unfold lawCounts
  split
  · rw [List.length_set, counts0_len]
  · exact counts0_len ..
theorem counts0_in {cell many c : Int} (h : c ∈ counts0 cell many) : 0 ≤ c ∧ c ≤ 999 := by
  obtain ⟨k, _, rfl⟩ := List.mem_map.mp h
  have h1 := topOf_pos cell
  have h2 := draw_nn (cell := cell / 4) (k := k) (bound := topOf cell) (by omega)
  have h3 := draw_lt (cell := cell / 4) (k := k) (bound := topOf cell) (by omega)
  omega
theorem good_counts {cell many : Int} (h1 : 1 ≤ many) (h2 : many ≤ 100) : Good (lawCounts cell many) := by
  have hl := lawCounts_len cell many
  have hin : ∀ c ∈ lawCounts cell many, 0 ≤ c ∧ c ≤ 999 := fun c hc => by
    unfold lawCounts at hc
    split at hc
    · rcases List.mem_or_eq_of_mem_set hc with hc | rfl
      · exact counts0_in hc
      · omega
    · exact counts0_in hc
  refine ⟨by omega, by omega, fun c hc => (hin c hc).1, fun c hc => (hin c hc).2, ?_⟩
  have nn := sum_nn fun c hc => (hin c hc).1
  by_cases e : (counts0 cell many).sum = 0
  · have e2 : lawCounts cell many = (counts0 cell many).set (cell / 4 % many).toNat 1 := if_pos e
    have hk : (cell / 4 % many).toNat < (counts0 cell many).length := by
      rw [counts0_len]
      have := Int.emod_nonneg (cell / 4) (show many ≠ 0 by omega)
      have := Int.emod_lt_of_pos (cell / 4) (show 0 < many by omega)
      omega
    have hm : (1 : Int) ∈ lawCounts cell many := by rw [e2]; exact List.mem_set hk 1
    have := mem_le_sum (fun c hc => (hin c hc).1) hm
    omega
  · have e2 : lawCounts cell many = counts0 cell many := if_neg e
    rw [e2] at nn ⊢
    omega
/-! ### a sign laid, a sign taken -/
def cnt (ns : List Int) (s : Int) : Int := ns.getD s.toNat 0
def first (ns : List Int) (s : Int) : Int := (ns.take s.toNat).sum
def put (p : Int) (ns : List Int) (s : Int) : Int := p / cnt ns s * ns.sum + first ns s + p % cnt ns s
def offS (p : Int) (ns : List Int) : Int := (holder ns (p % ns.sum) : Nat)
def offP (p : Int) (ns : List Int) : Int := p / ns.sum * cnt ns (offS p ns) + p % ns.sum - first ns (offS p ns)
/-- a sign that can be laid -/
structure Sign (ns : List Int) (s : Int) : Prop where
  nn : 0 ≤ s
  lt : s < ns.length
  cp : 0 < cnt ns s
theorem cnt_at {ns : List Int} {s : Int} (h : 0 ≤ s) (h2 : s < ns.length) : ns[s.toNat]? = some (cnt ns s) := by
  have hl : s.toNat < ns.length := by omega
  unfold cnt
  rw [List.getD_eq_getElem?_getD, List.getElem?_eq_getElem hl]
  rfl
theorem cnt_mem {ns : List Int} {s : Int} (h : 0 ≤ s) (h2 : s < ns.length) : cnt ns s ∈ ns := List.mem_of_getElem? (cnt_at h h2)
theorem cnt_le {ns : List Int} {s : Int} (g : Good ns) (h : 0 ≤ s) (h2 : s < ns.length) : 0 ≤ cnt ns s ∧ cnt ns s ≤ 999 := ⟨g.nn _ (cnt_mem h h2), g.le _ (cnt_mem h h2)⟩
theorem first_nn {ns : List Int} (g : Good ns) (s : Int) : 0 ≤ first ns s := sum_nn (take_nn g.nn _)
theorem first_top {ns : List Int} {s : Int} (g : Good ns) (h : 0 ≤ s) (h2 : s < ns.length) : first ns s + cnt ns s ≤ ns.sum := by
  have e := sum_take1 (cnt_at h h2)
  have := first_le g.nn (s.toNat + 1)
  unfold first
  omega
/-- a slot in a sign's stretch is that sign's -/
theorem holder_is : ∀ {ns : List Int} {k : Nat} {c s : Int}, (∀ x ∈ ns, 0 ≤ x) → ns[k]? = some c → (ns.take k).sum ≤ s → s < (ns.take k).sum + c → holder ns s = k
  | [], k, c, s, _, h, _, _ => by simp at h
  | d :: r, 0, c, s, _, h, h1, h2 => by
    simp at h
    subst h
    unfold holder
    simp at h1 h2
    rw [if_neg (by omega)]
  | d :: r, k + 1, c, s, nn, h, h1, h2 => by
    rw [List.take_succ_cons, List.sum_cons] at h1 h2
    have hd := nn d (List.mem_cons_self ..)
    have ht := sum_nn (take_nn (fun x hx => nn x (List.mem_cons_of_mem _ hx)) k)
    have ih := holder_is (ns := r) (k := k) (c := c) (s := s - d) (fun x hx => nn x (List.mem_cons_of_mem _ hx)) (by simpa using h) (by omega) (by omega)
    unfold holder
    rw [if_pos (by omega), ih]
theorem off_sign {ns : List Int} (g : Good ns) (p : Int) : Sign ns (offS p ns) ∧ first ns (offS p ns) ≤ p % ns.sum ∧ p % ns.sum < first ns (offS p ns) + cnt ns (offS p ns) := by
  have gs := g.sum
  have h0 := Int.emod_nonneg p (show ns.sum ≠ 0 by omega)
  have h1 := Int.emod_lt_of_pos p gs
  obtain ⟨a, b, c, d, e⟩ := holder_spec h0 h1
  have ec : cnt ns (offS p ns) = c := by
    unfold cnt offS
    rw [Int.toNat_natCast, List.getD_eq_getElem?_getD, d]
    rfl
  have ef : first ns (offS p ns) = (ns.take (holder ns (p % ns.sum))).sum := by
    unfold first offS
    rw [Int.toNat_natCast]
  refine ⟨⟨by unfold offS; omega, by unfold offS; omega, by omega⟩, by omega, by omega⟩
theorem put_nn {ns : List Int} {p s : Int} (g : Good ns) (h : 0 ≤ p) (x : Sign ns s) : 0 ≤ put p ns s := by
  have h1 : 0 ≤ p / cnt ns s := Int.ediv_nonneg h (by have := x.cp; omega)
  have h2 : 0 ≤ p % cnt ns s := Int.emod_nonneg p (by have := x.cp; omega)
  have h3 : 0 ≤ p / cnt ns s * ns.sum := Int.mul_nonneg h1 (by have := g.sum; omega)
  have h4 := first_nn g s
  unfold put
  omega
theorem offP_nn {ns : List Int} {p : Int} (g : Good ns) (h : 0 ≤ p) : 0 ≤ offP p ns := by
  obtain ⟨x, h1, h2⟩ := off_sign g p
  have h3 : 0 ≤ p / ns.sum := Int.ediv_nonneg h (by have := g.sum; omega)
  have h4 : 0 ≤ p / ns.sum * cnt ns (offS p ns) := Int.mul_nonneg h3 (by have := x.cp; omega)
  unfold offP
  omega
theorem div_rest {q b r : Int} (h0 : 0 ≤ r) (h1 : r < b) : (q * b + r) / b = q ∧ (q * b + r) % b = r := by
  have hb : b ≠ 0 := by omega
  constructor
  · rw [Int.add_comm, Int.add_mul_ediv_right _ _ hb, Int.ediv_eq_zero_of_lt h0 h1, Int.zero_add]
  · rw [Int.add_comm, Int.add_mul_emod_self_right, Int.emod_eq_of_lt h0 h1]
theorem div_back (p b : Int) : p / b * b + p % b = p := by
  have := Int.mul_ediv_add_emod p b
  rw [Int.mul_comm] at this
  exact this
theorem off_put {ns : List Int} {p s : Int} (g : Good ns) (x : Sign ns s) : offS (put p ns s) ns = s ∧ offP (put p ns s) ns = p := by
  have h1 : 0 ≤ p % cnt ns s := Int.emod_nonneg p (by have := x.cp; omega)
  have h2 : p % cnt ns s < cnt ns s := Int.emod_lt_of_pos p x.cp
  have h3 := first_nn g s
  have h4 := first_top g x.nn x.lt
  obtain ⟨e1, e2⟩ := div_rest (q := p / cnt ns s) (b := ns.sum) (r := first ns s + p % cnt ns s) (by omega) (by omega)
  have e0 : put p ns s = p / cnt ns s * ns.sum + (first ns s + p % cnt ns s) := by unfold put; omega
  rw [← e0] at e1 e2
  have e3 : offS (put p ns s) ns = s := by
    have := holder_is (ns := ns) (k := s.toNat) (c := cnt ns s) (s := first ns s + p % cnt ns s) g.nn (cnt_at x.nn x.lt) (by unfold first; unfold first at *; omega) (by unfold first; unfold first at *; omega)
    unfold offS
    rw [e2, this]
    have := x.nn
    omega
  refine ⟨e3, ?_⟩
  unfold offP
  rw [e3, e1, e2]
  have := div_back p (cnt ns s)
  omega
theorem put_off {ns : List Int} (g : Good ns) (p : Int) : put (offP p ns) ns (offS p ns) = p := by
  obtain ⟨x, h1, h2⟩ := off_sign g p
  have e0 : offP p ns = p / ns.sum * cnt ns (offS p ns) + (p % ns.sum - first ns (offS p ns)) := by unfold offP; omega
  obtain ⟨e1, e2⟩ := div_rest (q := p / ns.sum) (b := cnt ns (offS p ns)) (r := p % ns.sum - first ns (offS p ns)) (by omega) (by omega)
  rw [← e0] at e1 e2
  unfold put
  rw [e1, e2]
  have := div_back p ns.sum
  omega
theorem put_level {ns : List Int} {s : Int} (g : Good ns) (x : Sign ns s) (p : Int) : ns.sum * (p / cnt ns s) ≤ put p ns s ∧ put p ns s < ns.sum * (p / cnt ns s + 1) := by
  have h1 : 0 ≤ p % cnt ns s := Int.emod_nonneg p (by have := x.cp; omega)
  have h2 : p % cnt ns s < cnt ns s := Int.emod_lt_of_pos p x.cp
  have h3 := first_nn g s
  have h4 := first_top g x.nn x.lt
  rw [Int.mul_add, Int.mul_one, Int.mul_comm ns.sum]
  unfold put
  omega
/-! ### the signs that are held -/
def held (ns : List Int) : List Int := ((List.range ns.length).filter fun i => decide (0 < ns.getD i 0)).map fun (i : Nat) => (i : Int)
theorem mem_held {ns : List Int} {s : Int} : s ∈ held ns ↔ Sign ns s := by
  constructor
  · intro h
    obtain ⟨i, hi, rfl⟩ := List.mem_map.mp h
    obtain ⟨h1, h2⟩ := List.mem_filter.mp hi
    have h1 := List.mem_range.mp h1
    have h2 := of_decide_eq_true h2
    exact ⟨by omega, by omega, by unfold cnt; rw [Int.toNat_natCast]; exact h2⟩
  · intro x
    have h1 := x.nn
    have h2 := x.lt
    refine List.mem_map.mpr ⟨s.toNat, List.mem_filter.mpr ⟨List.mem_range.mpr (by omega), decide_eq_true x.cp⟩, by omega⟩
theorem held_pos {ns : List Int} (g : Good ns) : 0 < (held ns).length := by
  have h := mem_held.mpr (off_sign g 0).1
  exact List.length_pos_of_mem h
theorem held_len (ns : List Int) : (held ns).length ≤ ns.length := by
  unfold held
  rw [List.length_map]
  have := List.length_filter_le (fun i => decide (0 < ns.getD i 0)) (List.range ns.length)
  rw [List.length_range] at this
  exact this
theorem at_mem {ns : List Int} {i : Nat} (h : i < ns.length) : ns.getD i 0 ∈ ns := by
  rw [List.getD_eq_getElem?_getD, List.getElem?_eq_getElem h]
  exact List.getElem_mem h
theorem held_at {ns : List Int} (g : Good ns) (c : Int) : Sign ns ((held ns).getD (c % ((held ns).length : Int)).toNat 0) := by
  have hp := held_pos g
  have h0 := Int.emod_nonneg c (show ((held ns).length : Int) ≠ 0 by omega)
  have h1 := Int.emod_lt_of_pos c (show 0 < ((held ns).length : Int) by omega)
  exact mem_held.mp (at_mem (by omega))
def lawPile (c : Int) : Int := if c % 4 = 1 then c / 4 % 30 else c / 4 % 10 ^ 60
theorem lawPile_nn (c : Int) : 0 ≤ lawPile c := by
  unfold lawPile
  split
  · exact Int.emod_nonneg _ (by decide)
  · exact Int.emod_nonneg _ (by decide)
/-! ### rows -/
def layRow (p : Int) (ns row : List Int) : Int := row.foldr (fun s acc => put acc ns s) p
/-- the pile when i signs are off -/
def pileAt (ns : List Int) (p : Int) : Nat → Int
  | 0 => p
  | i + 1 => offP (pileAt ns p i) ns
def takenRow (ns : List Int) (p : Int) (n : Nat) : List Int := (List.range n).map fun i => offS (pileAt ns p i) ns
theorem pileAt_nn {ns : List Int} {p : Int} (g : Good ns) (h : 0 ≤ p) : ∀ i, 0 ≤ pileAt ns p i
  | 0 => h
  | i + 1 => offP_nn g (pileAt_nn g h i)
theorem takenRow_succ (ns : List Int) (p : Int) (n : Nat) : takenRow ns p (n + 1) = takenRow ns p n ++ [offS (pileAt ns p n) ns] := by
  unfold takenRow
  rw [List.range_succ, List.map_append]
  rfl
theorem takenRow_len (ns : List Int) (p : Int) (n : Nat) : (takenRow ns p n).length = n := by simp [takenRow]
theorem takenRow_at {ns : List Int} {p : Int} {n i : Nat} (h : i < n) : (takenRow ns p n)[i]? = some (offS (pileAt ns p i) ns) := by
  unfold takenRow
  rw [List.getElem?_map, List.getElem?_range h]
  rfl
theorem layRow_nn {ns : List Int} {p : Int} (g : Good ns) (h : 0 ≤ p) : ∀ {row : List Int}, (∀ s ∈ row, Sign ns s) → 0 ≤ layRow p ns row
  | [], _ => h
  | s :: r, hr => put_nn g (layRow_nn g h fun x hx => hr x (List.mem_cons_of_mem _ hx)) (hr s (List.mem_cons_self ..))
theorem layRow_drop {p : Int} {ns row : List Int} {i : Nat} {s : Int} (e : row[i]? = some s) : layRow p ns (row.drop i) = put (layRow p ns (row.drop (i + 1))) ns s := by
  obtain ⟨h, e⟩ := List.getElem?_eq_some_iff.mp e
  rw [List.drop_eq_getElem_cons h, e]
  rfl
theorem pile_lay {ns : List Int} {p : Int} {row : List Int} (g : Good ns) (hr : ∀ s ∈ row, Sign ns s) : ∀ i, i ≤ row.length → pileAt ns (layRow p ns row) i = layRow p ns (row.drop i)
  | 0, _ => by rw [List.drop_zero]; rfl
  | i + 1, h => by
    have hi : row[i]? = some row[i] := List.getElem?_eq_getElem (by omega)
    show offP (pileAt ns (layRow p ns row) i) ns = _
    rw [pile_lay g hr i (by omega), layRow_drop hi]
    exact (off_put g (hr _ (List.getElem_mem _))).2
theorem row_back {ns : List Int} {p : Int} {row : List Int} (g : Good ns) (hr : ∀ s ∈ row, Sign ns s) : takenRow ns (layRow p ns row) row.length = row ∧ pileAt ns (layRow p ns row) row.length = p := by
  constructor
  · refine List.ext_getElem? fun i => ?_
    by_cases h : i < row.length
    · rw [takenRow_at h, pile_lay g hr i (by omega), layRow_drop (List.getElem?_eq_getElem h), List.getElem?_eq_getElem h]
      exact congrArg some (off_put g (hr _ (List.getElem_mem _))).1
    · rw [List.getElem?_eq_none (by rw [takenRow_len]; omega), List.getElem?_eq_none (by omega)]
  · rw [pile_lay g hr _ (Nat.le_refl _), List.drop_length]
    rfl
theorem lay_append (p : Int) (ns r u : List Int) : layRow p ns (r ++ u) = layRow (layRow p ns u) ns r := by
  unfold layRow
  rw [List.foldr_append]
theorem lay_back {ns : List Int} (g : Good ns) (p : Int) : ∀ n, layRow (pileAt ns p n) ns (takenRow ns p n) = p
  | 0 => rfl
  | n + 1 => by
    rw [takenRow_succ, lay_append]
    show layRow (put (offP (pileAt ns p n) ns) ns (offS (pileAt ns p n) ns)) ns (takenRow ns p n) = p
    rw [put_off g]
    exact lay_back g p n
theorem taken_sign {ns : List Int} (g : Good ns) (p : Int) (n : Nat) : ∀ s ∈ takenRow ns p n, Sign ns s := fun s h => by
  obtain ⟨i, _, rfl⟩ := List.mem_map.mp h
  exact (off_sign g _).1
/-! ### signs with hidden ones -/
structure Full (ns : List Int) : Prop where
  good : Good ns
  lo : ∀ c ∈ ns, 1 ≤ c
theorem Full.sign {ns : List Int} (f : Full ns) {s : Int} (h0 : 0 ≤ s) (h1 : s < ns.length) : Sign ns s := ⟨h0, h1, by have := f.lo _ (cnt_mem (ns := ns) h0 h1); omega⟩
def lawFull (cell many top : Int) : List Int := (List.range many.toNat).map fun (k : Nat) => 1 + draw cell (k : Int) top
theorem lawFull_len (cell many top : Int) : (lawFull cell many top).length = many.toNat := by simp [lawFull]
theorem full_law (cell : Int) {many top : Int} (h1 : 1 ≤ many) (h2 : many ≤ 100) (h3 : 1 ≤ top) (h4 : top ≤ 999) : Full (lawFull cell many top) := by
  have hm : ∀ c ∈ lawFull cell many top, 1 ≤ c ∧ c ≤ 999 := fun c hc => by
    obtain ⟨k, _, rfl⟩ := List.mem_map.mp hc
    have d0 := draw_nn (cell := cell) (k := k) (bound := top) (by omega)
    have d1 := draw_lt (cell := cell) (k := k) (bound := top) (by omega)
    omega
  have hl := lawFull_len cell many top
  have nn : ∀ c ∈ lawFull cell many top, 0 ≤ c := fun c hc => by have := (hm c hc).1; omega
  have hp : 0 < (lawFull cell many top).length := by omega
  refine ⟨⟨by omega, by omega, nn, fun c hc => (hm c hc).2, ?_⟩, fun c hc => (hm c hc).1⟩
  have h0 := List.getElem_mem (l := lawFull cell many top) (n := 0) hp
  have := mem_le_sum nn h0
  have := (hm _ h0).1
  omega
structure Tabs (prior : List Int) (given back : List (List Int)) : Prop where
  p : Full prior
  gl : given.length = prior.length
  g : ∀ t ∈ given, Full t ∧ t.length = back.length
  b : ∀ t ∈ back, Full t ∧ t.length = prior.length
def rowOf (ts : List (List Int)) (s : Int) : List Int := ts.getD s.toNat []
theorem row_at {ts : List (List Int)} {s : Int} (h0 : 0 ≤ s) (h1 : s < ts.length) : ts[s.toNat]? = some (rowOf ts s) := by
  have h : s.toNat < ts.length := by omega
  unfold rowOf
  rw [List.getD_eq_getElem?_getD, List.getElem?_eq_getElem h]
  rfl
def layH (p : Int) (prior : List Int) (given back : List (List Int)) (s : Int) : Int := put (put (offP p (rowOf back s)) (rowOf given (offS p (rowOf back s))) s) prior (offS p (rowOf back s))
def takeS (p : Int) (prior : List Int) (given : List (List Int)) : Int := offS (offP p prior) (rowOf given (offS p prior))
def takeP (p : Int) (prior : List Int) (given back : List (List Int)) : Int := put (offP (offP p prior) (rowOf given (offS p prior))) (rowOf back (takeS p prior given)) (offS p prior)
section
variable {prior : List Int} {given back : List (List Int)}
structure LayF (p : Int) (prior : List Int) (given back : List (List Int)) (s h : Int) : Prop where
  bi : back[s.toNat]? = some (rowOf back s)
  bg : Good (rowOf back s)
  h0 : 0 ≤ h
  bs : Sign (rowOf back s) h
  gi : given[h.toNat]? = some (rowOf given h)
  gg : Good (rowOf given h)
  gs : Sign (rowOf given h) s
  pg : Good prior
  ps : Sign prior h
theorem lay_facts (T : Tabs prior given back) {s h : Int} (s0 : 0 ≤ s) (s1 : s < back.length) (h0 : 0 ≤ h) (h1 : h < prior.length) (p : Int) : LayF p prior given back s h := by
  have bi := row_at s0 s1
  have hb := T.b _ (List.mem_of_getElem? bi)
  have gi := row_at (ts := given) h0 (by rw [T.gl]; exact h1)
  have hg := T.g _ (List.mem_of_getElem? gi)
  exact ⟨bi, hb.1.good, h0, hb.1.sign h0 (by omega), gi, hg.1.good, hg.1.sign s0 (by omega), T.p.good, T.p.sign h0 h1⟩
theorem lay_in (T : Tabs prior given back) {s : Int} (s0 : 0 ≤ s) (s1 : s < back.length) (p : Int) : 0 ≤ offS p (rowOf back s) ∧ offS p (rowOf back s) < prior.length := by
  have hb := T.b _ (List.mem_of_getElem? (row_at s0 s1))
  have x := (off_sign hb.1.good p).1
  have := x.lt
  exact ⟨x.nn, by omega⟩
theorem take_in (T : Tabs prior given back) (p : Int) : 0 ≤ offS p prior ∧ offS p prior < prior.length ∧ 0 ≤ takeS p prior given ∧ takeS p prior given < back.length := by
  have x := (off_sign T.p.good p).1
  have hg := T.g _ (List.mem_of_getElem? (row_at (ts := given) x.nn (by rw [T.gl]; exact x.lt)))
  have y := (off_sign hg.1.good (offP p prior)).1
  have := y.lt
  exact ⟨x.nn, x.lt, y.nn, by unfold takeS; omega⟩
theorem take_lay (T : Tabs prior given back) {s : Int} (s0 : 0 ≤ s) (s1 : s < back.length) (p : Int) : takeS (layH p prior given back s) prior given = s ∧ takeP (layH p prior given back s) prior given back = p := by
  obtain ⟨h0, h1⟩ := lay_in T s0 s1 p
  have f := lay_facts T s0 s1 h0 h1 p
  obtain ⟨a1, a2⟩ := off_put (p := put (offP p (rowOf back s)) (rowOf given (offS p (rowOf back s))) s) f.pg f.ps
  obtain ⟨b1, b2⟩ := off_put (p := offP p (rowOf back s)) f.gg f.gs
  have e1 : takeS (layH p prior given back s) prior given = s := by
    unfold takeS layH
    rw [a1, a2, b1]
  refine ⟨e1, ?_⟩
  unfold takeP
  rw [e1]
  unfold layH
  rw [a1, a2, b2]
  exact put_off f.bg p
theorem lay_take (T : Tabs prior given back) (p : Int) : layH (takeP p prior given back) prior given back (takeS p prior given) = p := by
  obtain ⟨h0, h1, s0, s1⟩ := take_in T p
  have f := lay_facts T s0 s1 h0 h1 p
  obtain ⟨a1, a2⟩ := off_put (p := offP (offP p prior) (rowOf given (offS p prior))) f.bg f.bs
  have e : put (offP (offP p prior) (rowOf given (offS p prior))) (rowOf given (offS p prior)) (takeS p prior given) = offP p prior := put_off f.gg (offP p prior)
  unfold layH takeP
  rw [a1, a2, e]
  exact put_off f.pg p
theorem layH_nn (T : Tabs prior given back) {s p : Int} (s0 : 0 ≤ s) (s1 : s < back.length) (hp : 0 ≤ p) : 0 ≤ layH p prior given back s := by
  obtain ⟨h0, h1⟩ := lay_in T s0 s1 p
  have f := lay_facts T s0 s1 h0 h1 p
  exact put_nn f.pg (put_nn f.gg (offP_nn f.bg hp) f.gs) f.ps
theorem takeP_nn (T : Tabs prior given back) {p : Int} (hp : 0 ≤ p) : 0 ≤ takeP p prior given back := by
  obtain ⟨h0, h1, s0, s1⟩ := take_in T p
  have f := lay_facts T s0 s1 h0 h1 p
  exact put_nn f.bg (offP_nn f.gg (offP_nn f.pg hp)) f.bs
end
end Np

set_option Elab.async false
set_option maxRecDepth 100000
set_option maxHeartbeats 4000000
/-! Steps of a reading, one small theorem a form; and the facts of heaps. -/
namespace Np
open PySem PySem.Spec PyProof.Rows L2
open Evl (Ex)
open C8 (Cal Met Mak pe_c pe_mk pe_mt pe_mt0 pe_gc)

abbrev iL (ns : List Int) : List V := ns.map V.int
/-- what a test's value is handed to -/
def kB (Q : Bool → Hp → Prop) : VK := fun x H => ∃ k, x = .bl k ∧ Q k H
def kI (Q : Option Int → Hp → Prop) : VK := fun x H => ∃ i, x = .int i ∧ Q (some i) H
/-- a new tuple | list -/
def rNewT (xs : List V) (H : Hp) (Q : VK) : Prop := xs.length ≤ sizeLine ∧ ∀ p, H p = none → Q (.ref p) (upd H p (.tup xs))
def rNewL (xs : List V) (H : Hp) (Q : VK) : Prop := xs.length ≤ sizeLine ∧ ∀ p, H p = none → Q (.ref p) (upd H p (.lst xs))
def rLenS (K : PySem.W.Frag) : List V → Hp → VK → Prop := fun xs H Q => ∃ p ys, xs = [.ref p] ∧ (SqL K H p ys ∨ SqT K H p ys) ∧ Q (.int ys.length) H
def rListS (K : PySem.W.Frag) : List V → Hp → VK → Prop := fun xs H Q => ∃ p ys, xs = [.ref p] ∧ (SqL K H p ys ∨ SqT K H p ys) ∧ ∀ l, H l = none → Q (.ref l) (upd H l (.lst ys))
def rDivmod : List V → Hp → VK → Prop := fun xs H Q => ∃ i j, xs = [.int i, .int j] ∧ CDiv i j ∧ ∀ p, H p = none → Q (.ref p) (upd H p (.tup [.int (i / j), .int (i % j)]))
def rNon (neg : Bool) : R2 := fun x y H Q => y = .non ∧ Q (.bl (if neg then !decide (x = .non) else decide (x = .non))) H
section
variable {X : Cx} {K : PySem.W.Frag}
theorem n_len (e : X.K = K) : CallR X (.builtin "len") (rLenS K) := by subst e; exact call_len_seq
theorem n_list (e : X.K = K) : CallR X (.type "list") (rListS K) := by subst e; exact call_list_of
theorem n_divmod : CallR X (.builtin "divmod") rDivmod := call_divmod
theorem n_isN : OpR X (compareOp .Is) (rNon false) := op_isN
theorem n_notN : OpR X (compareOp .IsNot) (rNon true) := op_notN
theorem n_sum (e : X.K = K) (hc : X.calm = true) : CallR X (.builtin "sum") (rSum K) := by subst e; exact cr_sum hc
theorem n_min (e : X.K = K) (hc : X.calm = true) : CallR X (.builtin "min") (rMin K) := by subst e; exact cr_min hc
theorem n_max (e : X.K = K) (hc : X.calm = true) : CallR X (.builtin "max") (rMax K) := by subst e; exact cr_max hc
theorem n_ixL (e : X.K = K) : IxR X (rIxL K) := by subst e; exact ix_list
theorem n_ixT (e : X.K = K) : IxR X (rIxT K) := by subst e; exact ix_tup
theorem n_slL (e : X.K = K) : SlR X (rSlL K) := by subst e; exact sl_list
theorem n_slT (e : X.K = K) : SlR X (rSlT K) := by subst e; exact sl_tup
theorem n_in (e : X.K = K) : OpR X (compareOp .In) (rIn K false) := by subst e; exact op_in_seq
theorem n_notIn (e : X.K = K) : OpR X (compareOp .NotIn) (rIn K true) := by subst e; exact op_notIn_seq
theorem n_eqD (e : X.K = K) (hu : X.A.units + 64 < cLine) : OpR X (compareOp .Eq) (rEqD K) := by subst e; exact op_eqD hu
theorem n_neD (e : X.K = K) (hu : X.A.units + 64 < cLine) : OpR X (compareOp .NotEq) (rNeD K) := by subst e; exact op_neD hu
theorem n_isi (e : X.K = K) : CallR X (.builtin "isinstance") (rIsi K) := by subst e; exact call_isi
theorem n_pi {tg l : Expr} {tl : TE} (e : X.K = K) (hl : PE X l tl) : PI X tg l (iList K tl) := by subst e; exact pi_list hl
theorem n_pirev {tg e : Expr} {ta : TA} {p pos : Pos} (ek : X.K = K) (hg : Gl X "reversed") (hm : X.mg "reversed" = none) (ha : PA X [e] ta) (hs : starEach [e] X.env = [(false, eval e X.env)] := by rfl) : PI X tg (.Call (.Name "reversed" p) [e] [] pos) (iRev K ta) := by subst ek; exact pi_reversed hg hm ha hs
theorem n_fld {e : Expr} {ta : TE} {f : Str} {pos : Pos} (ek : X.K = K) (he : PE X e ta) (hb : attributeBase e f X.env (eval e X.env) = eval e X.env) : PE X (.Attribute e f pos) (tFld K ta f) := by subst ek; exact pe_fld he hb
theorem n_setF {o value : Expr} {ta tv : TE} {f : Str} {pos pos' : Pos} (ek : X.K = K) (ha : PE X o ta) (hv : PE X value tv) (hs : swapsWith value (some (.Attribute o f pos')) pos.line X.env = pure false) : PS X (.Assign [.Attribute o f pos'] value pos) (sFld K ta tv f) := by subst ek; exact ps_fld ha hv hs
end
section
variable {K : PySem.W.Frag} {σ : L2.St} {H H' : Hp} {D : Ends} {Q : VK} {QB : Bool → Hp → Prop} {ta tb te tc : TE} {t u c : TT} {tl tr : TA} {r r' : R2} {x y v : V} {s1 s2 : TS} {i j : Int} {a p : Addr} {xs ys : List V} {ns : List Int}
/-! ### expressions -/
theorem w_var {k : Nat} (h : σ[k]? = some (some v)) (q : Q v H) : tVar k σ H Q := ⟨v, h, q⟩
theorem w_c (q : Q v H) : tC v σ H Q := q
theorem w_op (q : ta σ H fun x H1 => tb σ H1 fun y H2 => r x y H2 Q) : tOp r ta tb σ H Q := q
theorem w_un {r : V → Hp → VK → Prop} (q : ta σ H fun x H1 => r x H1 Q) : tUn r ta σ H Q := q
theorem w_I0 {g : Int → Int → V} (q : Q (g i j) H) : rI0 g (.int i) (.int j) H Q := ⟨i, j, rfl, rfl, q⟩
theorem w_I {C : Int → Int → Prop} {g : Int → Int → V} (h : C i j) (q : Q (g i j) H) : rI C g (.int i) (.int j) H Q := ⟨i, j, rfl, rfl, h, q⟩
theorem cmulL (h0 : -18446744073709551616 < i) (h1 : i < 18446744073709551616) : CMul i j := .inl ⟨Int.lt_of_le_of_lt (by decide) h0, Int.lt_of_lt_of_le h1 (by decide)⟩
theorem cmulR (h0 : -18446744073709551616 < j) (h1 : j < 18446744073709551616) : CMul i j := .inr ⟨Int.lt_of_le_of_lt (by decide) h0, Int.lt_of_lt_of_le h1 (by decide)⟩
theorem w_U {g : Int → V} (q : Q (g i) H) : rU g (.int i) H Q := ⟨i, rfl, q⟩
theorem w_eqI (q : Q (.bl (decide (i = j))) H) : rEq (.int i) (.int j) H Q := ⟨rfl, by
  have e : decide (V.int i = V.int j) = decide (i = j) := decide_eq_decide.mpr ⟨fun h => V.int.inj h, fun h => congrArg V.int h⟩
  rw [e]; exact q⟩
theorem w_neI (q : Q (.bl (!decide (i = j))) H) : rNe (.int i) (.int j) H Q := ⟨rfl, by
  have e : decide (V.int i = V.int j) = decide (i = j) := decide_eq_decide.mpr ⟨fun h => V.int.inj h, fun h => congrArg V.int h⟩
  rw [e]; exact q⟩
theorem w_eqS {m n : Str} (q : Q (.bl (decide (m = n))) H) : rEq (.str m) (.str n) H Q := ⟨rfl, by
  have e : decide (V.str m = V.str n) = decide (m = n) := decide_eq_decide.mpr ⟨fun h => V.str.inj h, fun h => congrArg V.str h⟩
  rw [e]; exact q⟩
theorem w_neS {m n : Str} (q : Q (.bl (!decide (m = n))) H) : rNe (.str m) (.str n) H Q := ⟨rfl, by
  have e : decide (V.str m = V.str n) = decide (m = n) := decide_eq_decide.mpr ⟨fun h => V.str.inj h, fun h => congrArg V.str h⟩
  rw [e]; exact q⟩
theorem w_isN (q : Q (.bl (decide (x = .non))) H) : rNon false x .non H Q := ⟨rfl, q⟩
theorem w_notN (q : Q (.bl (!decide (x = .non))) H) : rNon true x .non H Q := ⟨rfl, q⟩
theorem w_chain (q : ta σ H fun x H1 => tb σ H1 fun y H2 => r x y H2 (kB fun k H3 => if k = true then tc σ H3 fun w' H4 => r' y w' H4 Q else Q (.bl false) H3)) : tChain r r' ta tb tc σ H Q := q
theorem w_iteT {A B : Prop} (h : A) : if true = true then A else B := iteT h
theorem w_iteF {A B : Prop} (h : B) : if false = true then A else B := iteF h
theorem w_iteNT {A B : Prop} (h : B) : if (!true) = true then A else B := iteF h
theorem w_iteNF {A B : Prop} (h : A) : if (!false) = true then A else B := iteT h
/-- a test that the facts decide -/
theorem w_yes {A B C : Prop} {_ : Decidable C} (c : C) (h : A) : if decide C = true then A else B := by rw [decide_eq_true c]; exact iteT h
theorem w_no {A B C : Prop} {_ : Decidable C} (c : ¬ C) (h : B) : if decide C = true then A else B := by rw [decide_eq_false c]; exact iteF h
theorem w_yesN {A B C : Prop} {_ : Decidable C} (c : ¬ C) (h : A) : if (!decide C) = true then A else B := by rw [decide_eq_false c]; exact iteT h
theorem w_noN {A B C : Prop} {_ : Decidable C} (c : C) (h : B) : if (!decide C) = true then A else B := by rw [decide_eq_true c]; exact iteF h
/-- both ways -/
theorem w_both {A B C : Prop} {_ : Decidable C} (h1 : C → A) (h2 : ¬ C → B) : if decide C = true then A else B := by
  by_cases c : C
  · exact w_yes c (h1 c)
  · exact w_no c (h2 c)
theorem w_bothN {A B C : Prop} {_ : Decidable C} (h1 : ¬ C → A) (h2 : C → B) : if (!decide C) = true then A else B := by
  by_cases c : C
  · exact w_noN c (h2 c)
  · exact w_yesN c (h1 c)
theorem w_bool {A B : Prop} {b : Bool} (h1 : b = true → A) (h2 : b = false → B) : if b = true then A else B := by
  cases b with
  | true => exact iteT (h1 rfl)
  | false => exact iteF (h2 rfl)
/-! ### tests -/
theorem w_test (q : te σ H (kB QB)) : tTest te σ H QB := q
theorem w_tB (q : te σ H (kB QB)) : tB te σ H QB := q
theorem w_kB {b : Bool} (q : QB b H) : kB QB (.bl b) H := ⟨b, rfl, q⟩
theorem w_and (q : t σ H fun b H1 => if b = true then u σ H1 QB else QB false H1) : tAnd t u σ H QB := q
theorem w_or (q : t σ H fun b H1 => if b = true then QB true H1 else u σ H1 QB) : tOr t u σ H QB := q
theorem w_tYes (q : QB true H) : tYes σ H QB := q
theorem w_not (q : t σ H fun b H1 => QB (!b) H1) : tNot t σ H QB := q
theorem w_andV (q : ta σ H (kB fun b H1 => if b = true then tb σ H1 Q else Q (.bl false) H1)) : tAndV ta tb σ H Q := q
theorem w_orV (q : ta σ H (kB fun b H1 => if b = true then Q (.bl true) H1 else tb σ H1 Q)) : tOrV ta tb σ H Q := q
theorem w_notV (q : ta σ H (kB fun b H1 => Q (.bl (!b)) H1)) : tNotV ta σ H Q := q
theorem w_ifE (q : t σ H fun b H1 => if b = true then ta σ H1 Q else tb σ H1 Q) : tIf t ta tb σ H Q := q
/-! ### == of lists, tuples -/
theorem dpAllI : ∀ (ns : List Int), DpAll K H (iL ns) (ns.map PyData.int)
  | [] => .nil
  | n :: r => .cons (.int n) (dpAllI r)
theorem dpL (h : SqL K H a (iL ns)) : Dp K H (.ref a) (.list (ns.map PyData.int)) := .lst h (dpAllI ns)
theorem dpT (h : SqT K H a (iL ns)) : Dp K H (.ref a) (.tuple (ns.map PyData.int)) := .tup h (dpAllI ns)
theorem canI : ∀ ns : List Int, PyData.canLayAll0 (ns.map PyData.int) = true
  | [] => by rw [List.map_nil, PyData.canLayAll0]
  | n :: r => by rw [List.map_cons, PyData.canLayAll0, canI r, PyData.canLay0]; rfl
theorem depI : ∀ ns : List Int, PyData.depthAll (ns.map PyData.int) = 0
  | [] => by rw [List.map_nil, PyData.depthAll]
  | n :: r => by rw [List.map_cons, PyData.depthAll, depI r, PyData.depth]; rfl
theorem shL (ns : List Int) : SeqAt.shaped (.list (ns.map PyData.int)) = true := by
  unfold SeqAt.shaped
  rw [PyData.canLay0, canI, PyData.depth, depI]
  rfl
theorem shT (ns : List Int) : SeqAt.shaped (.tuple (ns.map PyData.int)) = true := by
  unfold SeqAt.shaped
  rw [PyData.canLay0, canI, PyData.depth, depI]
  rfl
theorem eqvAllI : ∀ ns ms : List Int, PyData.eqvAll (ns.map PyData.int) (ms.map PyData.int) = decide (ns = ms)
  | [], [] => by simp [PyData.eqvAll]
  | [], _ :: _ => by simp [PyData.eqvAll]
  | _ :: _, [] => by simp [PyData.eqvAll]
  | n :: r, m :: u => by
    rw [List.map_cons, List.map_cons, PyData.eqvAll, eqvAllI r u, PyData.eqv]
    by_cases h1 : n = m <;> by_cases h2 : r = u <;> simp [h1, h2]
theorem w_eqL {b : Addr} {ms : List Int} (h : SqL K H a (iL ns)) (h' : SqL K H b (iL ms)) (q : Q (.bl (decide (ns = ms))) H) : rEqD K (.ref a) (.ref b) H Q :=
  ⟨_, _, dpL h, dpL h', shL ns, shL ms, by rw [PyData.eqv, eqvAllI]; exact q⟩
theorem w_neL {b : Addr} {ms : List Int} (h : SqL K H a (iL ns)) (h' : SqL K H b (iL ms)) (q : Q (.bl (!decide (ns = ms))) H) : rNeD K (.ref a) (.ref b) H Q :=
  ⟨_, _, dpL h, dpL h', shL ns, shL ms, by rw [PyData.eqv, eqvAllI]; exact q⟩
theorem w_eqT {b : Addr} {ms : List Int} (h : SqT K H a (iL ns)) (h' : SqT K H b (iL ms)) (q : Q (.bl (decide (ns = ms))) H) : rEqD K (.ref a) (.ref b) H Q :=
  ⟨_, _, dpT h, dpT h', shT ns, shT ms, by rw [PyData.eqv, eqvAllI]; exact q⟩
theorem dT {c : Prop} {_ : Decidable c} {R : V → Hp → Prop} (h : c) (q : R (.bl true) H) : R (.bl (decide c)) H := by rw [decide_eq_true h]; exact q
theorem inV_int : ∀ ns : List Int, inV (.int i) (iL ns) = decide (i ∈ ns)
  | [] => by simp [inV]
  | n :: r => by
    have ih := inV_int r
    unfold inV at ih ⊢
    show (eqV (.int n) (.int i) || ((iL r).any fun y => eqV y (.int i))) = _
    rw [ih]
    have e : eqV (.int n) (.int i) = decide (n = i) := by
      show (n == i) = decide (n = i)
      rw [Bool.beq_eq_decide_eq]
    rw [e]
    by_cases h1 : n = i <;> by_cases h2 : i ∈ r <;> simp [h1, h2]
    exact fun h => h1 h.symm
theorem flat_ints (ns : List Int) : (iL ns).all flatV = true := by
  refine List.all_eq_true.mpr fun v hv => ?_
  obtain ⟨n, _, rfl⟩ := List.mem_map.mp hv
  rfl
theorem w_inI (h : SqL K H a (iL ns)) (q : Q (.bl (decide (i ∈ ns))) H) : rIn K false (.int i) (.ref a) H Q := ⟨a, iL ns, rfl, .inl h, rfl, flat_ints ns, by rw [inV_int]; exact q⟩
theorem w_niI (h : SqL K H a (iL ns)) (q : Q (.bl (!decide (i ∈ ns))) H) : rIn K true (.int i) (.ref a) H Q := ⟨a, iL ns, rfl, .inl h, rfl, flat_ints ns, by rw [inV_int]; exact q⟩
/-! ### arguments, calls -/
theorem w_nil {QA : List V → Hp → Prop} (q : QA [] H) : tNil σ H QA := q
theorem w_cons {QA : List V → Hp → Prop} (q : te σ H fun x H1 => tr σ H1 fun xs H2 => QA (x :: xs) H2) : tCons te tr σ H QA := q
theorem w_call {sp : Sp} {E : XK} (q : tl σ H fun vs H1 => sp vs H1 Q E) : tCall sp [] E tl σ H Q := by
  have e : (fun (vs : List V) (H1 : Hp) => sp (vs ++ []) H1 Q E) = fun vs H1 => sp vs H1 Q E := by
    funext vs H1
    rw [List.append_nil]
  show tl σ H fun vs H1 => sp (vs ++ []) H1 Q E
  rw [e]
  exact q
theorem w_callD {sp : Sp} {dvs : List V} {E : XK} (q : tl σ H fun vs H1 => sp (vs ++ dvs) H1 Q E) : tCall sp dvs E tl σ H Q := q
theorem w_cb {r : List V → Hp → VK → Prop} (q : tl σ H fun vs H1 => r vs H1 Q) : tCB r tl σ H Q := q
theorem w_tup (q : tl σ H fun xs H1 => rNewT xs H1 Q) : tTup tl σ H Q := q
theorem w_lst (q : tl σ H fun xs H1 => rNewL xs H1 Q) : tLst tl σ H Q := q
theorem w_newT (hl : xs.length ≤ 1000) (q : ∀ p H1, H p = none → Ex H H1 → H1 p = some (.tup xs) → Q (.ref p) H1) : rNewT xs H Q :=
  ⟨Nat.le_trans hl (by decide), fun p hp => q p _ hp (Evl.Ex.new hp) upd_same⟩
theorem w_newL (hl : xs.length ≤ 1000) (q : ∀ p H1, H p = none → Ex H H1 → H1 p = some (.lst xs) → Q (.ref p) H1) : rNewL xs H Q :=
  ⟨Nat.le_trans hl (by decide), fun p hp => q p _ hp (Evl.Ex.new hp) upd_same⟩
theorem w_len (h : SqL K H a xs) (q : Q (.int xs.length) H) : rLenS K [.ref a] H Q := ⟨a, xs, rfl, .inl h, q⟩
theorem w_lenT (h : SqT K H a xs) (q : Q (.int xs.length) H) : rLenS K [.ref a] H Q := ⟨a, xs, rfl, .inr h, q⟩
theorem w_list (h : SqL K H a xs) (q : ∀ p H1, H p = none → Ex H H1 → H1 p = some (.lst xs) → Q (.ref p) H1) : rListS K [.ref a] H Q :=
  ⟨a, xs, rfl, .inl h, fun p hp => q p _ hp (Evl.Ex.new hp) upd_same⟩
theorem w_sum (h : SqL K H a (iL ns)) (q : Q (.int ns.sum) H) : rSum K [.ref a] H Q := ⟨a, ns, rfl, h, q⟩
theorem w_divmod (h : CDiv i j) (q : ∀ p H1, H p = none → Ex H H1 → H1 p = some (.tup [.int (i / j), .int (i % j)]) → Q (.ref p) H1) : rDivmod [.int i, .int j] H Q :=
  ⟨i, j, rfl, h, fun p hp => q p _ hp (Evl.Ex.new hp) upd_same⟩
/-! ### items, slices -/
theorem w_ixL (h : SqL K H a xs) (e : atI xs i = some v) (q : Q v H) : rIxL K (.ref a) (.int i) H Q := ⟨a, xs, i, v, rfl, rfl, h, e, q⟩
theorem w_ixT (h : SqT K H a xs) (e : atI xs i = some v) (q : Q v H) : rIxT K (.ref a) (.int i) H Q := ⟨a, xs, i, v, rfl, rfl, h, e, q⟩
theorem w_sl {rs : V → Option Int → Option Int → Hp → VK → Prop} {t1 t2 : TO} (q : te σ H fun x H1 => t1 σ H1 fun l H2 => t2 σ H2 fun h H3 => rs x l h H3 Q) : tSl rs te t1 t2 σ H Q := q
theorem w_part {QO : Option Int → Hp → Prop} (q : te σ H (kI QO)) : tPart te σ H QO := q
theorem w_kI {QO : Option Int → Hp → Prop} (q : QO (some i) H) : kI QO (.int i) H := ⟨i, rfl, q⟩
theorem w_noPart {QO : Option Int → Hp → Prop} (q : QO none H) : tNoPart σ H QO := q
theorem w_slL {lo hi : Option Int} (h : SqL K H a xs) (q : ∀ p H1, H p = none → Ex H H1 → H1 p = some (.lst (cutV xs lo hi)) → Q (.ref p) H1) : rSlL K (.ref a) lo hi H Q :=
  ⟨a, xs, rfl, h, fun p hp => q p _ hp (Evl.Ex.new hp) upd_same⟩
theorem w_lenI (h : SqL K H a (iL ns)) (q : Q (.int ns.length) H) : rLenS K [.ref a] H Q := ⟨a, iL ns, rfl, .inl h, by rw [List.length_map]; exact q⟩
theorem w_ixI {k : Nat} {n : Int} (h : SqL K H a (iL ns)) (e : i = (k : Int)) (e2 : ns[k]? = some n) (q : Q (.int n) H) : rIxL K (.ref a) (.int i) H Q :=
  ⟨a, iL ns, i, .int n, rfl, rfl, h, by rw [e]; exact atI_nat (by rw [List.getElem?_map, e2]; rfl), q⟩
/-- an item of a list at an open place in its bounds -/
theorem w_ixD (h : SqL K H a (iL ns)) (h0 : 0 ≤ i) (h1 : i < ns.length) (q : Q (.int (ns.getD i.toNat 0)) H) : rIxL K (.ref a) (.int i) H Q := by
  have hl : i.toNat < ns.length := by omega
  have e : ns[i.toNat]? = some (ns.getD i.toNat 0) := by
    rw [List.getD_eq_getElem?_getD, List.getElem?_eq_getElem hl]
    rfl
  exact w_ixI h (k := i.toNat) (by omega) e q
theorem cut_to {k : Nat} (ns : List Int) : cutV (iL ns) none (some (k : Int)) = iL (ns.take k) := by
  have e : cutV (iL ns) none (some (k : Int)) = (iL ns).take (min k (iL ns).length) := by
    show ((iL ns).drop (HT.sIx (iL ns).length 0 none)).take (HT.sIx (iL ns).length (iL ns).length (some (k : Int)) - HT.sIx (iL ns).length 0 none) = _
    rw [HT.sIx_none, HT.sIx_nat]
    rfl
  rw [e]
  show (ns.map V.int).take (min k (ns.map V.int).length) = (ns.take k).map V.int
  rw [List.map_take]
  by_cases h : k ≤ (ns.map V.int).length
  · rw [Nat.min_eq_left h]
  · rw [Nat.min_eq_right (by omega), List.take_of_length_le (Nat.le_refl _), List.take_of_length_le (by omega)]
theorem cut_last (xs : List V) : cutV xs none (some (-1)) = xs.take (xs.length - 1) := by
  have e : HT.sIx xs.length xs.length (some (-1)) = xs.length - 1 := by
    show (if (-1 : Int) < 0 then ((-1 : Int) + (xs.length : Int)).toNat else min (-1 : Int).toNat xs.length) = xs.length - 1
    rw [if_pos (by decide)]
    omega
  show (xs.drop (HT.sIx xs.length 0 none)).take (HT.sIx xs.length xs.length (some (-1)) - HT.sIx xs.length 0 none) = _
  rw [HT.sIx_none, e]
  rfl
theorem cut_from {k : Nat} (ns : List Int) : cutV (iL ns) (some (k : Int)) none = iL (ns.drop k) := by
  show ((iL ns).drop (HT.sIx (iL ns).length 0 (some (k : Int)))).take (HT.sIx (iL ns).length (iL ns).length none - HT.sIx (iL ns).length 0 (some (k : Int))) = _
  rw [HT.sIx_none, HT.sIx_nat]
  show ((ns.map V.int).drop (min k (ns.map V.int).length)).take _ = (ns.drop k).map V.int
  rw [List.take_of_length_le (by rw [List.length_drop]; exact Nat.le_refl _), List.map_drop]
  by_cases h : k ≤ (ns.map V.int).length
  · rw [Nat.min_eq_left h]
  · rw [Nat.min_eq_right (by omega), List.drop_length, List.drop_eq_nil_of_le (by omega)]
theorem cut_both {k m : Nat} (ns : List Int) (hkm : k ≤ m) : cutV (iL ns) (some (k : Int)) (some (m : Int)) = iL ((ns.take m).drop k) := by
  show ((iL ns).drop (HT.sIx (iL ns).length 0 (some (k : Int)))).take (HT.sIx (iL ns).length (iL ns).length (some (m : Int)) - HT.sIx (iL ns).length 0 (some (k : Int))) = _
  rw [HT.sIx_nat, HT.sIx_nat, ← List.drop_take]
  show ((ns.map V.int).take (min m (ns.map V.int).length)).drop (min k (ns.map V.int).length) = ((ns.take m).drop k).map V.int
  rw [List.map_drop, List.map_take]
  by_cases h : m ≤ (ns.map V.int).length
  · rw [Nat.min_eq_left h, Nat.min_eq_left (by omega)]
  · have e : min m (ns.map V.int).length = (ns.map V.int).length := Nat.min_eq_right (by omega)
    rw [e, List.take_of_length_le (Nat.le_refl _), List.take_of_length_le (by omega)]
    by_cases h2 : k ≤ (ns.map V.int).length
    · rw [Nat.min_eq_left h2]
    · rw [Nat.min_eq_right (by omega), List.drop_length, List.drop_eq_nil_of_le (by omega)]
/-- counts[:sign] -/
theorem w_slTo (h : SqL K H a (iL ns)) (h0 : 0 ≤ i) (q : ∀ p H1, H p = none → Ex H H1 → H1 p = some (.lst (iL (ns.take i.toNat))) → Q (.ref p) H1) : rSlL K (.ref a) none (some i) H Q :=
  w_slL h fun p H1 hp e h1 => q p H1 hp e (by
    have e2 : i = ((i.toNat : Nat) : Int) := by omega
    rw [e2] at h1
    rw [cut_to] at h1
    exact h1)
/-! ### methods of lists, isinstance -/
theorem w_bm {T : String} {r : V → List V → Hp → VK → Prop} (q : te σ H fun x H1 => tyV K T x H1 ∧ tl σ H1 fun xs H2 => r x xs H2 Q) : tBM K T r te tl σ H Q := q
theorem w_bm0 {T : String} {r : V → List V → Hp → VK → Prop} (q : te σ H fun x H1 => tyV K T x H1 ∧ r x [] H1 Q) : tBM0 K T r te σ H Q := q
theorem w_tyL {B : Prop} (h : H a = some (.lst xs)) (q : B) : tyV K "list" (.ref a) H ∧ B := ⟨.inl ⟨rfl, _, SqL.of h⟩, q⟩
theorem w_append (h : H a = some (.lst xs)) (hz : xs.length < 100000) (q : Q .non (upd H a (.lst (xs ++ [y])))) : rAppend (.ref a) [y] H Q := ⟨a, xs, y, rfl, rfl, h, Evl.sz_lt hz, q⟩
theorem w_pop (h : H a = some (.lst (xs ++ [y]))) (q : Q y (upd H a (.lst xs))) : rPop (.ref a) [] H Q := ⟨a, xs ++ [y], y, rfl, rfl, h, by simp, by rw [List.dropLast_concat]; exact q⟩
theorem w_isi {t u : Value} {b : Bool} (hx : TyX K H x t) (hc : ClsV y u) (hk : PySem.W.kitOne K t u = some b) (q : Q (.bl b) H) : rIsi K [x, y] H Q := ⟨x, y, t, u, b, rfl, hc, hx, hk, q⟩
theorem w_isiT {n m : String} {b : Bool} (hx : TyX K H x (.type n)) (hk : kitB n m = some b) (q : Q (.bl b) H) : rIsi K [x, .ty m] H Q := w_isi hx (.ty m) (kit_ty hk) q
theorem w_isiII (q : Q (.bl true) H) : rIsi K [.int i, .ty "int"] H Q := w_isiT (.base (.int i)) (by decide +kernel) q
theorem w_isiIB (q : Q (.bl false) H) : rIsi K [.int i, .ty "bool"] H Q := w_isiT (.base (.int i)) (by decide +kernel) q
theorem w_isiSS {z : Str} (q : Q (.bl true) H) : rIsi K [.str z, .ty "str"] H Q := w_isiT (.base (.str z)) (by decide +kernel) q
theorem w_isiLL (h : H a = some (.lst xs)) (q : Q (.bl true) H) : rIsi K [.ref a, .ty "list"] H Q := w_isiT (.base (.lst h)) (by decide +kernel) q
theorem w_isiUU (h : H a = some (.tup xs)) (q : Q (.bl true) H) : rIsi K [.ref a, .ty "tuple"] H Q := w_isiT (.base (.tup h)) (by decide +kernel) q
/-! ### statements -/
theorem w_seq (q : s1 { D with nx := s2 D } σ H) : tSeq s1 s2 D σ H := q
theorem w_asg {g : TG} (q : te σ H fun x H1 => g x σ H1 D.nx) : tAsg te g D σ H := q
theorem w_gName {k : Nat} {R : L2.St → Hp → Prop} (q : R (σ.set k (some v)) H) : gName k v σ H R := q
theorem w_gSub {ts : TSet} {R : L2.St → Hp → Prop} (q : ta σ H fun o H1 => tb σ H1 fun i H2 => ts o i v H2 fun H3 => R σ H3) : gSub ta tb ts v σ H R := q
theorem w_setL {k : Nat} {R : Hp → Prop} (h : H a = some (.lst xs)) (e : i = (k : Int)) (hk : k < xs.length) (q : R (upd H a (.lst (xs.set k v)))) : rSetL (.ref a) (.int i) v H R :=
  ⟨a, xs, i, k, rfl, rfl, h, by rw [e]; exact Evl.ixN_nat hk, q⟩
theorem w_ret (q : te σ H D.rt) : tRet te D σ H := q
theorem w_retN (q : D.rt .non H) : tRetN D σ H := q
theorem w_drop (q : te σ H fun _ H1 => D.nx σ H1) : tDrop te D σ H := q
theorem w_if (q : c σ H fun b H1 => if b = true then s1 D σ H1 else s2 D σ H1) : tIfS c s1 s2 D σ H := q
theorem w_next (q : D.nx σ H) : tNext D σ H := q
theorem w_cut (Mid : L2.St → Hp → Prop) (q : s1 { D with nx := Mid } σ H) (r : ∀ σ' H', Mid σ' H' → s2 D σ' H') : Evl.tCut s1 s2 D σ H := ⟨Mid, q, r⟩
/-! ### loops -/
/-- what a for asks once its iterator has come -/
def rFor (J : It) (g : TG) (tb : TS) : TS := fun D σ H1 => ∃ W : Nat → Nat → L2.St → Hp → Prop, (∃ m, W 0 m σ H1) ∧ ∀ i m σ H, W i m σ H →
  (J.stop i H ∧ D.nx σ H) ∨ (J.go i H ∧ ∃ N : L2.St → Hp → Prop, (∀ σ' H', N σ' H' → ∃ m', m' < m ∧ W (i + 1) m' σ' H') ∧ ∀ x H', J.yld i H x H' → g x σ H' fun σ2 H2 => tb { D with nx := N, ct := N, bk := D.nx } σ2 H2)
def kItl (K : PySem.W.Frag) (R : It → Hp → Prop) : VK := fun x H => ∃ a, x = .ref a ∧ (∃ xs, SqL K H a xs) ∧ R (Itl K a) H
def kIr1 (R : It → Hp → Prop) : List V → Hp → Prop := fun vs H => ∃ j : Int, vs = [.int j] ∧ -(2 ^ 62) ≤ j ∧ j < 2 ^ 62 ∧ R (Itr 0 j.toNat) H
def kIr2 (R : It → Hp → Prop) : List V → Hp → Prop := fun vs H => ∃ i j : Int, vs = [.int i, .int j] ∧ (-(2 ^ 62) ≤ i ∧ i < 2 ^ 62 ∧ -(2 ^ 62) ≤ j ∧ j < 2 ^ 62) ∧ R (Itr i (j - i).toNat) H
def kItv (K : PySem.W.Frag) (R : It → Hp → Prop) : List V → Hp → Prop := fun vs H => ∃ (a : Addr) (xs : List V), vs = [.ref a] ∧ SqL K H a xs ∧ R (Itv K a xs.length) H
theorem w_for {wi : TI} {g : TG} (q : wi σ H fun J H1 => rFor J g s1 D σ H1) : tFor wi g s1 D σ H := q
variable {R : It → Hp → Prop}
theorem w_iList (q : te σ H (kItl K R)) : iList K te σ H R := q
theorem w_kItl (h : SqL K H a xs) (q : R (Itl K a) H) : kItl K R (.ref a) H := ⟨a, rfl, ⟨xs, h⟩, q⟩
theorem w_iR1 (q : tl σ H (kIr1 R)) : iRng1 tl σ H R := q
theorem w_kIr1 (h0 : -1000000000 ≤ j) (h1 : j ≤ 1000000000) (q : R (Itr 0 j.toNat) H) : kIr1 R [.int j] H := ⟨j, rfl, Int.le_trans (by decide) h0, Int.lt_of_le_of_lt h1 (by decide), q⟩
theorem w_iR2 (q : tl σ H (kIr2 R)) : iRng2 tl σ H R := q
theorem w_kIr2 (h0 : -1000000000 ≤ i) (h1 : i ≤ 1000000000) (h2 : -1000000000 ≤ j) (h3 : j ≤ 1000000000) (q : R (Itr i (j - i).toNat) H) : kIr2 R [.int i, .int j] H :=
  ⟨i, j, rfl, ⟨Int.le_trans (by decide) h0, Int.lt_of_le_of_lt h1 (by decide), Int.le_trans (by decide) h2, Int.lt_of_le_of_lt h3 (by decide)⟩, q⟩
theorem w_iRev (q : tl σ H (kItv K R)) : iRev K tl σ H R := q
theorem w_kItv (h : SqL K H a xs) (q : R (Itv K a xs.length) H) : kItv K R [.ref a] H := ⟨a, xs, rfl, h, q⟩
/-- over a list of ints -/
theorem w_loopI {k : Nat} (ns : List Int) (Pv : Nat → L2.St → Hp → Prop) (h0 : Pv 0 σ H) (hl : ∀ i σ H, Pv i σ H → SqL K H a (iL ns))
    (hs : ∀ i n σ H, ns[i]? = some n → i < ns.length → Pv i σ H → s1 { D with nx := Pv (i + 1), ct := Pv (i + 1), bk := D.nx } (σ.set k (some (.int n))) H) (hd : ∀ σ H, Pv ns.length σ H → D.nx σ H) : rFor (Itl K a) (gName k) s1 D σ H :=
  for_list (xs := iL ns) Pv h0 (fun i σ H _ p => hl i σ H p) (fun i x σ H hi p => by
    rw [List.getElem?_map] at hi
    cases e : ns[i]? with
    | none => rw [e] at hi; cases hi
    | some n =>
      rw [e] at hi
      cases hi
      exact hs i n σ H e (List.getElem?_eq_some_iff.mp e).1 p) (fun σ H p => hd σ H (by rw [List.length_map] at p; exact p))
/-- over a list of ints from its end: so many taken -/
theorem w_loopV {k : Nat} (ns : List Int) {m : Nat} (hm : m = ns.length) (Pv : Nat → L2.St → Hp → Prop) (h0 : Pv 0 σ H) (hl : ∀ i σ H, Pv i σ H → SqL K H a (iL ns))
    (hs : ∀ i n σ H, ns[ns.length - 1 - i]? = some n → i < ns.length → Pv i σ H → s1 { D with nx := Pv (i + 1), ct := Pv (i + 1), bk := D.nx } (σ.set k (some (.int n))) H) (hd : ∀ σ H, Pv ns.length σ H → D.nx σ H) : rFor (Itv K a m) (gName k) s1 D σ H := by
  have e0 : m = (iL ns).length := by rw [List.length_map]; exact hm
  subst e0
  exact RT.for_Itv (xs := iL ns) Pv h0 (fun i σ H p => hl i σ H p) (fun i x σ H hlt hi p => by
    rw [List.length_map] at hlt
    rw [List.length_map, List.getElem?_map] at hi
    cases e : ns[ns.length - 1 - i]? with
    | none => rw [e] at hi; cases hi
    | some n =>
      rw [e] at hi
      cases hi
      exact hs i n σ H e hlt p) (fun σ H p => hd σ H (by rw [List.length_map] at p; exact p))
/-- over range(n) -/
theorem w_loopR {k n : Nat} (Pv : Nat → L2.St → Hp → Prop) (h0 : Pv 0 σ H)
    (hs : ∀ (i : Nat) σ H, i < n → Pv i σ H → s1 { D with nx := Pv (i + 1), ct := Pv (i + 1), bk := D.nx } (σ.set k (some (.int (i : Int)))) H) (hd : ∀ σ H, Pv n σ H → D.nx σ H) : rFor (Itr 0 n) (gName k) s1 D σ H :=
  for_range (lo := 0) Pv h0 (fun i σ H hi p => by
    have e : (0 : Int) + (i : Int) = (i : Int) := Int.zero_add _
    rw [e]
    exact hs i σ H hi p) hd
/-- over range(lo, hi) -/
theorem w_loopS {k n : Nat} {lo : Int} (Pv : Nat → L2.St → Hp → Prop) (h0 : Pv 0 σ H)
    (hs : ∀ (i : Nat) σ H, i < n → Pv i σ H → s1 { D with nx := Pv (i + 1), ct := Pv (i + 1), bk := D.nx } (σ.set k (some (.int (lo + (i : Int))))) H) (hd : ∀ σ H, Pv n σ H → D.nx σ H) : rFor (Itr lo n) (gName k) s1 D σ H :=
  for_range (lo := lo) Pv h0 hs hd
/-- list(range(n)) -/
def upto (n : Nat) : List Int := (List.range n).map fun (k : Nat) => (k : Int)
theorem mem_upto {n : Nat} {s : Int} : s ∈ upto n ↔ 0 ≤ s ∧ s < n := by
  constructor
  · intro h
    obtain ⟨k, hk, rfl⟩ := List.mem_map.mp h
    have := List.mem_range.mp hk
    omega
  · rintro ⟨h0, h1⟩
    exact List.mem_map.mpr ⟨s.toNat, List.mem_range.mpr (by omega), by omega⟩
def kLr (Q : VK) : VK := fun x H1 => ∃ n : Int, x = .int n ∧ (RgOk 0 n ∧ ∀ q, H1 q = none → Q (.ref q) (upd H1 q (.lst (rgV 0 n))))
theorem rg_upto (n : Nat) : rgV 0 (n : Int) = iL (upto n) := by
  show (List.range ((n : Int) - 0).toNat).map _ = ((List.range n).map _).map V.int
  have e : ((n : Int) - 0).toNat = n := by omega
  rw [e, List.map_map]
  refine List.map_congr_left fun k _ => ?_
  show V.int (0 + (k : Int)) = V.int (k : Int)
  rw [Int.zero_add]
theorem w_kLr (h0 : 0 ≤ i) (h1 : i ≤ 1000000) (q : ∀ p H1, H p = none → Ex H H1 → H1 p = some (.lst (iL (upto i.toNat))) → Q (.ref p) H1) : kLr Q (.int i) H :=
  ⟨i, rfl, RgOk.of_le (by decide) (by omega) (by decide) h0, fun p hp => q p _ hp (Evl.Ex.new hp) (by
    rw [upd_same]
    have e : i = ((i.toNat : Nat) : Int) := by omega
    rw [e, rg_upto, Int.toNat_natCast])⟩
theorem w_lrg (q : te σ H (kLr Q)) : tLstRg (tRg1 te) σ H Q := q
def kRv (R : It → Hp → Prop) : VK := fun x H1 => ∃ n : Int, x = .int n ∧ (-(2 ^ 62) ≤ (0 : Int) ∧ (0 : Int) < 2 ^ 62 ∧ -(2 ^ 62) ≤ n ∧ n < 2 ^ 62 ∧ R (Itc (0 + (((n - 0).toNat : Nat) : Int) - 1) (-1) (n - 0).toNat) H1)
theorem w_iRv (q : te σ H (kRv R)) : iRevR (tRg1 te) σ H R := q
theorem w_kRv (h0 : 0 ≤ i) (h1 : i ≤ 1000000000) (q : R (Itc ((i.toNat : Int) - 1) (-1) i.toNat) H) : kRv R (.int i) H :=
  ⟨i, rfl, by decide, by decide, Int.le_trans (by decide) h0, Int.lt_of_le_of_lt h1 (by decide), by
    have e1 : (0 : Int) + (((i - 0).toNat : Nat) : Int) - 1 = (i.toNat : Int) - 1 := by omega
    have e2 : (i - 0).toNat = i.toNat := by omega
    rw [e1, e2]
    exact q⟩
/-- over reversed(range(m)) -/
theorem w_loopD {k m : Nat} (Pv : Nat → L2.St → Hp → Prop) (h0 : Pv 0 σ H)
    (hs : ∀ (i : Nat) σ H, i < m → Pv i σ H → s1 { D with nx := Pv (i + 1), ct := Pv (i + 1), bk := D.nx } (σ.set k (some (.int ((m - 1 - i : Nat) : Int)))) H) (hd : ∀ σ H, Pv m σ H → D.nx σ H) : rFor (Itc ((m : Int) - 1) (-1) m) (gName k) s1 D σ H :=
  for_rangeC (lo := (m : Int) - 1) (c := -1) Pv h0 (fun i σ H hi p => by
    have e : (m : Int) - 1 + ((i : Nat) : Int) * (-1) = ((m - 1 - i : Nat) : Int) := by omega
    rw [e]
    exact hs i σ H hi p) hd
/-- while: W by a measure -/
theorem w_while (W : Nat → L2.St → Hp → Prop) (m0 : Nat) (h0 : W m0 σ H)
    (hs : ∀ m σ H, W m σ H → c σ H fun b H1 => if b = true then ∃ N : L2.St → Hp → Prop, (∀ σ' H', N σ' H' → ∃ m', m' < m ∧ W m' σ' H') ∧ s1 { D with nx := N, ct := N, bk := D.nx } σ H1 else D.nx σ H1) : tWhile c s1 D σ H := ⟨W, ⟨m0, h0⟩, hs⟩
/-- one turn: W again, by less -/
theorem w_turn {W : Nat → L2.St → Hp → Prop} {m : Nat} (q : s1 { D with nx := fun σ' H' => ∃ m', m' < m ∧ W m' σ' H', ct := fun σ' H' => ∃ m', m' < m ∧ W m' σ' H', bk := D.nx } σ H) :
    ∃ N : L2.St → Hp → Prop, (∀ σ' H', N σ' H' → ∃ m', m' < m ∧ W m' σ' H') ∧ s1 { D with nx := N, ct := N, bk := D.nx } σ H := ⟨_, fun _ _ h => h, q⟩
/-! ### comprehensions -/
def rLc (J : It) (g : TG) (tt : TT) (te : TE) (vs : List Nat) (σ : L2.St) (H1 : Hp) (Q : VK) : Prop := ∀ D, H1 D = none → ∃ W : Nat → Nat → Hp → Prop, (∃ m, W 0 m (upd H1 D (.lst []))) ∧ ∀ i m H, W i m H →
  (J.stop i H ∧ Q (.ref D) H) ∨ (J.go i H ∧ ∃ Nx : Hp → Prop, (∀ H', Nx H' → ∃ m', m' < m ∧ W (i + 1) m' H') ∧ ∀ x H', J.yld i H x H' → g x (wipe σ vs) H' fun σ2 H2 => wipe σ2 vs = wipe σ vs ∧ tt σ2 H2 fun b H3 => if b = true then te σ2 H3 fun y H4 => ∃ acc, H4 D = some (.lst acc) ∧ acc.length < sizeLine ∧ Nx (upd H4 D (.lst (acc ++ [y]))) else Nx H3)
theorem w_lc {wi : TI} {g : TG} {vs : List Nat} (q : wi σ H fun J H1 => rLc J g t te vs σ H1 Q) : tLc wi g t te vs σ H Q := q
/-- what a part gives, the heap but grown -/
def gv (v : V) (H : Hp) : VK := fun x H1 => x = v ∧ Ex H H1
def gb (b : Bool) (H : Hp) : Bool → Hp → Prop := fun x H1 => x = b ∧ Ex H H1
theorem given_all (n : Nat) (v : Nat → V) : Evl.given n (fun _ => true) v = (List.range n).map v := by
  unfold Evl.given
  rw [List.filter_eq_self.mpr (fun _ _ => rfl)]
theorem ev_yes : Evl.EvT tYes σ H true := fun H1 _ _ q => q H1 (Evl.Ex.refl H1)
/-- [e for k in range(n) if c] -/
theorem w_lcF {n k : Nat} {vs : List Nat} (f : Nat → Bool) (g : Nat → V) (hn : n ≤ 40000) (hw : ∀ x, wipe ((wipe σ vs).set k (some x)) vs = wipe σ vs)
    (ht : ∀ i H1, Ex H H1 → i < n → Evl.EvT t ((wipe σ vs).set k (some (.int (i : Int)))) H1 (f i))
    (he : ∀ i H1, Ex H H1 → i < n → f i = true → Evl.Ev te ((wipe σ vs).set k (some (.int (i : Int)))) H1 (g i))
    (q : ∀ p H1, H p = none → Ex H H1 → H1 p = some (.lst (Evl.given n f g)) → Q (.ref p) H1) : rLc (Itr 0 n) (gName k) t te vs σ H Q := fun Dl hD =>
  lc_range (lo := 0) (n := n) (Evl.Cw H f g Dl) ⟨hD, Evl.Ex.new hD, upd_same⟩ (fun i H' hi p => by
    have e0 : (0 : Int) + (i : Int) = (i : Int) := Int.zero_add _
    show wipe ((wipe σ vs).set k (some (.int ((0 : Int) + (i : Int))))) vs = wipe σ vs ∧ t ((wipe σ vs).set k (some (.int ((0 : Int) + (i : Int))))) H' fun b H3 => if b = true then te ((wipe σ vs).set k (some (.int ((0 : Int) + (i : Int))))) H3 fun y H4 => ∃ acc, H4 Dl = some (.lst acc) ∧ acc.length < sizeLine ∧ Evl.Cw H f g Dl (i + 1) (upd H4 Dl (.lst (acc ++ [y]))) else Evl.Cw H f g Dl (i + 1) H3
    rw [e0]
    exact ⟨hw _, Evl.cw_turn p (by omega) (ht i H (Evl.Ex.refl H) hi) (fun hf => he i H (Evl.Ex.refl H) hi hf)⟩) (fun H' p => q Dl H' hD p.2.1 p.2.2)
/-- [e for k in range(n)] -/
theorem w_lcR {n k : Nat} {vs : List Nat} (g : Nat → V) (hn : n ≤ 40000) (hw : ∀ x, wipe ((wipe σ vs).set k (some x)) vs = wipe σ vs)
    (he : ∀ i H1, Ex H H1 → i < n → Evl.Ev te ((wipe σ vs).set k (some (.int (i : Int)))) H1 (g i))
    (q : ∀ p H1, H p = none → Ex H H1 → H1 p = some (.lst ((List.range n).map g)) → Q (.ref p) H1) : rLc (Itr 0 n) (gName k) tYes te vs σ H Q :=
  w_lcF (fun _ => true) g hn hw (fun _ _ _ _ => ev_yes) (fun i H1 e hi _ => he i H1 e hi) fun p H1 hp e h => q p H1 hp e (by rw [given_all] at h; exact h)
/-- [e for x in xs if c] -/
theorem w_lcLF {k : Nat} {vs : List Nat} (f : Nat → Bool) (g : Nat → V) (hx : SqL K H a xs) (hn : xs.length ≤ 40000) (hw : ∀ x, wipe ((wipe σ vs).set k (some x)) vs = wipe σ vs)
    (ht : ∀ (i : Nat) (x : V) H1, Ex H H1 → xs[i]? = some x → Evl.EvT t ((wipe σ vs).set k (some x)) H1 (f i))
    (he : ∀ (i : Nat) (x : V) H1, Ex H H1 → xs[i]? = some x → f i = true → Evl.Ev te ((wipe σ vs).set k (some x)) H1 (g i))
    (q : ∀ p H1, H p = none → Ex H H1 → H1 p = some (.lst (Evl.given xs.length f g)) → Q (.ref p) H1) : rLc (Itl K a) (gName k) t te vs σ H Q := fun Dl hD =>
  lc_list (xs := xs) (Evl.Cw H f g Dl) ⟨hD, Evl.Ex.new hD, upd_same⟩ (fun i H' _ p => Evl.ex_l p.2.1 hx) (fun i x H' hi p => ⟨hw x, Evl.cw_turn p (by have := (List.getElem?_eq_some_iff.mp hi).1; omega) (ht i x H (Evl.Ex.refl H) hi) (fun hf => he i x H (Evl.Ex.refl H) hi hf)⟩)
    (fun H' p => q Dl H' hD p.2.1 p.2.2)
/-- [e for x in ns], the items ints -/
theorem w_lcI {k : Nat} {vs : List Nat} {ns : List Int} (g : Int → V) (hx : SqL K H a (iL ns)) (hn : ns.length ≤ 40000) (hw : ∀ x, wipe ((wipe σ vs).set k (some x)) vs = wipe σ vs)
    (he : ∀ (n : Int) H1, Ex H H1 → n ∈ ns → Evl.Ev te ((wipe σ vs).set k (some (.int n))) H1 (g n))
    (q : ∀ p H1, H p = none → Ex H H1 → H1 p = some (.lst (ns.map g)) → Q (.ref p) H1) : rLc (Itl K a) (gName k) tYes te vs σ H Q :=
  w_lcLF (fun _ => true) (fun i => g (ns.getD i 0)) hx (by rw [List.length_map]; exact hn) hw (fun _ _ _ _ _ => ev_yes) (fun i x H1 e hi _ => by
    rw [List.getElem?_map] at hi
    cases e2 : ns[i]? with
    | none => rw [e2] at hi; cases hi
    | some n =>
      rw [e2] at hi
      cases hi
      have e3 : ns.getD i 0 = n := by rw [List.getD_eq_getElem?_getD, e2]; rfl
      rw [e3]
      exact he n H1 e (List.mem_of_getElem? e2)) fun p H1 hp e h => q p H1 hp e (by
    rw [given_all, List.length_map] at h
    have e4 : (List.range ns.length).map (fun i => g (ns.getD i 0)) = ns.map g := by
      refine List.ext_getElem? fun i => ?_
      rw [List.getElem?_map, List.getElem?_map]
      by_cases hi : i < ns.length
      · rw [List.getElem?_range hi, List.getElem?_eq_getElem hi]
        show some (g (ns.getD i 0)) = some (g ns[i])
        rw [List.getD_eq_getElem?_getD, List.getElem?_eq_getElem hi]
        rfl
      · rw [List.getElem?_eq_none (by simpa using hi), List.getElem?_eq_none (by omega)]
        rfl
    rw [e4] at h
    exact h)
/-- a part's value, shown step by step -/
theorem to_ev (h : ∀ H1, Ex H H1 → ∀ Q : VK, (∀ H2, Ex H1 H2 → Q v H2) → te σ H1 Q) : Evl.Ev te σ H v := h
theorem to_evT {b : Bool} (h : ∀ H1, Ex H H1 → ∀ Q : Bool → Hp → Prop, (∀ H2, Ex H1 H2 → Q b H2) → t σ H1 Q) : Evl.EvT t σ H b := h
/-! ### lists of lists of ints -/
def TabAt (K : PySem.W.Frag) (H : Hp) (p : Addr) (ts : List (List Int)) : Prop := ∃ as : List Addr, SqL K H p (as.map V.ref) ∧ as.length = ts.length ∧ ∀ (i : Nat) (x : Addr) (t : List Int), as[i]? = some x → ts[i]? = some t → SqL K H x (iL t)
theorem TabAt.up {p : Addr} {ts : List (List Int)} {H' : Hp} (r : TabAt K H p ts) (e : Ex H H') : TabAt K H' p ts := by
  obtain ⟨as, h1, h2, h3⟩ := r
  exact ⟨as, Evl.ex_l e h1, h2, fun i x t a b => Evl.ex_l e (h3 i x t a b)⟩
theorem w_ixTab {ts : List (List Int)} {k : Nat} {t : List Int} (r : TabAt K H a ts) (e : i = (k : Int)) (h : ts[k]? = some t) (q : ∀ x, SqL K H x (iL t) → Q (.ref x) H) : rIxL K (.ref a) (.int i) H Q := by
  obtain ⟨as, h1, h2, h3⟩ := r
  obtain ⟨x, hx⟩ : ∃ x, as[k]? = some x := ⟨_, List.getElem?_eq_getElem (by rw [h2]; exact (List.getElem?_eq_some_iff.mp h).1)⟩
  subst e
  exact w_ixL h1 (v := .ref x) (atI_nat (by rw [List.getElem?_map, hx]; rfl)) (q x (h3 k x t hx h))
theorem w_lenTab {ts : List (List Int)} (r : TabAt K H a ts) (q : Q (.int ts.length) H) : rLenS K [.ref a] H Q := by
  obtain ⟨as, h1, h2, h3⟩ := r
  exact w_len h1 (by rw [List.length_map, h2]; exact q)
theorem w_loopTab {k : Nat} {ts : List (List Int)} (r : TabAt K H a ts) (Pv : Nat → L2.St → Prop) (h0 : Pv 0 σ)
    (hs : ∀ (i : Nat) (t : List Int) (x : Addr) σ, ts[i]? = some t → SqL K H x (iL t) → Pv i σ → s1 { D with nx := fun σ' H' => H' = H ∧ Pv (i + 1) σ', ct := fun σ' H' => H' = H ∧ Pv (i + 1) σ', bk := D.nx } (σ.set k (some (.ref x))) H)
    (hd : ∀ σ, Pv ts.length σ → D.nx σ H) : rFor (Itl K a) (gName k) s1 D σ H := by
  obtain ⟨as, h1, h2, h3⟩ := r
  refine for_list (xs := as.map V.ref) (fun i σ H' => H' = H ∧ Pv i σ) ⟨rfl, h0⟩ (fun i σ H' _ p => by rw [p.1]; exact h1) (fun i x σ H' hi p => ?_) (fun σ H' p => ?_)
  · obtain ⟨rfl, pv⟩ := p
    rw [List.getElem?_map] at hi
    cases e : as[i]? with
    | none => rw [e] at hi; cases hi
    | some n =>
      rw [e] at hi
      cases hi
      obtain ⟨t, ht⟩ : ∃ t, ts[i]? = some t := ⟨_, List.getElem?_eq_getElem (by rw [← h2]; exact (List.getElem?_eq_some_iff.mp e).1)⟩
      exact hs i t n σ ht (h3 i n t e ht) pv
  · obtain ⟨rfl, pv⟩ := p
    rw [List.length_map, h2] at pv
    exact hd σ pv
def tabD (ts : List (List Int)) : List PyData := ts.map fun t => .list (t.map PyData.int)
theorem dpTabAll : ∀ (as : List Addr) (ts : List (List Int)), as.length = ts.length → (∀ (i : Nat) (x : Addr) (t : List Int), as[i]? = some x → ts[i]? = some t → SqL K H x (iL t)) → DpAll K H (as.map V.ref) (tabD ts)
  | [], [], _, _ => .nil
  | x :: r, t :: u, h, q => .cons (dpL (q 0 x t rfl rfl)) (dpTabAll r u (Nat.succ.inj h) fun i y z a b => q (i + 1) y z a b)
theorem dpTab {ts : List (List Int)} (r : TabAt K H a ts) : Dp K H (.ref a) (.list (tabD ts)) := by
  obtain ⟨as, h1, h2, h3⟩ := r
  exact .lst h1 (dpTabAll as ts h2 h3)
theorem canTab : ∀ ts : List (List Int), PyData.canLayAll0 (tabD ts) = true
  | [] => rfl
  | t :: r => by
    show PyData.canLayAll0 (PyData.list (t.map PyData.int) :: tabD r) = true
    rw [PyData.canLayAll0, canTab r, PyData.canLay0, canI]
    rfl
theorem depTab : ∀ ts : List (List Int), PyData.depthAll (tabD ts) ≤ 1
  | [] => by simp [tabD, PyData.depthAll]
  | t :: r => by
    show PyData.depthAll (PyData.list (t.map PyData.int) :: tabD r) ≤ 1
    rw [PyData.depthAll, PyData.depth, depI]
    have := depTab r
    omega
theorem w_eq3 {b p1 p2 g1 g2 b1 b2 : Addr} {ts us : List (List Int)} (h1 : SqL K H a [.ref p1, .ref g1, .ref b1]) (h2 : SqL K H b [.ref p2, .ref g2, .ref b2]) (x1 : SqL K H p1 (iL ns)) (x2 : SqL K H p2 (iL ns))
    (y1 : TabAt K H g1 ts) (y2 : TabAt K H g2 ts) (z1 : TabAt K H b1 us) (z2 : TabAt K H b2 us) (q : Q (.bl true) H) : rEqD K (.ref a) (.ref b) H Q := by
  have sh : SeqAt.shaped (.list [.list (ns.map PyData.int), .list (tabD ts), .list (tabD us)]) = true := by
    unfold SeqAt.shaped
    have d1 := depTab ts
    have d2 := depTab us
    simp only [PyData.canLay0, PyData.canLayAll0, canI, canTab, PyData.depth, PyData.depthAll, depI, Bool.true_and, decide_eq_true_eq]
    omega
  refine ⟨_, _, .lst h1 (.cons (dpL x1) (.cons (dpTab y1) (.cons (dpTab z1) .nil))), .lst h2 (.cons (dpL x2) (.cons (dpTab y2) (.cons (dpTab z2) .nil))), sh, sh, ?_⟩
  rw [SeqAt.eqv_refl _ (SeqAt.canLay_of_shaped sh)]
  exact q
def Tw (H : Hp) (g : Nat → List Int) (D : Addr) (i : Nat) (H' : Hp) : Prop := H D = none ∧ Ex H H' ∧ ∃ as : List Addr, H' D = some (.lst (as.map V.ref)) ∧ as.length = i ∧ ∀ (j : Nat) (x : Addr), as[j]? = some x → H' x = some (.lst (iL (g j))) ∧ x ≠ D
theorem tw_turn {g : Nat → List Int} {Dl : Addr} {i : Nat} {H' : Hp} (p : Tw H g Dl i H') (hi : i < 40000) (he : ∀ Q : VK, (∀ p H2, H' p = none → Ex H' H2 → H2 p = some (.lst (iL (g i))) → Q (.ref p) H2) → te σ H' Q) :
    te σ H' fun y H4 => ∃ acc, H4 Dl = some (.lst acc) ∧ acc.length < sizeLine ∧ Tw H g Dl (i + 1) (upd H4 Dl (.lst (acc ++ [y]))) := by
  obtain ⟨hD, e, as, hl, hn, ha⟩ := p
  refine he _ fun x H2 nx e2 hx => ⟨_, e2 _ _ hl, Nat.lt_of_lt_of_le (show (as.map V.ref).length < 40000 by rw [List.length_map]; omega) (by decide), hD, Evl.Ex.mut (e.trans e2) hD, as ++ [x], by rw [upd_same, List.map_append]; rfl, by rw [List.length_append, hn]; rfl, fun j y hj => ?_⟩
  have xD : x ≠ Dl := fun z => by rw [z, hl] at nx; cases nx
  rw [List.getElem?_append] at hj
  split at hj
  · obtain ⟨h1, h2⟩ := ha j y hj
    exact ⟨(upd_ne h2).trans (e2 _ _ h1), h2⟩
  · have : j - as.length = 0 := by
      have := (List.getElem?_eq_some_iff.mp hj).1
      simp at this
      omega
    rw [this] at hj
    have hj : x = y := by simpa using hj
    subst hj
    have : j = i := by omega
    subst this
    exact ⟨(upd_ne xD).trans hx, xD⟩
theorem tw_done {g : Nat → List Int} {Dl : Addr} {n : Nat} {H' : Hp} (p : Tw H g Dl n H') : TabAt K H' Dl ((List.range n).map g) := by
  obtain ⟨hD, e, as, hl, hn, ha⟩ := p
  refine ⟨as, SqL.of hl, by simp [hn], fun i x t h1 h2 => ?_⟩
  obtain ⟨h, e2⟩ := List.getElem?_eq_some_iff.mp h2
  simp at e2
  rw [← e2]
  exact SqL.of (ha i x h1).1
/-- [a new list of ints for k in range(n)] -/
theorem w_lcTab {n k : Nat} {vs : List Nat} (g : Nat → List Int) (hn : n ≤ 40000) (hw : ∀ x, wipe ((wipe σ vs).set k (some x)) vs = wipe σ vs)
    (he : ∀ i H1 (Q : VK), Ex H H1 → i < n → (∀ p H2, H1 p = none → Ex H1 H2 → H2 p = some (.lst (iL (g i))) → Q (.ref p) H2) → te ((wipe σ vs).set k (some (.int (i : Int)))) H1 Q)
    (q : ∀ p H1, H p = none → Ex H H1 → TabAt K H1 p ((List.range n).map g) → Q (.ref p) H1) : rLc (Itr 0 n) (gName k) tYes te vs σ H Q := fun Dl hD =>
  lc_range (lo := 0) (n := n) (Tw H g Dl) ⟨hD, Evl.Ex.new hD, [], upd_same, rfl, fun j x h => by simp at h⟩ (fun i H' hi p => by
    have e0 : (0 : Int) + (i : Int) = (i : Int) := Int.zero_add _
    show wipe ((wipe σ vs).set k (some (.int ((0 : Int) + (i : Int))))) vs = wipe σ vs ∧ tYes ((wipe σ vs).set k (some (.int ((0 : Int) + (i : Int))))) H' fun b H3 => if b = true then te ((wipe σ vs).set k (some (.int ((0 : Int) + (i : Int))))) H3 fun y H4 => ∃ acc, H4 Dl = some (.lst acc) ∧ acc.length < sizeLine ∧ Tw H g Dl (i + 1) (upd H4 Dl (.lst (acc ++ [y]))) else Tw H g Dl (i + 1) H3
    rw [e0]
    exact ⟨hw _, w_tYes (w_iteT (tw_turn p (by omega) fun Q hq => he i H' Q p.2.1 hi hq))⟩) (fun H' p => q Dl H' hD p.2.1 (tw_done p))
/-- .. the lists told apart -/
def Tn (H : Hp) (g : Nat → List Int) (D : Addr) (i : Nat) (H' : Hp) : Prop := H D = none ∧ Ex H H' ∧ ∃ as : List Addr, H' D = some (.lst (as.map V.ref)) ∧ as.length = i ∧ (∀ (j : Nat) (x : Addr), as[j]? = some x → H' x = some (.lst (iL (g j))) ∧ x ≠ D ∧ H x = none) ∧ as.Nodup
theorem tn_turn {g : Nat → List Int} {Dl : Addr} {i : Nat} {H' : Hp} (p : Tn H g Dl i H') (hi : i < 40000) (he : ∀ Q : VK, (∀ p H2, H' p = none → Ex H' H2 → H2 p = some (.lst (iL (g i))) → Q (.ref p) H2) → te σ H' Q) :
    te σ H' fun y H4 => ∃ acc, H4 Dl = some (.lst acc) ∧ acc.length < sizeLine ∧ Tn H g Dl (i + 1) (upd H4 Dl (.lst (acc ++ [y]))) := by
  obtain ⟨hD, e, as, hl, hn, ha, nd⟩ := p
  refine he _ fun x H2 nx e2 hx => ⟨_, e2 _ _ hl, Nat.lt_of_lt_of_le (show (as.map V.ref).length < 40000 by rw [List.length_map]; omega) (by decide), hD, Evl.Ex.mut (e.trans e2) hD, as ++ [x], by rw [upd_same, List.map_append]; rfl, by rw [List.length_append, hn]; rfl, fun j y hj => ?_, ?_⟩
  · have xD : x ≠ Dl := fun z => by rw [z, hl] at nx; cases nx
    rw [List.getElem?_append] at hj
    split at hj
    · obtain ⟨h1, h2, h3⟩ := ha j y hj
      exact ⟨(upd_ne h2).trans (e2 _ _ h1), h2, h3⟩
    · have : j - as.length = 0 := by
        have := (List.getElem?_eq_some_iff.mp hj).1
        simp at this
        omega
      rw [this] at hj
      have hj : x = y := by simpa using hj
      subst hj
      have : j = i := by omega
      subst this
      exact ⟨(upd_ne xD).trans hx, xD, Evl.fresh_back e nx⟩
  · refine List.nodup_append.mpr ⟨nd, by simp, fun a h1 b h2 => ?_⟩
    rw [List.mem_singleton.mp h2]
    intro z
    obtain ⟨j, hj, ej⟩ := List.getElem_of_mem h1
    have := (ha j a (by rw [← ej]; exact List.getElem?_eq_getElem hj)).1
    rw [z, nx] at this
    cases this
theorem w_lcNew {n k : Nat} {vs : List Nat} (g : Nat → List Int) (hn : n ≤ 40000) (hw : ∀ x, wipe ((wipe σ vs).set k (some x)) vs = wipe σ vs)
    (he : ∀ i H1 (Q : VK), Ex H H1 → i < n → (∀ p H2, H1 p = none → Ex H1 H2 → H2 p = some (.lst (iL (g i))) → Q (.ref p) H2) → te ((wipe σ vs).set k (some (.int (i : Int)))) H1 Q)
    (q : ∀ p H1 (as : List Addr), H p = none → Ex H H1 → H1 p = some (.lst (as.map V.ref)) → as.length = n → (∀ (j : Nat) (x : Addr), as[j]? = some x → H1 x = some (.lst (iL (g j))) ∧ x ≠ p ∧ H x = none) → as.Nodup → Q (.ref p) H1) : rLc (Itr 0 n) (gName k) tYes te vs σ H Q := fun Dl hD =>
  lc_range (lo := 0) (n := n) (Tn H g Dl) ⟨hD, Evl.Ex.new hD, [], upd_same, rfl, (fun j x h => by simp at h), List.nodup_nil⟩ (fun i H' hi p => by
    have e0 : (0 : Int) + (i : Int) = (i : Int) := Int.zero_add _
    show wipe ((wipe σ vs).set k (some (.int ((0 : Int) + (i : Int))))) vs = wipe σ vs ∧ tYes ((wipe σ vs).set k (some (.int ((0 : Int) + (i : Int))))) H' fun b H3 => if b = true then te ((wipe σ vs).set k (some (.int ((0 : Int) + (i : Int))))) H3 fun y H4 => ∃ acc, H4 Dl = some (.lst acc) ∧ acc.length < sizeLine ∧ Tn H g Dl (i + 1) (upd H4 Dl (.lst (acc ++ [y]))) else Tn H g Dl (i + 1) H3
    rw [e0]
    exact ⟨hw _, w_tYes (w_iteT (tn_turn p (by omega) fun Q hq => he i H' Q p.2.1 hi hq))⟩) (fun H' ⟨_, e, as, h1, h2, h3, h4⟩ => q Dl H' as hD e h1 h2 h3 h4)
/-- [a new list of ints for x in xs], of a list of lists -/
theorem w_lcTabL {k : Nat} {vs : List Nat} {ts : List (List Int)} (g : Nat → List Int) (r : TabAt K H a ts) (hn : ts.length ≤ 40000) (hw : ∀ x, wipe ((wipe σ vs).set k (some x)) vs = wipe σ vs)
    (he : ∀ (i : Nat) (t : List Int) (x : Addr) H1 (Q : VK), Ex H H1 → ts[i]? = some t → SqL K H1 x (iL t) → (∀ p H2, H1 p = none → Ex H1 H2 → H2 p = some (.lst (iL (g i))) → Q (.ref p) H2) → te ((wipe σ vs).set k (some (.ref x))) H1 Q)
    (q : ∀ p H1, H p = none → Ex H H1 → TabAt K H1 p ((List.range ts.length).map g) → Q (.ref p) H1) : rLc (Itl K a) (gName k) tYes te vs σ H Q := fun Dl hD => by
  obtain ⟨as, h1, h2, h3⟩ := r
  refine lc_list (xs := as.map V.ref) (Tw H g Dl) ⟨hD, Evl.Ex.new hD, [], upd_same, rfl, fun j x h => by simp at h⟩ (fun i H' _ p => Evl.ex_l p.2.1 h1) (fun i x H' hi p => ⟨hw x, w_tYes (w_iteT ?_)⟩) (fun H' p => ?_)
  · rw [List.getElem?_map] at hi
    cases e : as[i]? with
    | none => rw [e] at hi; cases hi
    | some n =>
      rw [e] at hi
      cases hi
      have hi : i < ts.length := by rw [← h2]; exact (List.getElem?_eq_some_iff.mp e).1
      exact tw_turn p (by omega) fun Q hq => he i _ n H' Q p.2.1 (List.getElem?_eq_getElem hi) (Evl.ex_l p.2.1 (h3 i n _ e (List.getElem?_eq_getElem hi))) hq
  · rw [List.length_map, h2] at p
    exact q Dl H' hD p.2.1 (tw_done p)
theorem range_at (ts : List (List Int)) : (List.range ts.length).map (fun i => ts.getD i []) = ts := by
  refine List.ext_getElem (by simp) fun i h1 h2 => ?_
  simp [List.getElem?_eq_getElem h2]
end

/-! ### defs -/
/-- where the classes stand -/
structure Zs where
  plain : Addr
  learner : Addr
  follower : Addr
  stream : Addr
  slots : Addr
  model : Addr
  noshares : Addr
  nopile : Addr
  nosign : Addr
  noslot : Addr
  nomore : Addr
  notext : Addr
  notleaf : Addr
  pileerror : Addr
section
variable {P : Program} {w : World} {K : PySem.W.Frag} {mg : Str → Option Value} {base : Heap}
theorem cal_of {x qual : Str} {st : Stmt} {f : Addr} {fd : FuncData} {N ps : List Str} {k : Nat} {sp : Sp} (F : Fun K x qual st f fd) (hm : mg x = some (.ref f)) (b : Binds K fd ps []) (S : FnScope N ps (defScope st)) (len : ∀ vs H Q E, sp vs H Q E → vs.length = ps.length)
    (hbody : ∀ (cdv : Value) (A : Around) (outer : List Env) (s : Shared) (H : Hp) (vs : List V) (Q : VK) (E : XK), Room k (A.deeper (envOfC qual (defScope st) s.heap.objs.size f cdv)) → sp vs H Q E →
      ∃ t, PSs (cxOf CX0 P w K mg base N qual (defScope st) f cdv A outer s H E).nox (defBody st) t ∧ t { nx := fun _ H' => Q .non H', rt := Q } (start N vs) H) : Cal P w K mg base (k + 1) x sp [] :=
  ⟨f, fd, ps, [], F.ok S len hbody, hm, F.kp, b, .nil⟩
end

/-! ### the laws' own small defs -/
/-- script[i], or 0 -/
def cell (ns : List Int) (i : Int) : Int := ns.getD i.toNat 0
def sp__law_cell_at (K : PySem.W.Frag) (_ : Zs) : Sp := fun vs H Q _ => ∃ (a : Addr) (ns : List Int) (i : Int), vs = [.ref a, .int i] ∧ SqL K H a (iL ns) ∧ 0 ≤ i ∧ Q (.int (cell ns i)) H
def sp__law_whole (_ : PySem.W.Frag) (_ : Zs) : Sp := fun vs H Q _ => ∃ (i : Int), vs = [.int i] ∧ Q (.bl true) H
section
variable {K : PySem.W.Frag} {Z : Zs} {H : Hp} {Q : VK} {E : XK} {a : Addr} {ns : List Int} {i : Int}
theorem in_cell (h : SqL K H a (iL ns)) (h0 : 0 ≤ i) (q : Q (.int (cell ns i)) H) : sp__law_cell_at K Z [.ref a, .int i] H Q E := ⟨a, ns, i, rfl, h, h0, q⟩
theorem in_whole (q : Q (.bl true) H) : sp__law_whole K Z [.int i] H Q E := ⟨i, rfl, q⟩
end
/-! ### heaps -/
section
variable {K : PySem.W.Frag} {H H1 H2 : Hp} {a p : Addr} {xs : List V} {o : HO}
theorem sq (h : H a = some (.lst xs)) : SqL K H a xs := .inl (.inl h)
theorem sqt (h : H a = some (.tup xs)) : SqT K H a xs := .inl (.inl h)
/-- facts of an older heap -/
theorem up_o (e : Ex H H1) (h : H a = some o) : H1 a = some o := e a o h
theorem up_l (e : Ex H H1) (h : SqL K H a xs) : SqL K H1 a xs := Evl.ex_l e h
theorem up_t (e : Ex H H1) (h : SqT K H a xs) : SqT K H1 a xs := Evl.ex_t e h
theorem dn_n (e : Ex H H1) (h : H1 p = none) : H p = none := Evl.fresh_back e h
end
end Np

namespace Pf
open PySem PySem.Spec PyProof.Rows L2 Np
open Evl (Ex)
open C8 (Cal Met Mak pe_c pe_mk pe_mt pe_mt0 pe_gc)
-- "hp": a fact of the heap at hand out of older ones
local macro_rules | `(tactic| walk_at "hp") => `(tactic| first
  | assumption
  | exact upd_same
  | (apply sq; walk_at "hp1")
  | (apply sqt; walk_at "hp1")
  | (apply up_l; (· assumption); walk_at "hp")
  | (apply up_t; (· assumption); walk_at "hp")
  | walk_at "hp1")
local macro_rules | `(tactic| walk_at "hp1") => `(tactic| first
  | assumption
  | exact upd_same
  | (apply up_o; (· assumption); walk_at "hp1")
  | (apply dn_n; (· assumption); walk_at "hp1"))
-- "ar": a side fact of numbers
local macro_rules | `(tactic| walk_at "ar") => `(tactic| first
  | assumption
  | omega
  | (show CDiv _ _; exact ⟨by omega, by omega⟩)
  | (refine cmulR ?_ ?_ <;> omega)
  | (refine cmulL ?_ ?_ <;> omega)
  | (show CPow _ _; exact ⟨by decide, by decide, by decide⟩)
  | decide)
-- "st1": one step that needs no word; "st": as many as go
local macro_rules | `(tactic| walk_at "st1") => `(tactic| first
  | (with_reducible refine w_op ?_)
  | ((with_reducible apply w_var); · exact rfl)
  | (with_reducible refine w_c ?_)
  | (with_reducible refine w_I0 ?_)
  | ((with_reducible refine w_I ?_ ?_); · walk_at "ar")
  | (with_reducible refine w_seq ?_)
  | (with_reducible refine w_asg ?_)
  | (with_reducible refine w_cons ?_)
  | (with_reducible refine w_nil ?_)
  | (with_reducible refine w_call ?_)
  | (with_reducible refine w_cb ?_)
  | (with_reducible refine w_if ?_)
  | (with_reducible refine w_test ?_)
  | (with_reducible refine w_tB ?_)
  | (with_reducible refine w_kB ?_)
  | (with_reducible refine w_ret ?_)
  | (with_reducible refine w_iteT ?_)
  | (with_reducible refine w_iteF ?_)
  | (with_reducible refine w_iteNT ?_)
  | (with_reducible refine w_iteNF ?_)
  | (with_reducible refine w_drop ?_)
  | (with_reducible refine w_next ?_)
  | (with_reducible refine w_eqI ?_)
  | (with_reducible refine w_neI ?_)
  | (with_reducible refine w_and ?_)
  | (with_reducible refine w_or ?_)
  | (with_reducible refine w_not ?_)
  | (with_reducible refine w_andV ?_)
  | (with_reducible refine w_orV ?_)
  | (with_reducible refine w_notV ?_)
  | (with_reducible refine w_ifE ?_)
  | (with_reducible refine w_sl ?_)
  | (with_reducible refine w_part ?_)
  | (with_reducible refine w_kI ?_)
  | (with_reducible refine w_noPart ?_)
  | (with_reducible refine w_tup ?_)
  | (with_reducible refine w_lst ?_)
  | (with_reducible refine w_chain ?_)
  | (with_reducible refine w_un ?_)
  | (with_reducible refine w_U ?_)
  | (with_reducible refine w_isN ?_)
  | (with_reducible refine w_notN ?_)
  | (with_reducible refine w_eqS ?_)
  | (with_reducible refine w_neS ?_)
  | (with_reducible refine w_retN ?_)
  | ((with_reducible apply w_sum); · walk_at "hp")
  | ((with_reducible apply w_lenI); · walk_at "hp")
  | ((with_reducible apply w_len); · walk_at "hp")
  | ((with_reducible apply in_cell); (· walk_at "hp"); (· decide))
  | (with_reducible refine in_whole ?_)
  | ((with_reducible apply w_lenT); · walk_at "hp")
  | ((with_reducible apply w_ixT); (· walk_at "hp"); (· exact rfl))
  | (with_reducible refine w_gName ?_)
  | (with_reducible refine w_gSub ?_)
  | (with_reducible refine w_for ?_)
  | (with_reducible refine w_iList ?_)
  | ((with_reducible apply w_kItl); · walk_at "hp")
  | (with_reducible refine w_iR1 ?_)
  | ((with_reducible refine w_kIr1 ?_ ?_ ?_); (· omega); (· omega))
  | (with_reducible refine w_iR2 ?_)
  | ((with_reducible refine w_kIr2 ?_ ?_ ?_ ?_ ?_); (· omega); (· omega); (· omega); (· omega))
  | (with_reducible refine w_iRev ?_)
  | ((with_reducible apply w_kItv); · walk_at "hp")
  | (with_reducible refine w_lrg ?_)
  | (with_reducible refine w_iRv ?_)
  | ((with_reducible refine w_kRv ?_ ?_ ?_); (· omega); (· omega))
  | (with_reducible refine w_tYes ?_)
  | (with_reducible refine w_lc ?_)
  | (with_reducible refine w_bm ?_)
  | (with_reducible refine w_bm0 ?_)
  | ((with_reducible apply w_tyL); · walk_at "hp1")
  | (with_reducible refine w_isiII ?_)
  | (with_reducible refine w_isiIB ?_)
  | (with_reducible refine w_isiSS ?_)
  | ((with_reducible apply w_isiLL); · walk_at "hp1")
  | ((with_reducible apply w_isiUU); · walk_at "hp1")
  | ((with_reducible refine w_no ?_ ?_); · omega)
  | ((with_reducible refine w_yes ?_ ?_); · first | omega | exact rfl)
  | ((with_reducible refine w_noN ?_ ?_); · first | omega | exact rfl)
  | ((with_reducible refine w_yesN ?_ ?_); · omega))
local macro_rules | `(tactic| walk_at "st") => `(tactic| repeat walk_at "st1")
-- "both": the two ways of an open test
local macro_rules | `(tactic| walk_at "both") => `(tactic| first | (with_reducible refine w_both ?_ ?_) | (with_reducible refine w_bothN ?_ ?_))

def top (i : Nat) : Stmt := PySem.Challenge.pw_numberpile_k05_rows.main.body.getD i (.Pass ⟨0, 0, 0, 0⟩)
abbrev s_ask_counts : Stmt := top 8
abbrev s_holder : Stmt := top 9
abbrev s_ask_pile : Stmt := top 11
abbrev s_ask_sign : Stmt := top 12
abbrev s_put_on : Stmt := top 13
abbrev s_taken_off : Stmt := top 14
abbrev s_lay_row : Stmt := top 15
abbrev s_take_row : Stmt := top 16
abbrev s__law_cell_at : Stmt := top 18
abbrev s__law_whole : Stmt := top 19
abbrev s__law_draw : Stmt := top 20
abbrev s__law_counts : Stmt := top 21
abbrev s__law_held : Stmt := top 22
abbrev s__law_put : Stmt := top 23
abbrev s__law_pile : Stmt := top 24
abbrev s__law_numbers : Stmt := top 25
abbrev s__law_row_pair : Stmt := top 26
abbrev s_law : Stmt := top 27
structure Txt (K : PySem.W.Frag) (mg : Str → Option Value) (Z : Zs) : Prop where
  b_bool : mg "bool" = none
  b_divmod : mg "divmod" = none
  b_int : mg "int" = none
  b_isinstance : mg "isinstance" = none
  b_len : mg "len" = none
  b_list : mg "list" = none
  b_range : mg "range" = none
  b_reversed : mg "reversed" = none
  b_sum : mg "sum" = none
  b_tuple : mg "tuple" = none
  k_MOST_SIGNS : ∃ u, mg "MOST_SIGNS" = some u ∧ RelV (.int 100) u
  k_MOST_COUNT : ∃ u, mg "MOST_COUNT" = some u ∧ RelV (.int 999) u
section
variable {P : Program} {w : World} {K : PySem.W.Frag} {mg : Str → Option Value} {base : Heap} {Z : Zs}
theorem sc_ask_counts : FnScope ["counts", "count"] ["counts"] (defScope s_ask_counts) := ⟨rfl, rfl, rfl, by decide +kernel, rfl, by decide +kernel, by decide +kernel⟩
def sp_ask_counts (K : PySem.W.Frag) (_ : Zs) : Sp := fun vs H Q _ => ∃ (a : Addr) (ns : List Int), vs = [.ref a] ∧ SqL K H a (iL ns) ∧ Good ns ∧ Q .non H
theorem c_ask_counts {f : Addr} {fd : FuncData} (F : Fun K "ask_counts" "ask_counts" s_ask_counts f fd) (hm : mg "ask_counts" = some (.ref f)) (T : Txt K mg Z)   : Cal P w K mg base 1 "ask_counts" (sp_ask_counts K Z) [] := by
  refine cal_of F hm (F.binds (ps := ["counts"]) (fun _ _ _ _ _ _ us hl => match us, hl with | [_], _ => rfl)) sc_ask_counts (fun vs H Q E h => ?_) (fun cdv A outer s H vs Q E hr h => ?_)
  · obtain ⟨a, ns, rfl, hS, g, k⟩ := h
    rfl
  · obtain ⟨a, ns, rfl, hS, g, k⟩ := h
    refine ⟨_, (pss_cons (ps_if (PW.pt (pw_or (pt_cmpR op_lt (pe_callB (n_len (K := K) rfl) (by rfl) T.b_len (by decide +kernel) (pa_cons (pv 0) pa_nil)) pe_int (nomark _)) (pw_or1 (pt_cmpR op_gt (pe_callB (n_len (K := K) rfl) (by rfl) T.b_len (by decide +kernel) (pa_cons (pv 0) pa_nil)) (pe_gc rfl T.k_MOST_SIGNS) (nomark _))))) (pss_one ps_never) pss_nil)
      (pss_cons (ps_for PassesOwn.never rfl (n_pi (K := K) rfl (pv 0)) (pg_name (i := 1) sc_ask_counts.nd rfl (Or.inl rfl)) (pss_one (ps_if (PW.pt (pw_or (pt_cmpR op_lt (pv 1) pe_int (nomark _)) (pw_or1 (pt_cmpR op_gt (pv 1) (pe_gc rfl T.k_MOST_COUNT) (nomark _))))) (pss_one ps_never) pss_nil)))
      (pss_one (ps_if (pt_cmpR op_eq (pe_callB (n_sum (K := K) rfl rfl) (by rfl) T.b_sum (by decide +kernel) (pa_cons (pv 0) pa_nil)) pe_int (nomark _)) (pss_one ps_never) pss_nil)))), ?_⟩
    have g1 := g.pos
    have g2 := g.len
    have g3 := g.sum
    walk_at "st"
    refine w_loopI ns (fun i σ H' => H' = H ∧ ∃ v, σ = [some (.ref a), v]) ⟨rfl, _, rfl⟩ (fun i σ H' ⟨e, _⟩ => by rw [e]; exact hS) ?_ ?_
    · rintro i n σ H' hn hi ⟨rfl, v, rfl⟩
      have m0 := g.nn n (List.mem_of_getElem? hn)
      have m1 := g.le n (List.mem_of_getElem? hn)
      walk_at "st"
      exact ⟨rfl, _, rfl⟩
    · rintro σ H' ⟨rfl, v, rfl⟩
      walk_at "st"
      exact k
theorem sc_holder : FnScope ["counts", "slot", "sign"] ["counts", "slot"] (defScope s_holder) := ⟨rfl, rfl, rfl, by decide +kernel, rfl, by decide +kernel, by decide +kernel⟩
def sp_holder (K : PySem.W.Frag) (_ : Zs) : Sp := fun vs H Q _ => ∃ (a : Addr) (ns : List Int) (s : Int), vs = [.ref a, .int s] ∧ SqL K H a (iL ns) ∧ 0 ≤ s ∧ s < ns.sum ∧ Q (.int (holder ns s : Nat)) H
theorem c_holder {f : Addr} {fd : FuncData} (F : Fun K "holder" "holder" s_holder f fd) (hm : mg "holder" = some (.ref f)) (T : Txt K mg Z)   : Cal P w K mg base 1 "holder" (sp_holder K Z) [] := by
  refine cal_of F hm (F.binds (ps := ["counts", "slot"]) (fun _ _ _ _ _ _ us hl => match us, hl with | [_, _], _ => rfl)) sc_holder (fun vs H Q E h => ?_) (fun cdv A outer s H vs Q E hr h => ?_)
  · obtain ⟨a, ns, s0, rfl, hS, h0, h1, k⟩ := h
    rfl
  · obtain ⟨a, ns, s0, rfl, hS, h0, h1, k⟩ := h
    refine ⟨_, (pss_cons (ps_set (i := 2) sc_holder.nd rfl (Or.inl rfl) pe_int)
      (pss_cons (ps_while PassesOwn.never (pt_cmpR op_ge (pv 1) (pe_ix (n_ixL (K := K) rfl) (pv 0) (pv 2) (fun _ _ => rfl)) (nomark _)) (pss_cons (ps_set (i := 1) sc_holder.nd rfl (Or.inl rfl) (pe_op op_sub (pv 1) (pe_ix (n_ixL (K := K) rfl) (pv 0) (pv 2) (fun _ _ => rfl))))
      (pss_one (ps_set (i := 2) sc_holder.nd rfl (Or.inl rfl) (pe_op op_add (pv 2) pe_int)))))
      (pss_one (ps_ret (pv 2))))), ?_⟩
    walk_at "st"
    refine w_while (fun m σ H' => H' = H ∧ ∃ (j : Nat) (s : Int), σ = [some (.ref a), some (.int s), some (.int (j : Int))] ∧ m = ns.length - j ∧ 0 ≤ s ∧ s < (ns.drop j).sum ∧ holder ns s0 = j + holder (ns.drop j) s) ns.length ⟨rfl, 0, s0, rfl, rfl, h0, h1, by simp⟩ ?_
    rintro m σ H' ⟨rfl, j, s, rfl, rfl, b0, b1, e⟩
    have hj : j < ns.length := by
      refine Classical.byContradiction fun q => ?_
      rw [List.drop_eq_nil_of_le (by omega)] at b1
      simp at b1
      omega
    obtain ⟨c, ec⟩ : ∃ c, ns[j]? = some c := ⟨_, List.getElem?_eq_getElem hj⟩
    have st := holder_step (s := s) ec
    have sd := sum_drop ec
    walk_at "st"
    refine w_ixI hS rfl ec ?_
    walk_at "st"
    walk_at "both" <;> intro hc
    · refine w_turn ?_
      walk_at "st"
      refine w_ixI hS rfl ec ?_
      walk_at "st"
      refine ⟨ns.length - (j + 1), by omega, rfl, j + 1, s - c, ?_, rfl, by omega, by omega, ?_⟩
      · show [_, _, _] = _
        rw [Int.natCast_succ]
      · rw [if_pos hc] at st
        omega
    · walk_at "st"
      rw [if_neg hc] at st
      have e2 : (j : Int) = ((holder ns s0 : Nat) : Int) := by omega
      rw [e2]
      exact k
theorem sc_ask_pile : FnScope ["pile"] ["pile"] (defScope s_ask_pile) := ⟨rfl, rfl, rfl, by decide +kernel, rfl, by decide +kernel, by decide +kernel⟩
def sp_ask_pile (_ : PySem.W.Frag) (_ : Zs) : Sp := fun vs H Q _ => ∃ (p : Int), vs = [.int p] ∧ 0 ≤ p ∧ Q .non H
theorem c_ask_pile {f : Addr} {fd : FuncData} (F : Fun K "ask_pile" "ask_pile" s_ask_pile f fd) (hm : mg "ask_pile" = some (.ref f)) (T : Txt K mg Z)   : Cal P w K mg base 1 "ask_pile" (sp_ask_pile K Z) [] := by
  refine cal_of F hm (F.binds (ps := ["pile"]) (fun _ _ _ _ _ _ us hl => match us, hl with | [_], _ => rfl)) sc_ask_pile (fun vs H Q E h => ?_) (fun cdv A outer s H vs Q E hr h => ?_)
  · obtain ⟨p, rfl, h0, k⟩ := h
    rfl
  · obtain ⟨p, rfl, h0, k⟩ := h
    refine ⟨_, (pss_one (ps_if (pt_cmpR op_lt (pv 0) pe_int (nomark _)) (pss_one ps_never) pss_nil)), ?_⟩
    walk_at "st"
    exact k
theorem sc_ask_sign : FnScope ["counts", "sign"] ["counts", "sign"] (defScope s_ask_sign) := ⟨rfl, rfl, rfl, by decide +kernel, rfl, by decide +kernel, by decide +kernel⟩
def sp_ask_sign (K : PySem.W.Frag) (_ : Zs) : Sp := fun vs H Q _ => ∃ (a : Addr) (ns : List Int) (s : Int), vs = [.ref a, .int s] ∧ SqL K H a (iL ns) ∧ Sign ns s ∧ Q .non H
theorem c_ask_sign {f : Addr} {fd : FuncData} (F : Fun K "ask_sign" "ask_sign" s_ask_sign f fd) (hm : mg "ask_sign" = some (.ref f)) (T : Txt K mg Z)   : Cal P w K mg base 1 "ask_sign" (sp_ask_sign K Z) [] := by
  refine cal_of F hm (F.binds (ps := ["counts", "sign"]) (fun _ _ _ _ _ _ us hl => match us, hl with | [_, _], _ => rfl)) sc_ask_sign (fun vs H Q E h => ?_) (fun cdv A outer s H vs Q E hr h => ?_)
  · obtain ⟨a, ns, s0, rfl, hS, x, k⟩ := h
    rfl
  · obtain ⟨a, ns, s0, rfl, hS, x, k⟩ := h
    refine ⟨_, (pss_one (ps_if (PW.pt (pw_or (pt_cmpR op_lt (pv 1) pe_int (nomark _)) (pw_or (pt_cmpR op_ge (pv 1) (pe_callB (n_len (K := K) rfl) (by rfl) T.b_len (by decide +kernel) (pa_cons (pv 0) pa_nil)) (nomark _)) (pw_or1 (pt_cmpR op_eq (pe_ix (n_ixL (K := K) rfl) (pv 0) (pv 1) (fun _ _ => rfl)) pe_int (nomark _)))))) (pss_one ps_never) pss_nil)), ?_⟩
    have x0 := x.nn
    have x1 := x.lt
    have x2 := x.cp
    walk_at "st"
    refine w_ixI hS (k := s0.toNat) (by omega) (cnt_at x0 x1) ?_
    walk_at "st"
    exact k
theorem sc_put_on : FnScope ["pile", "counts", "sign", "count"] ["pile", "counts", "sign"] (defScope s_put_on) := ⟨rfl, rfl, rfl, by decide +kernel, rfl, by decide +kernel, by decide +kernel⟩
def sp_put_on (K : PySem.W.Frag) (_ : Zs) : Sp := fun vs H Q _ => ∃ (p : Int) (a : Addr) (ns : List Int) (s : Int), vs = [.int p, .ref a, .int s] ∧ SqL K H a (iL ns) ∧ Good ns ∧ Sign ns s ∧ ∀ H', Ex H H' → Q (.int (put p ns s)) H'
theorem c_put_on {f : Addr} {fd : FuncData} (F : Fun K "put_on" "put_on" s_put_on f fd) (hm : mg "put_on" = some (.ref f)) (T : Txt K mg Z)   : Cal P w K mg base 1 "put_on" (sp_put_on K Z) [] := by
  refine cal_of F hm (F.binds (ps := ["pile", "counts", "sign"]) (fun _ _ _ _ _ _ us hl => match us, hl with | [_, _, _], _ => rfl)) sc_put_on (fun vs H Q E h => ?_) (fun cdv A outer s H vs Q E hr h => ?_)
  · obtain ⟨p, a, ns, s0, rfl, hS, g, x, k⟩ := h
    rfl
  · obtain ⟨p, a, ns, s0, rfl, hS, g, x, k⟩ := h
    refine ⟨_, (pss_cons (ps_set (i := 3) sc_put_on.nd rfl (Or.inl rfl) (pe_ix (n_ixL (K := K) rfl) (pv 1) (pv 2) (fun _ _ => rfl)))
      (pss_one (ps_ret (pe_op op_add (pe_op op_add (pe_op op_mul (pe_op op_fdiv (pv 0) (pv 3)) (pe_callB (n_sum (K := K) rfl rfl) (by rfl) T.b_sum (by decide +kernel) (pa_cons (pv 1) pa_nil))) (pe_callB (n_sum (K := K) rfl rfl) (by rfl) T.b_sum (by decide +kernel) (pa_cons (pe_slice (n_slL (K := K) rfl) (pv 1) po_none (po_some (pv 2))) pa_nil))) (pe_op op_mod (pv 0) (pv 3)))))), ?_⟩
    have x0 := x.nn
    have x1 := x.lt
    have x2 := x.cp
    have x3 := (cnt_le g x0 x1).2
    have g1 := g.sum
    have g2 := g.sumle
    walk_at "st"
    refine w_ixI hS (k := s0.toNat) (by omega) (cnt_at x0 x1) ?_
    walk_at "st"
    refine w_slTo hS x0 fun q H1 nq e1 hq => ?_
    walk_at "st"
    exact k _ e1
theorem sc_taken_off : FnScope ["pile", "counts", "slot", "sign"] ["pile", "counts"] (defScope s_taken_off) := ⟨rfl, rfl, rfl, by decide +kernel, rfl, by decide +kernel, by decide +kernel⟩
def sp_taken_off (K : PySem.W.Frag) (_ : Zs) : Sp := fun vs H Q _ => ∃ (p : Int) (a : Addr) (ns : List Int), vs = [.int p, .ref a] ∧ SqL K H a (iL ns) ∧ Good ns ∧ ∀ q H', H q = none → Ex H H' → H' q = some (.tup [.int (offS p ns), .int (offP p ns)]) → Q (.ref q) H'
theorem c_taken_off {f : Addr} {fd : FuncData} (F : Fun K "taken_off" "taken_off" s_taken_off f fd) (hm : mg "taken_off" = some (.ref f)) (T : Txt K mg Z) (c_holder : Cal P w K mg base 1 "holder" (sp_holder K Z) [])  : Cal P w K mg base 2 "taken_off" (sp_taken_off K Z) [] := by
  refine cal_of F hm (F.binds (ps := ["pile", "counts"]) (fun _ _ _ _ _ _ us hl => match us, hl with | [_, _], _ => rfl)) sc_taken_off (fun vs H Q E h => ?_) (fun cdv A outer s H vs Q E hr h => ?_)
  · obtain ⟨p, a, ns, rfl, hS, g, k⟩ := h
    rfl
  · obtain ⟨p, a, ns, rfl, hS, g, k⟩ := h
    refine ⟨_, (pss_cons (ps_set (i := 2) sc_taken_off.nd rfl (Or.inl rfl) (pe_op op_mod (pv 0) (pe_callB (n_sum (K := K) rfl rfl) (by rfl) T.b_sum (by decide +kernel) (pa_cons (pv 1) pa_nil))))
      (pss_cons (ps_set (i := 3) sc_taken_off.nd rfl (Or.inl rfl) (pe_c c_holder hr (by decide) rfl (pa_cons (pv 1) (pa_cons (pv 2) pa_nil))))
      (pss_one (ps_ret (pe_tup (pa_cons (pv 3) (pa_cons (pe_op op_sub (pe_op op_add (pe_op op_mul (pe_op op_fdiv (pv 0) (pe_callB (n_sum (K := K) rfl rfl) (by rfl) T.b_sum (by decide +kernel) (pa_cons (pv 1) pa_nil))) (pe_ix (n_ixL (K := K) rfl) (pv 1) (pv 3) (fun _ _ => rfl))) (pv 2)) (pe_callB (n_sum (K := K) rfl rfl) (by rfl) T.b_sum (by decide +kernel) (pa_cons (pe_slice (n_slL (K := K) rfl) (pv 1) po_none (po_some (pv 3))) pa_nil))) pa_nil))))))), ?_⟩
    have g1 := g.sum
    have g2 := g.sumle
    have m0 := Int.emod_nonneg p (show ns.sum ≠ 0 by omega)
    have m1 := Int.emod_lt_of_pos p g1
    obtain ⟨x, f1, f2⟩ := off_sign g p
    have x0 := x.nn
    have x1 := x.lt
    have x2 := x.cp
    have x3 := (cnt_le g x0 x1).2
    walk_at "st"
    refine ⟨a, ns, _, rfl, hS, m0, m1, ?_⟩
    walk_at "st"
    refine w_ixI hS (k := (offS p ns).toNat) (show offS p ns = _ by omega) (cnt_at x0 x1) ?_
    walk_at "st"
    refine w_slTo hS x0 fun q H1 nq e1 hq => ?_
    walk_at "st"
    refine w_newT (Nat.le_of_ble_eq_true rfl) fun q2 H2 nq2 e2 hq2 => ?_
    exact k _ _ (dn_n e1 nq2) (e1.trans e2) hq2
theorem sc_lay_row : FnScope ["pile", "counts", "row", "sign"] ["pile", "counts", "row"] (defScope s_lay_row) := ⟨rfl, rfl, rfl, by decide +kernel, rfl, by decide +kernel, by decide +kernel⟩
def sp_lay_row (K : PySem.W.Frag) (_ : Zs) : Sp := fun vs H Q _ => ∃ (p : Int) (a b : Addr) (ns row : List Int), vs = [.int p, .ref a, .ref b] ∧ SqL K H a (iL ns) ∧ SqL K H b (iL row) ∧ Good ns ∧ (∀ s ∈ row, Sign ns s) ∧ 0 ≤ p ∧ ∀ H', Ex H H' → Q (.int (layRow p ns row)) H'
theorem c_lay_row {f : Addr} {fd : FuncData} (F : Fun K "lay_row" "lay_row" s_lay_row f fd) (hm : mg "lay_row" = some (.ref f)) (T : Txt K mg Z) (c_ask_counts : Cal P w K mg base 1 "ask_counts" (sp_ask_counts K Z) []) (c_ask_pile : Cal P w K mg base 1 "ask_pile" (sp_ask_pile K Z) []) (c_ask_sign : Cal P w K mg base 1 "ask_sign" (sp_ask_sign K Z) []) (c_put_on : Cal P w K mg base 1 "put_on" (sp_put_on K Z) [])  : Cal P w K mg base 2 "lay_row" (sp_lay_row K Z) [] := by
  refine cal_of F hm (F.binds (ps := ["pile", "counts", "row"]) (fun _ _ _ _ _ _ us hl => match us, hl with | [_, _, _], _ => rfl)) sc_lay_row (fun vs H Q E h => ?_) (fun cdv A outer s H vs Q E hr h => ?_)
  · obtain ⟨p, a, b, ns, row, rfl, hS, hR, g, hx, h0, k⟩ := h
    rfl
  · obtain ⟨p, a, b, ns, row, rfl, hS, hR, g, hx, h0, k⟩ := h
    refine ⟨_, (pss_cons (ps_expr (pe_c c_ask_counts hr (by decide) rfl (pa_cons (pv 1) pa_nil)))
      (pss_cons (ps_expr (pe_c c_ask_pile hr (by decide) rfl (pa_cons (pv 0) pa_nil)))
      (pss_cons (ps_for PassesOwn.never rfl (n_pi (K := K) rfl (pv 2)) (pg_name (i := 3) sc_lay_row.nd rfl (Or.inl rfl)) (pss_one (ps_expr (pe_c c_ask_sign hr (by decide) rfl (pa_cons (pv 1) (pa_cons (pv 3) pa_nil))))))
      (pss_cons (ps_for PassesOwn.never rfl (n_pirev (K := K) rfl (by rfl) T.b_reversed (pa_cons (pv 2) pa_nil)) (pg_name (i := 3) sc_lay_row.nd rfl (Or.inl rfl)) (pss_one (ps_set (i := 0) sc_lay_row.nd rfl (Or.inl rfl) (pe_c c_put_on hr (by decide) rfl (pa_cons (pv 0) (pa_cons (pv 1) (pa_cons (pv 3) pa_nil)))))))
      (pss_one (ps_ret (pv 0))))))), ?_⟩
    walk_at "st"
    refine ⟨a, ns, rfl, hS, g, ?_⟩
    walk_at "st"
    refine ⟨p, rfl, h0, ?_⟩
    walk_at "st"
    refine w_loopI row (fun i σ H' => H' = H ∧ ∃ v, σ = [some (.int p), some (.ref a), some (.ref b), v]) ⟨rfl, _, rfl⟩ (fun i σ H' ⟨e, _⟩ => by rw [e]; exact hR) ?_ ?_
    · rintro i s σ H' hn hi ⟨rfl, v, rfl⟩
      walk_at "st"
      refine ⟨a, ns, s, rfl, hS, hx s (List.mem_of_getElem? hn), ?_⟩
      walk_at "st"
      exact ⟨rfl, _, rfl⟩
    rintro σ H' ⟨rfl, v, rfl⟩
    walk_at "st"
    refine w_loopV row (by rw [List.length_map]) (fun i σ H1 => Ex H' H1 ∧ ∃ v, σ = [some (.int (layRow p ns (row.drop (row.length - i)))), some (.ref a), some (.ref b), v]) ⟨Evl.Ex.refl _, v, ?_⟩ (fun i σ H1 ⟨e, _⟩ => up_l e hR) ?_ ?_
    · rw [Nat.sub_zero, List.drop_length]
      rfl
    · rintro i s σ H1 hn hi ⟨e1, v1, rfl⟩
      have e2 := layRow_drop (p := p) (ns := ns) hn
      have e3 : row.length - 1 - i + 1 = row.length - i := by omega
      have e4 : row.length - 1 - i = row.length - (i + 1) := by omega
      rw [e3, e4] at e2
      walk_at "st"
      refine ⟨_, a, ns, s, rfl, up_l e1 hS, g, hx s (List.mem_of_getElem? hn), fun H2 e5 => ?_⟩
      walk_at "st"
      refine ⟨e1.trans e5, some (.int s), ?_⟩
      rw [e2]
      rfl
    · rintro σ H1 ⟨e1, v1, rfl⟩
      walk_at "st"
      have e2 : row.drop (row.length - row.length) = row := by rw [Nat.sub_self, List.drop_zero]
      rw [e2]
      exact k _ e1
theorem sc_take_row : FnScope ["pile", "counts", "many", "row", "turn", "found"] ["pile", "counts", "many"] (defScope s_take_row) := ⟨rfl, rfl, rfl, by decide +kernel, rfl, by decide +kernel, by decide +kernel⟩
def sp_take_row (K : PySem.W.Frag) (_ : Zs) : Sp := fun vs H Q _ => ∃ (p : Int) (a : Addr) (ns : List Int) (n : Nat), vs = [.int p, .ref a, .int (n : Int)] ∧ SqL K H a (iL ns) ∧ Good ns ∧ 0 ≤ p ∧ n ≤ 1000 ∧
  ∀ q l H', H q = none → H l = none → Ex H H' → H' q = some (.tup [.ref l, .int (pileAt ns p n)]) → H' l = some (.lst (iL (takenRow ns p n))) → Q (.ref q) H'
theorem c_take_row {f : Addr} {fd : FuncData} (F : Fun K "take_row" "take_row" s_take_row f fd) (hm : mg "take_row" = some (.ref f)) (T : Txt K mg Z) (c_ask_counts : Cal P w K mg base 1 "ask_counts" (sp_ask_counts K Z) []) (c_ask_pile : Cal P w K mg base 1 "ask_pile" (sp_ask_pile K Z) []) (c_taken_off : Cal P w K mg base 2 "taken_off" (sp_taken_off K Z) [])  : Cal P w K mg base 3 "take_row" (sp_take_row K Z) [] := by
  refine cal_of F hm (F.binds (ps := ["pile", "counts", "many"]) (fun _ _ _ _ _ _ us hl => match us, hl with | [_, _, _], _ => rfl)) sc_take_row (fun vs H Q E h => ?_) (fun cdv A outer s H vs Q E hr h => ?_)
  · obtain ⟨p, a, ns, n, rfl, hS, g, h0, hn, k⟩ := h
    rfl
  · obtain ⟨p, a, ns, n, rfl, hS, g, h0, hn, k⟩ := h
    refine ⟨_, (pss_cons (ps_expr (pe_c c_ask_counts hr (by decide) rfl (pa_cons (pv 1) pa_nil)))
      (pss_cons (ps_expr (pe_c c_ask_pile hr (by decide) rfl (pa_cons (pv 0) pa_nil)))
      (pss_cons (ps_set (i := 3) sc_take_row.nd rfl (Or.inl rfl) (pe_lst pa_nil))
      (pss_cons (ps_for PassesOwn.never rfl (pi_range1 rfl T.b_range (pa_cons (pv 2) pa_nil)) (pg_name (i := 4) sc_take_row.nd rfl (Or.inl rfl)) (pss_cons (ps_set (i := 5) sc_take_row.nd rfl (Or.inl rfl) (pe_c c_taken_off hr (by decide) rfl (pa_cons (pv 0) (pa_cons (pv 1) pa_nil))))
      (pss_cons (ps_expr (pe_bm PySem.F.plainAttrs_list PySem.F.slot_list_append PySem.F.type_list_append mt_append (pv 3) (pa_cons (pe_ix (n_ixT (K := K) rfl) (pv 5) pe_int (fun _ _ => rfl)) pa_nil)))
      (pss_one (ps_set (i := 0) sc_take_row.nd rfl (Or.inl rfl) (pe_ix (n_ixT (K := K) rfl) (pv 5) pe_int (fun _ _ => rfl)))))))
      (pss_one (ps_ret (pe_tup (pa_cons (pv 3) (pa_cons (pv 0) pa_nil))))))))), ?_⟩
    walk_at "st"
    refine ⟨a, ns, rfl, hS, g, ?_⟩
    walk_at "st"
    refine ⟨p, rfl, h0, ?_⟩
    walk_at "st"
    refine w_newL (Nat.zero_le _) fun l H1 nl e1 hl => ?_
    walk_at "st"
    refine w_loopR (fun i σ H' => Ex H H' ∧ H' l = some (.lst (iL (takenRow ns p i))) ∧ ∃ v w, σ = [some (.int (pileAt ns p i)), some (.ref a), some (.int (n : Int)), some (.ref l), v, w]) ⟨e1, hl, none, none, rfl⟩ ?_ ?_
    · rintro i σ H2 hi ⟨e2, hl2, v, w, rfl⟩
      have hi' : i < n := by omega
      walk_at "st"
      refine ⟨_, a, ns, rfl, up_l e2 hS, g, fun q H3 nq e3 hq => ?_⟩
      have hl3 := e3 _ _ hl2
      walk_at "st"
      have nql : q ≠ l := ne_of hq hl3 (by intro z; cases z)
      refine w_append hl3 (by rw [List.length_map, takenRow_len]; omega) ?_
      walk_at "st"
      refine w_ixT (SqT.of ((upd_ne nql).trans hq)) rfl ?_
      walk_at "st"
      refine ⟨Evl.Ex.mut (e2.trans e3) nl, ?_, some (.int (i : Int)), some (.ref q), rfl⟩
      rw [upd_same, takenRow_succ]
      show some (HO.lst _) = some (HO.lst ((takenRow ns p i ++ [_]).map V.int))
      rw [List.map_append]
      rfl
    · rintro σ H2 ⟨e2, hl2, v, w, rfl⟩
      walk_at "st"
      refine w_newT (Nat.le_of_ble_eq_true rfl) fun q H3 nq e3 hq => ?_
      rw [Int.toNat_natCast] at hq hl2
      exact k _ _ _ (dn_n e2 nq) nl (e2.trans e3) hq (e3 _ _ hl2)
theorem sc__law_cell_at : FnScope ["script", "k"] ["script", "k"] (defScope s__law_cell_at) := ⟨rfl, rfl, rfl, by decide +kernel, rfl, by decide +kernel, by decide +kernel⟩

theorem c__law_cell_at {f : Addr} {fd : FuncData} (F : Fun K "_law_cell_at" "_law_cell_at" s__law_cell_at f fd) (hm : mg "_law_cell_at" = some (.ref f)) (T : Txt K mg Z)   : Cal P w K mg base 1 "_law_cell_at" (sp__law_cell_at K Z) [] := by
  refine cal_of F hm (F.binds (ps := ["script", "k"]) (fun _ _ _ _ _ _ us hl => match us, hl with | [_, _], _ => rfl)) sc__law_cell_at (fun vs H Q E h => ?_) (fun cdv A outer s H vs Q E hr h => ?_)
  · obtain ⟨a, ns, j, rfl, hS, h0, k⟩ := h
    rfl
  · obtain ⟨a, ns, j, rfl, hS, h0, k⟩ := h
    refine ⟨_, (pss_cons (ps_if (pt_cmpR op_lt (pv 1) (pe_callB (n_len (K := K) rfl) (by rfl) T.b_len (by decide +kernel) (pa_cons (pv 0) pa_nil)) (nomark _)) (pss_one (ps_ret (pe_ix (n_ixL (K := K) rfl) (pv 0) (pv 1) (fun _ _ => rfl)))) pss_nil)
      (pss_one (ps_ret pe_int))), ?_⟩
    walk_at "st"
    walk_at "both" <;> intro hc
    · walk_at "st"
      refine w_ixD hS h0 hc ?_
      exact k
    · walk_at "st"
      have e : cell ns j = 0 := by
        unfold cell
        rw [List.getD_eq_getElem?_getD, List.getElem?_eq_none (by omega)]
        rfl
      rw [e] at k
      exact k
theorem sc__law_whole : FnScope ["found"] ["found"] (defScope s__law_whole) := ⟨rfl, rfl, rfl, by decide +kernel, rfl, by decide +kernel, by decide +kernel⟩

theorem c__law_whole {f : Addr} {fd : FuncData} (F : Fun K "_law_whole" "_law_whole" s__law_whole f fd) (hm : mg "_law_whole" = some (.ref f)) (T : Txt K mg Z)   : Cal P w K mg base 1 "_law_whole" (sp__law_whole K Z) [] := by
  refine cal_of F hm (F.binds (ps := ["found"]) (fun _ _ _ _ _ _ us hl => match us, hl with | [_], _ => rfl)) sc__law_whole (fun vs H Q E h => ?_) (fun cdv A outer s H vs Q E hr h => ?_)
  · obtain ⟨i, rfl, k⟩ := h
    rfl
  · obtain ⟨i, rfl, k⟩ := h
    refine ⟨_, (pss_one (ps_ret (pe_and (pe_callB (n_isi (K := K) rfl) (by rfl) T.b_isinstance (by decide +kernel) (pa_cons (pv 0) (pa_cons (pe_bltn (v := .ty "int") (u := .type "int") (by rfl) T.b_int (by decide +kernel) rfl) pa_nil))) (pe_one (pe_not (pe_callB (n_isi (K := K) rfl) (by rfl) T.b_isinstance (by decide +kernel) (pa_cons (pv 0) (pa_cons (pe_bltn (v := .ty "bool") (u := .type "bool") (by rfl) T.b_bool (by decide +kernel) rfl) pa_nil)))))))), ?_⟩
    walk_at "st"
    exact k
theorem sc__law_draw : FnScope ["cell", "k", "bound", "one", "two"] ["cell", "k", "bound"] (defScope s__law_draw) := ⟨rfl, rfl, rfl, by decide +kernel, rfl, by decide +kernel, by decide +kernel⟩
def sp__law_draw (_ : PySem.W.Frag) (_ : Zs) : Sp := fun vs H Q _ => ∃ (cell j bound : Int), vs = [.int cell, .int j, .int bound] ∧ 0 ≤ j ∧ j < 100000 ∧ 0 < bound ∧ Q (.int (draw cell j bound)) H
theorem c__law_draw {f : Addr} {fd : FuncData} (F : Fun K "_law_draw" "_law_draw" s__law_draw f fd) (hm : mg "_law_draw" = some (.ref f)) (T : Txt K mg Z)   : Cal P w K mg base 1 "_law_draw" (sp__law_draw K Z) [] := by
  refine cal_of F hm (F.binds (ps := ["cell", "k", "bound"]) (fun _ _ _ _ _ _ us hl => match us, hl with | [_, _, _], _ => rfl)) sc__law_draw (fun vs H Q E h => ?_) (fun cdv A outer s H vs Q E hr h => ?_)
  · obtain ⟨cell, j, bound, rfl, h0, h1, hb, k⟩ := h
    rfl
  · obtain ⟨cell, j, bound, rfl, h0, h1, hb, k⟩ := h
    refine ⟨_, (pss_cons (ps_set (i := 3) sc__law_draw.nd rfl (Or.inl rfl) (pe_op op_mod (pe_op op_add (pe_op op_add (pe_op op_mul (pe_op op_mod (pv 0) pe_int) pe_int) (pe_op op_mul (pv 1) pe_int)) pe_int) pe_int))
      (pss_cons (ps_set (i := 4) sc__law_draw.nd rfl (Or.inl rfl) (pe_op op_mod (pe_op op_mul (pe_op op_add (pe_op op_mod (pv 0) pe_int) pe_int) (pe_op op_add (pe_op op_add (pe_op op_mul (pv 1) (pv 1)) (pe_op op_mul pe_int (pv 1))) pe_int)) pe_int))
      (pss_one (ps_ret (pe_op op_mod (pe_op op_fdiv (pe_op op_mul (pv 3) (pe_op op_add (pv 4) pe_int)) pe_int) (pv 2)))))), ?_⟩
    walk_at "st"
    exact k
theorem sc__law_counts : FnScope ["cell", "many", "top", "counts", "k"] ["cell", "many"] (defScope s__law_counts) := ⟨rfl, rfl, rfl, by decide +kernel, rfl, by decide +kernel, by decide +kernel⟩
def sp__law_counts (_ : PySem.W.Frag) (_ : Zs) : Sp := fun vs H Q _ => ∃ (cell many : Int), vs = [.int cell, .int many] ∧ 1 ≤ many ∧ many ≤ 100 ∧ ∀ p H', H p = none → Ex H H' → H' p = some (.lst (iL (lawCounts cell many))) → Q (.ref p) H'
theorem c__law_counts {f : Addr} {fd : FuncData} (F : Fun K "_law_counts" "_law_counts" s__law_counts f fd) (hm : mg "_law_counts" = some (.ref f)) (T : Txt K mg Z) (c__law_draw : Cal P w K mg base 1 "_law_draw" (sp__law_draw K Z) [])  : Cal P w K mg base 2 "_law_counts" (sp__law_counts K Z) [] := by
  refine cal_of F hm (F.binds (ps := ["cell", "many"]) (fun _ _ _ _ _ _ us hl => match us, hl with | [_, _], _ => rfl)) sc__law_counts (fun vs H Q E h => ?_) (fun cdv A outer s H vs Q E hr h => ?_)
  · obtain ⟨cell, many, rfl, h1, h2, k⟩ := h
    rfl
  · obtain ⟨cell, many, rfl, h1, h2, k⟩ := h
    refine ⟨_, (pss_cons (ps_set (i := 2) sc__law_counts.nd rfl (Or.inr rfl) (pe_ix (n_ixL (K := K) rfl) (pe_lst (pa_cons pe_int (pa_cons pe_int (pa_cons pe_int (pa_cons pe_int pa_nil))))) (pe_op op_mod (pv 0) pe_int) (fun _ _ => rfl)))
      (pss_cons (ps_setLc (i := 3) (own := [("k", 4)]) (g := gName 4) (tt := tYes) rfl sc__law_counts.nd rfl rfl (sw_true rfl rfl rfl (by decide +kernel)) (pi_range1 rfl T.b_range (pa_cons (pv 1) pa_nil)) (blkOk_by (own := [("k", 4)]) (N := ["cell", "many", "top", "counts", "k"]) (sc := defScope s__law_counts) (by decide +kernel)) (fun _ _ _ _ _ => pg_name (i := 4) sc__law_counts.nd rfl (Or.inl rfl)) (fun _ _ _ _ _ => pts_nil) (fun _ _ _ _ _ => (pe_c c__law_draw hr (by decide) rfl (pa_cons (pe_op op_fdiv (pv 0) pe_int) (pa_cons (pv 4) (pa_cons (pv 2) pa_nil))))))
      (pss_cons (ps_if (pt_cmpR op_eq (pe_callB (n_sum (K := K) rfl rfl) (by rfl) T.b_sum (by decide +kernel) (pa_cons (pv 3) pa_nil)) pe_int (nomark _)) (pss_one (ps_asg pe_int (pg_sub (pv 3) (pe_op op_mod (pe_op op_fdiv (pv 0) pe_int) (pv 1)) set_list))) pss_nil)
      (pss_one (ps_ret (pv 3)))))), ?_⟩
    walk_at "st"
    refine w_newL (by decide) fun p0 H1 np0 e1 hp0 => ?_
    walk_at "st"
    have ht : atI [V.int 2, V.int 10, V.int 1000, V.int 4] (cell % 4) = some (.int (topOf cell)) := by
      unfold topOf
      have a0 : 0 ≤ cell % 4 := Int.emod_nonneg _ (by decide)
      have a1 : cell % 4 < 4 := Int.emod_lt_of_pos _ (by decide)
      have : cell % 4 = 0 ∨ cell % 4 = 1 ∨ cell % 4 = 2 ∨ cell % 4 = 3 := by omega
      rcases this with e | e | e | e <;> rw [e] <;> rfl
    refine w_ixL (SqL.of hp0) ht ?_
    walk_at "st"
    have tp := topOf_pos cell
    refine w_lcR (fun i => .int (draw (cell / 4) (i : Int) (topOf cell))) (by omega) (fun _ => rfl) (fun i H2 e2 hi => to_ev fun H3 e3 QQ qq => ?_) fun p1 H2 np1 e2 hp1 => ?_
    · walk_at "st"
      exact ⟨cell / 4, i, topOf cell, rfl, by omega, by omega, by omega, qq _ (Evl.Ex.refl _)⟩
    have e5 : (List.range many.toNat).map (fun (i : Nat) => V.int (draw (cell / 4) (i : Int) (topOf cell))) = iL (counts0 cell many) := by
      show _ = ((List.range many.toNat).map fun (k : Nat) => draw (cell / 4) (k : Int) (topOf cell)).map V.int
      rw [List.map_map]
      rfl
    rw [e5] at hp1
    walk_at "st"
    have np1' : H p1 = none := dn_n e1 np1
    walk_at "both" <;> intro hc
    · walk_at "st"
      have hk : (cell / 4 % many).toNat < (counts0 cell many).length := by
        rw [counts0_len]
        have := Int.emod_nonneg (cell / 4) (show many ≠ 0 by omega)
        have := Int.emod_lt_of_pos (cell / 4) (show 0 < many by omega)
        omega
      refine w_setL (k := (cell / 4 % many).toNat) hp1 (by have := Int.emod_nonneg (cell / 4) (show many ≠ 0 by omega); omega) (by rw [List.length_map]; exact hk) ?_
      walk_at "st"
      refine k _ _ np1' (Evl.Ex.mut (e1.trans e2) np1') ?_
      rw [upd_same]
      have e6 : lawCounts cell many = (counts0 cell many).set (cell / 4 % many).toNat 1 := if_pos hc
      rw [e6]
      show some (HO.lst _) = some (HO.lst (((counts0 cell many).set (cell / 4 % many).toNat 1).map V.int))
      rw [List.map_set]
    · walk_at "st"
      refine k _ _ np1' (e1.trans e2) ?_
      have e6 : lawCounts cell many = counts0 cell many := if_neg hc
      rw [e6]
      exact hp1
theorem sc__law_held : FnScope ["counts", "k"] ["counts"] (defScope s__law_held) := ⟨rfl, rfl, rfl, by decide +kernel, rfl, by decide +kernel, by decide +kernel⟩
def sp__law_held (K : PySem.W.Frag) (_ : Zs) : Sp := fun vs H Q _ => ∃ (a : Addr) (ns : List Int), vs = [.ref a] ∧ SqL K H a (iL ns) ∧ ns.length ≤ 100 ∧ ∀ p H', H p = none → Ex H H' → H' p = some (.lst (iL (held ns))) → Q (.ref p) H'
theorem c__law_held {f : Addr} {fd : FuncData} (F : Fun K "_law_held" "_law_held" s__law_held f fd) (hm : mg "_law_held" = some (.ref f)) (T : Txt K mg Z)   : Cal P w K mg base 1 "_law_held" (sp__law_held K Z) [] := by
  refine cal_of F hm (F.binds (ps := ["counts"]) (fun _ _ _ _ _ _ us hl => match us, hl with | [_], _ => rfl)) sc__law_held (fun vs H Q E h => ?_) (fun cdv A outer s H vs Q E hr h => ?_)
  · obtain ⟨a, ns, rfl, hS, hl, k⟩ := h
    rfl
  · obtain ⟨a, ns, rfl, hS, hl, k⟩ := h
    refine ⟨_, (pss_one (ps_ret (pe_lc (own := [("k", 1)]) (g := gName 1) rfl sc__law_held.nd (pi_range1 rfl T.b_range (pa_cons (pe_callB (n_len (K := K) rfl) (by rfl) T.b_len (by decide +kernel) (pa_cons (pv 0) pa_nil)) pa_nil)) (blkOk_by (own := [("k", 1)]) (N := ["counts", "k"]) (sc := defScope s__law_held) (by decide +kernel)) (fun _ _ _ _ _ => pg_name (i := 1) sc__law_held.nd rfl (Or.inl rfl)) (fun _ _ _ _ _ => (pts_one (pt_cmpR op_gt (pe_ix (n_ixL (K := K) rfl) (pv 0) (pv 1) (fun _ _ => rfl)) pe_int (nomark _)))) (fun _ _ _ _ _ => (pv 1))))), ?_⟩
    walk_at "st"
    refine w_lcF (fun i => decide (0 < ns.getD i 0)) (fun i => .int (i : Int)) (by omega) (fun _ => rfl) (fun i H2 e2 hi => to_evT fun H3 e3 QQ qq => ?_) (fun i H2 e2 hi hf => to_ev fun H3 e3 QQ qq => ?_) fun p1 H2 np1 e2 hp1 => ?_
    · walk_at "st"
      refine w_ixD (up_l e3 (up_l e2 hS)) (by omega) (by omega) ?_
      walk_at "st"
      exact qq _ (Evl.Ex.refl _)
    · walk_at "st"
      exact qq _ (Evl.Ex.refl _)
    · refine k _ _ np1 e2 ?_
      rw [hp1, Int.toNat_natCast]
      show some (HO.lst (((List.range ns.length).filter _).map _)) = some (HO.lst ((((List.range ns.length).filter _).map _).map V.int))
      rw [List.map_map]
      rfl
theorem sc__law_put : FnScope ["pile", "counts", "sign", "ahead", "count", "parts"] ["pile", "counts", "sign"] (defScope s__law_put) := ⟨rfl, rfl, rfl, by decide +kernel, rfl, by decide +kernel, by decide +kernel⟩
def sp__law_put (K : PySem.W.Frag) (_ : Zs) : Sp := fun vs H Q _ => ∃ (p : Int) (a : Addr) (ns : List Int) (s : Int), vs = [.int p, .ref a, .int s] ∧ SqL K H a (iL ns) ∧ Good ns ∧ Sign ns s ∧ ∀ H', Ex H H' → Q (.int (put p ns s)) H'
theorem c__law_put {f : Addr} {fd : FuncData} (F : Fun K "_law_put" "_law_put" s__law_put f fd) (hm : mg "_law_put" = some (.ref f)) (T : Txt K mg Z)   : Cal P w K mg base 1 "_law_put" (sp__law_put K Z) [] := by
  refine cal_of F hm (F.binds (ps := ["pile", "counts", "sign"]) (fun _ _ _ _ _ _ us hl => match us, hl with | [_, _, _], _ => rfl)) sc__law_put (fun vs H Q E h => ?_) (fun cdv A outer s H vs Q E hr h => ?_)
  · obtain ⟨p, a, ns, s0, rfl, hS, g, x, k⟩ := h
    rfl
  · obtain ⟨p, a, ns, s0, rfl, hS, g, x, k⟩ := h
    refine ⟨_, (pss_cons (ps_set (i := 3) sc__law_put.nd rfl (Or.inl rfl) pe_int)
      (pss_cons (ps_for PassesOwn.never rfl (n_pi (K := K) rfl (pe_slice (n_slL (K := K) rfl) (pv 1) po_none (po_some (pv 2)))) (pg_name (i := 4) sc__law_put.nd rfl (Or.inl rfl)) (pss_one (ps_set (i := 3) sc__law_put.nd rfl (Or.inl rfl) (pe_op op_add (pv 3) (pv 4)))))
      (pss_cons (ps_set (i := 5) sc__law_put.nd rfl (Or.inl rfl) (pe_callB n_divmod (by rfl) T.b_divmod (by decide +kernel) (pa_cons (pv 0) (pa_cons (pe_ix (n_ixL (K := K) rfl) (pv 1) (pv 2) (fun _ _ => rfl)) pa_nil))))
      (pss_one (ps_ret (pe_op op_add (pe_op op_add (pe_op op_mul (pe_ix (n_ixT (K := K) rfl) (pv 5) pe_int (fun _ _ => rfl)) (pe_callB (n_sum (K := K) rfl rfl) (by rfl) T.b_sum (by decide +kernel) (pa_cons (pv 1) pa_nil))) (pv 3)) (pe_ix (n_ixT (K := K) rfl) (pv 5) pe_int (fun _ _ => rfl)))))))), ?_⟩
    have x0 := x.nn
    have x1 := x.lt
    have x2 := x.cp
    have x3 := (cnt_le g x0 x1).2
    have g1 := g.sum
    have g2 := g.sumle
    walk_at "st"
    refine w_slTo hS x0 fun q H1 nq e1 hq => ?_
    walk_at "st"
    have tk : (ns.take s0.toNat).length ≤ s0.toNat := by rw [List.length_take]; omega
    refine w_loopI (ns.take s0.toNat) (fun i σ H' => H' = H1 ∧ ∃ v w, σ = [some (.int p), some (.ref a), some (.int s0), some (.int ((ns.take s0.toNat).take i).sum), v, w]) ⟨rfl, none, none, rfl⟩ (fun i σ H' ⟨e, _⟩ => by rw [e]; exact SqL.of hq) ?_ ?_
    · rintro i n σ H' hn hi ⟨rfl, v, w, rfl⟩
      walk_at "st"
      refine ⟨rfl, some (.int n), w, ?_⟩
      rw [sum_take1 hn]
      rfl
    · rintro σ H' ⟨rfl, v, w, rfl⟩
      rw [List.take_length]
      walk_at "st"
      refine w_ixI (up_l e1 hS) (k := s0.toNat) (by omega) (cnt_at x0 x1) ?_
      walk_at "st"
      refine w_divmod ⟨x2, by omega⟩ fun q2 H2 nq2 e2 hq2 => ?_
      walk_at "st"
      exact k _ (e1.trans e2)
theorem sc__law_pile : FnScope ["cell"] ["cell"] (defScope s__law_pile) := ⟨rfl, rfl, rfl, by decide +kernel, rfl, by decide +kernel, by decide +kernel⟩
def sp__law_pile (_ : PySem.W.Frag) (_ : Zs) : Sp := fun vs H Q _ => ∃ (c : Int), vs = [.int c] ∧ Q (.int (lawPile c)) H
theorem c__law_pile {f : Addr} {fd : FuncData} (F : Fun K "_law_pile" "_law_pile" s__law_pile f fd) (hm : mg "_law_pile" = some (.ref f)) (T : Txt K mg Z)   : Cal P w K mg base 1 "_law_pile" (sp__law_pile K Z) [] := by
  refine cal_of F hm (F.binds (ps := ["cell"]) (fun _ _ _ _ _ _ us hl => match us, hl with | [_], _ => rfl)) sc__law_pile (fun vs H Q E h => ?_) (fun cdv A outer s H vs Q E hr h => ?_)
  · obtain ⟨c, rfl, k⟩ := h
    rfl
  · obtain ⟨c, rfl, k⟩ := h
    refine ⟨_, (pss_cons (ps_if (pt_cmpR op_eq (pe_op op_mod (pv 0) pe_int) pe_int (nomark _)) (pss_one (ps_ret (pe_op op_mod (pe_op op_fdiv (pv 0) pe_int) pe_int))) pss_nil)
      (pss_one (ps_ret (pe_op op_mod (pe_op op_fdiv (pv 0) pe_int) (pe_op op_pow pe_int pe_int))))), ?_⟩
    have e (h : c % 4 = 1) : lawPile c = c / 4 % 30 := if_pos h
    have e' (h : ¬ c % 4 = 1) : lawPile c = c / 4 % 10 ^ 60 := if_neg h
    walk_at "st"
    walk_at "both" <;> intro hc
    · walk_at "st"
      rw [e hc] at k
      exact k
    · walk_at "st"
      rw [e' hc] at k
      exact k
theorem sc__law_numbers : FnScope ["found", "due", "x"] ["found", "due"] (defScope s__law_numbers) := ⟨rfl, rfl, rfl, by decide +kernel, rfl, by decide +kernel, by decide +kernel⟩
def sp__law_numbers (K : PySem.W.Frag) (_ : Zs) : Sp := fun vs H Q _ => ∃ (a b : Addr) (ns : List Int), vs = [.ref a, .ref b] ∧ H a = some (.lst (iL ns)) ∧ SqL K H b (iL ns) ∧ Q (.bl true) H
theorem c__law_numbers {f : Addr} {fd : FuncData} (F : Fun K "_law_numbers" "_law_numbers" s__law_numbers f fd) (hm : mg "_law_numbers" = some (.ref f)) (T : Txt K mg Z) (c__law_whole : Cal P w K mg base 1 "_law_whole" (sp__law_whole K Z) [])  : Cal P w K mg base 2 "_law_numbers" (sp__law_numbers K Z) [] := by
  refine cal_of F hm (F.binds (ps := ["found", "due"]) (fun _ _ _ _ _ _ us hl => match us, hl with | [_, _], _ => rfl)) sc__law_numbers (fun vs H Q E h => ?_) (fun cdv A outer s H vs Q E hr h => ?_)
  · obtain ⟨a, b, ns, rfl, ha, hb, k⟩ := h
    rfl
  · obtain ⟨a, b, ns, rfl, ha, hb, k⟩ := h
    refine ⟨_, (pss_cons (ps_if (PW.pt (pw_or (pt_not (pt_val (pe_callB (n_isi (K := K) rfl) (by rfl) T.b_isinstance (by decide +kernel) (pa_cons (pv 0) (pa_cons (pe_bltn (v := .ty "list") (u := .type "list") (by rfl) T.b_list (by decide +kernel) rfl) pa_nil))))) (pw_or1 (pt_cmpR op_ne (pe_callB (n_len (K := K) rfl) (by rfl) T.b_len (by decide +kernel) (pa_cons (pv 0) pa_nil)) (pe_callB (n_len (K := K) rfl) (by rfl) T.b_len (by decide +kernel) (pa_cons (pv 1) pa_nil)) (nomark _))))) (pss_one (ps_ret pe_bl)) pss_nil)
      (pss_cons (ps_for PassesOwn.never rfl (n_pi (K := K) rfl (pv 0)) (pg_name (i := 2) sc__law_numbers.nd rfl (Or.inl rfl)) (pss_one (ps_if (pt_not (pt_val (pe_c c__law_whole hr (by decide) rfl (pa_cons (pv 2) pa_nil)))) (pss_one (ps_ret pe_bl)) pss_nil)))
      (pss_one (ps_ret (pe_cmpR (n_eqD (K := K) rfl hr.units) (pv 0) (pv 1) (nomark _)))))), ?_⟩
    walk_at "st"
    refine w_loopI ns (fun i σ H' => H' = H ∧ ∃ v, σ = [some (.ref a), some (.ref b), v]) ⟨rfl, _, rfl⟩ (fun i σ H' ⟨e, _⟩ => by rw [e]; exact SqL.of ha) ?_ ?_
    · rintro i s σ H' hn hi ⟨rfl, v, rfl⟩
      walk_at "st"
      exact ⟨rfl, _, rfl⟩
    rintro σ H' ⟨rfl, v, rfl⟩
    walk_at "st"
    refine w_eqL (SqL.of ha) hb (dT rfl ?_)
    exact k
theorem sc__law_row_pair : FnScope ["found", "row", "pile"] ["found", "row", "pile"] (defScope s__law_row_pair) := ⟨rfl, rfl, rfl, by decide +kernel, rfl, by decide +kernel, by decide +kernel⟩
def sp__law_row_pair (K : PySem.W.Frag) (_ : Zs) : Sp := fun vs H Q _ => ∃ (a l b : Addr) (ns : List Int) (p : Int), vs = [.ref a, .ref b, .int p] ∧ H a = some (.tup [.ref l, .int p]) ∧ H l = some (.lst (iL ns)) ∧ SqL K H b (iL ns) ∧ Q (.bl true) H
theorem c__law_row_pair {f : Addr} {fd : FuncData} (F : Fun K "_law_row_pair" "_law_row_pair" s__law_row_pair f fd) (hm : mg "_law_row_pair" = some (.ref f)) (T : Txt K mg Z) (c__law_numbers : Cal P w K mg base 2 "_law_numbers" (sp__law_numbers K Z) []) (c__law_whole : Cal P w K mg base 1 "_law_whole" (sp__law_whole K Z) [])  : Cal P w K mg base 3 "_law_row_pair" (sp__law_row_pair K Z) [] := by
  refine cal_of F hm (F.binds (ps := ["found", "row", "pile"]) (fun _ _ _ _ _ _ us hl => match us, hl with | [_, _, _], _ => rfl)) sc__law_row_pair (fun vs H Q E h => ?_) (fun cdv A outer s H vs Q E hr h => ?_)
  · obtain ⟨a, l, b, ns, p, rfl, ha, hl, hb, k⟩ := h
    rfl
  · obtain ⟨a, l, b, ns, p, rfl, ha, hl, hb, k⟩ := h
    refine ⟨_, (pss_cons (ps_if (PW.pt (pw_or (pt_not (pt_val (pe_callB (n_isi (K := K) rfl) (by rfl) T.b_isinstance (by decide +kernel) (pa_cons (pv 0) (pa_cons (pe_bltn (v := .ty "tuple") (u := .type "tuple") (by rfl) T.b_tuple (by decide +kernel) rfl) pa_nil))))) (pw_or (pt_cmpR op_ne (pe_callB (n_len (K := K) rfl) (by rfl) T.b_len (by decide +kernel) (pa_cons (pv 0) pa_nil)) pe_int (nomark _)) (pw_or1 (pt_not (pt_val (pe_c c__law_numbers hr (by decide) rfl (pa_cons (pe_ix (n_ixT (K := K) rfl) (pv 0) pe_int (fun _ _ => rfl)) (pa_cons (pv 1) pa_nil))))))))) (pss_one (ps_ret pe_bl)) pss_nil)
      (pss_one (ps_ret (pe_and (pe_c c__law_whole hr (by decide) rfl (pa_cons (pe_ix (n_ixT (K := K) rfl) (pv 0) pe_int (fun _ _ => rfl)) pa_nil)) (pe_one (pe_cmpR op_eq (pe_ix (n_ixT (K := K) rfl) (pv 0) pe_int (fun _ _ => rfl)) (pv 2) (nomark _))))))), ?_⟩
    walk_at "st"
    refine ⟨l, b, ns, rfl, hl, hb, ?_⟩
    walk_at "st"
    refine dT rfl ?_
    exact k
theorem sc_law : FnScope ["script", "cell", "size", "counts", "held", "row", "pile", "due", "sign", "handed", "found", "k"] ["script"] (defScope s_law) := ⟨rfl, rfl, rfl, by decide +kernel, rfl, by decide +kernel, by decide +kernel⟩
def sp_law (K : PySem.W.Frag) : Sp := fun vs H Q _ => ∃ (a : Addr) (ns : List Int), vs = [.ref a] ∧ SqL K H a (iL ns) ∧ ns.length ≤ 63 ∧ ∀ H', Q (.bl true) H'
theorem f_law {f : Addr} {fd : FuncData} (F : Fun K "law" "law" s_law f fd) (T : Txt K mg Z) (c__law_cell_at : Cal P w K mg base 1 "_law_cell_at" (sp__law_cell_at K Z) []) (c__law_counts : Cal P w K mg base 2 "_law_counts" (sp__law_counts K Z) []) (c__law_held : Cal P w K mg base 1 "_law_held" (sp__law_held K Z) []) (c__law_draw : Cal P w K mg base 1 "_law_draw" (sp__law_draw K Z) []) (c__law_pile : Cal P w K mg base 1 "_law_pile" (sp__law_pile K Z) []) (c__law_put : Cal P w K mg base 1 "_law_put" (sp__law_put K Z) []) (c_lay_row : Cal P w K mg base 2 "lay_row" (sp_lay_row K Z) []) (c__law_whole : Cal P w K mg base 1 "_law_whole" (sp__law_whole K Z) []) (c__law_row_pair : Cal P w K mg base 3 "_law_row_pair" (sp__law_row_pair K Z) []) (c_take_row : Cal P w K mg base 3 "take_row" (sp_take_row K Z) [])  : FnOk P w K mg base CX0 4 f fd ["script"] (sp_law K) := by
  refine F.ok sc_law (fun vs H Q E h => ?_) (fun cdv A outer s H vs Q E hr h => ?_)
  · obtain ⟨a, ns, rfl, hS, hl, k⟩ := h
    rfl
  · obtain ⟨a, ns, rfl, hS, hl, k⟩ := h
    refine ⟨_, (pss_cons (ps_set (i := 1) sc_law.nd rfl (Or.inl rfl) (pe_c c__law_cell_at hr (by decide) rfl (pa_cons (pv 0) (pa_cons pe_int pa_nil))))
      (pss_cons (ps_set (i := 2) sc_law.nd rfl (Or.inl rfl) (pe_op op_mod (pe_c c__law_cell_at hr (by decide) rfl (pa_cons (pv 0) (pa_cons pe_int pa_nil))) pe_int))
      (Evl.pss_cut (ps_if (pt_cmpR op_eq (pe_op op_mod (pe_op op_fdiv (pe_c c__law_cell_at hr (by decide) rfl (pa_cons (pv 0) (pa_cons pe_int pa_nil))) pe_int) pe_int) pe_int (nomark _)) (pss_cons (ps_set (i := 2) sc_law.nd rfl (Or.inl rfl) pe_int)
      (pss_one (ps_set (i := 1) sc_law.nd rfl (Or.inl rfl) (pe_op op_add (pe_op op_mul (pe_op op_fdiv (pv 1) pe_int) pe_int) pe_int)))) pss_nil)
      (pss_cons (ps_set (i := 3) sc_law.nd rfl (Or.inl rfl) (pe_c c__law_counts hr (by decide) rfl (pa_cons (pv 1) (pa_cons (pe_op op_add pe_int (pe_op op_mod (pe_c c__law_cell_at hr (by decide) rfl (pa_cons (pv 0) (pa_cons pe_int pa_nil))) pe_int)) pa_nil))))
      (pss_cons (ps_set (i := 4) sc_law.nd rfl (Or.inr rfl) (pe_c c__law_held hr (by decide) rfl (pa_cons (pv 3) pa_nil)))
      (pss_cons (ps_setLc (i := 5) (own := [("k", 11)]) (g := gName 11) (tt := tYes) rfl sc_law.nd rfl rfl (sw_true rfl rfl rfl (by decide +kernel)) (pi_range1 rfl T.b_range (pa_cons (pv 2) pa_nil)) (blkOk_by (own := [("k", 11)]) (N := ["script", "cell", "size", "counts", "held", "row", "pile", "due", "sign", "handed", "found", "k"]) (sc := defScope s_law) (by decide +kernel)) (fun _ _ _ _ _ => pg_name (i := 11) sc_law.nd rfl (Or.inl rfl)) (fun _ _ _ _ _ => pts_nil) (fun _ _ _ _ _ => (pe_ix (n_ixL (K := K) rfl) (pv 4) (pe_c c__law_draw hr (by decide) rfl (pa_cons (pe_c c__law_cell_at hr (by decide) rfl (pa_cons (pv 0) (pa_cons pe_int pa_nil))) (pa_cons (pv 11) (pa_cons (pe_callB (n_len (K := K) rfl) (by rfl) T.b_len (by decide +kernel) (pa_cons (pv 4) pa_nil)) pa_nil)))) (fun _ _ => rfl))))
      (pss_cons (ps_set (i := 6) sc_law.nd rfl (Or.inl rfl) (pe_c c__law_pile hr (by decide) rfl (pa_cons (pe_c c__law_cell_at hr (by decide) rfl (pa_cons (pv 0) (pa_cons pe_int pa_nil))) pa_nil)))
      (pss_cons (ps_set (i := 7) sc_law.nd rfl (Or.inl rfl) (pv 6))
      (pss_cons (ps_for PassesOwn.never rfl (n_pirev (K := K) rfl (by rfl) T.b_reversed (pa_cons (pv 5) pa_nil)) (pg_name (i := 8) sc_law.nd rfl (Or.inl rfl)) (pss_one (ps_set (i := 7) sc_law.nd rfl (Or.inl rfl) (pe_c c__law_put hr (by decide) rfl (pa_cons (pv 7) (pa_cons (pv 3) (pa_cons (pv 8) pa_nil)))))))
      (pss_cons (ps_set (i := 9) sc_law.nd rfl (Or.inl rfl) (pe_callTy (n_list (K := K) rfl) (by rfl) T.b_list (by decide +kernel) (pa_cons (pv 5) pa_nil)))
      (pss_cons (ps_set (i := 10) sc_law.nd rfl (Or.inl rfl) (pe_c c_lay_row hr (by decide) rfl (pa_cons (pv 6) (pa_cons (pe_callTy (n_list (K := K) rfl) (by rfl) T.b_list (by decide +kernel) (pa_cons (pv 3) pa_nil)) (pa_cons (pv 9) pa_nil)))))
      (pss_cons (ps_if (PW.pt (pw_or (pt_not (pt_val (pe_c c__law_whole hr (by decide) rfl (pa_cons (pv 10) pa_nil)))) (pw_or (pt_cmpR op_ne (pv 10) (pv 7) (nomark _)) (pw_or1 (pt_cmpR (n_neD (K := K) rfl hr.units) (pv 9) (pv 5) (nomark _)))))) (pss_one (ps_ret pe_bl)) pss_nil)
      (pss_one (ps_ret (pe_c c__law_row_pair hr (by decide) rfl (pa_cons (pe_c c_take_row hr (by decide) rfl (pa_cons (pv 10) (pa_cons (pe_callTy (n_list (K := K) rfl) (by rfl) T.b_list (by decide +kernel) (pa_cons (pv 3) pa_nil)) (pa_cons (pv 2) pa_nil)))) (pa_cons (pv 5) (pa_cons (pv 6) pa_nil)))))))))))))))))), ?_⟩
    have b0 := Int.emod_nonneg (cell ns 2) (show (8 : Int) ≠ 0 by decide)
    have b1 := Int.emod_lt_of_pos (cell ns 2) (show (0 : Int) < 8 by decide)
    have b2 := Int.emod_nonneg (cell ns 1) (show (13 : Int) ≠ 0 by decide)
    have b3 := Int.emod_lt_of_pos (cell ns 1) (show (0 : Int) < 13 by decide)
    walk_at "st"
    refine w_cut (fun σ H' => H' = H ∧ ∃ (c : Int) (size : Nat), size ≤ 200 ∧ σ = [some (.ref a), some (.int c), some (.int (size : Int)), none, none, none, none, none, none, none, none, none]) ?_ ?_
    · walk_at "st"
      walk_at "both" <;> intro hc
      · walk_at "st"
        exact ⟨rfl, _, 200, by omega, rfl⟩
      · walk_at "st"
        refine ⟨rfl, cell ns 0, (cell ns 1 % 13).toNat, by omega, ?_⟩
        rw [Int.toNat_of_nonneg b2]
        rfl
    rintro σ H' ⟨rfl, c, size, hs, rfl⟩
    walk_at "st"
    refine ⟨_, _, rfl, by omega, by omega, fun p1 H1 np1 e1 hp1 => ?_⟩
    have g := good_counts (cell := c) (many := 1 + cell ns 2 % 8) (by omega) (by omega)
    generalize lawCounts c (1 + cell ns 2 % 8) = cs at g hp1
    walk_at "st"
    refine ⟨p1, cs, rfl, SqL.of hp1, g.len, fun p2 H2 np2 e2 hp2 => ?_⟩
    have a1 := e2 _ _ hp1
    have hp := held_pos g
    have hq := held_len cs
    have gl := g.len
    walk_at "st"
    refine w_lcR (fun i => .int ((held cs).getD (draw (cell ns 3) (i : Int) ((held cs).length : Int)).toNat 0)) (by omega) (fun _ => rfl) (fun i H3 e3 hi => to_ev fun H4 e4 QQ qq => ?_) fun p3 H3 np3 e3 hp3 => ?_
    · walk_at "st"
      refine ⟨_, i, _, rfl, by omega, by omega, by omega, ?_⟩
      have d0 := draw_nn (cell := cell ns 3) (k := i) (bound := ((held cs).length : Int)) (by omega)
      have d1 := draw_lt (cell := cell ns 3) (k := i) (bound := ((held cs).length : Int)) (by omega)
      refine w_ixD (up_l e4 (up_l e3 (SqL.of hp2))) d0 d1 ?_
      exact qq _ (Evl.Ex.refl _)
    obtain ⟨row, er, el, ex⟩ : ∃ row : List Int, (List.range (size : Int).toNat).map (fun (i : Nat) => V.int ((held cs).getD (draw (cell ns 3) (i : Int) ((held cs).length : Int)).toNat 0)) = iL row ∧ row.length = size ∧ ∀ s ∈ row, Sign cs s := by
      refine ⟨(List.range size).map fun (i : Nat) => (held cs).getD (draw (cell ns 3) (i : Int) ((held cs).length : Int)).toNat 0, ?_, by simp, fun s hs => ?_⟩
      · show _ = ((List.range size).map _).map V.int
        rw [List.map_map, Int.toNat_natCast]
        rfl
      · obtain ⟨i, _, rfl⟩ := List.mem_map.mp hs
        have d0 := draw_nn (cell := cell ns 3) (k := i) (bound := ((held cs).length : Int)) (by omega)
        have d1 := draw_lt (cell := cell ns 3) (k := i) (bound := ((held cs).length : Int)) (by omega)
        exact mem_held.mp (at_mem (by omega))
    rw [er] at hp3
    have a1 := e3 _ _ a1
    walk_at "st"
    refine ⟨_, rfl, ?_⟩
    have pn := lawPile_nn (cell ns 4)
    generalize lawPile (cell ns 4) = p at pn
    walk_at "st"
    refine w_loopV row (by rw [List.length_map]) (fun i σ H' => Ex H3 H' ∧ ∃ v, σ = [some (.ref a), some (.int c), some (.int (size : Int)), some (.ref p1), some (.ref p2), some (.ref p3), some (.int p), some (.int (layRow p cs (row.drop (row.length - i)))), v, none, none, none]) ⟨Evl.Ex.refl _, none, ?_⟩ (fun i σ H1 ⟨e, _⟩ => up_l e (SqL.of hp3)) ?_ ?_
    · rw [Nat.sub_zero, List.drop_length]
      rfl
    · rintro i s σ H4 hn hi ⟨e4, v, rfl⟩
      have e2 := layRow_drop (p := p) (ns := cs) hn
      have e3 : row.length - 1 - i + 1 = row.length - i := by omega
      have e5 : row.length - 1 - i = row.length - (i + 1) := by omega
      rw [e3, e5] at e2
      walk_at "st"
      refine ⟨_, p1, cs, s, rfl, up_l e4 (SqL.of a1), g, ex s (List.mem_of_getElem? hn), fun H5 e6 => ?_⟩
      walk_at "st"
      refine ⟨e4.trans e6, some (.int s), ?_⟩
      rw [e2]
      rfl
    rintro σ H4 ⟨e4, v, rfl⟩
    have e5 : row.drop (row.length - row.length) = row := by rw [Nat.sub_self, List.drop_zero]
    rw [e5]
    have a1 := e4 _ _ a1
    have a3 := e4 _ _ hp3
    walk_at "st"
    refine w_list (SqL.of a3) fun p5 H5 np5 e6 hp5 => ?_
    have a1 := e6 _ _ a1
    have a3 := e6 _ _ a3
    walk_at "st"
    refine w_list (SqL.of a1) fun p6 H6 np6 e7 hp6 => ?_
    have a1 := e7 _ _ a1
    have a3 := e7 _ _ a3
    have a5 := e7 _ _ hp5
    walk_at "st"
    refine ⟨p, p6, p5, cs, row, rfl, SqL.of hp6, SqL.of a5, g, ex, pn, fun H7 e8 => ?_⟩
    have a1 := e8 _ _ a1
    have a3 := e8 _ _ a3
    have a5 := e8 _ _ a5
    walk_at "st"
    refine w_neL (SqL.of a5) (SqL.of a3) (w_kB (w_noN rfl ?_))
    walk_at "st"
    refine w_list (SqL.of a1) fun p8 H8 np8 e9 hp8 => ?_
    have a3 := e9 _ _ a3
    walk_at "st"
    obtain ⟨r1, r2⟩ := row_back (p := p) g ex
    rw [el] at r1 r2
    refine ⟨_, p8, cs, size, rfl, SqL.of hp8, g, layRow_nn g pn ex, by omega, fun q l H9 nq nl e10 hq9 hl9 => ?_⟩
    rw [r1] at hl9
    rw [r2] at hq9
    have a3 := e10 _ _ a3
    walk_at "st"
    exact ⟨q, l, p3, row, p, rfl, hq9, hl9, SqL.of a3, k _⟩
end
theorem all_mk {l : PySem.W.OpenLaw} {w : World} {K : PySem.W.Frag} {h : Heap} {mg : Str → Option Value} {fa f0 f1 f2 f3 f4 f5 f6 f7 f8 f9 f10 f11 f12 f13 f14 f15 f16 f17 : Addr} (X : K.In h) (G : h.Ns mainGlobals mg) (hfa : mg "law" = some (.ref fa))
    {od0 an0 od1 an1 od2 an2 od3 an3 od4 an4 od5 an5 od6 an6 od7 an7 od8 an8 od9 an9 od10 an10 od11 an11 od12 an12 od13 an13 od14 an14 od15 an15 od16 an16 od17 an17 : Option Addr} {sl0 sl1 sl2 sl3 sl4 sl5 sl6 sl7 sl8 sl9 sl10 sl11 sl12 sl13 sl14 sl15 sl16 sl17 : Array (Option Value)} {oc0 kV0 dc0 pm0 cd0 ct0 oc1 kV1 dc1 pm1 cd1 ct1 oc2 kV2 dc2 pm2 cd2 ct2 oc3 kV3 dc3 pm3 cd3 ct3 oc4 kV4 dc4 pm4 cd4 ct4 oc5 kV5 dc5 pm5 cd5 ct5 oc6 kV6 dc6 pm6 cd6 ct6 oc7 kV7 dc7 pm7 cd7 ct7 oc8 kV8 dc8 pm8 cd8 ct8 oc9 kV9 dc9 pm9 cd9 ct9 oc10 kV10 dc10 pm10 cd10 ct10 oc11 kV11 dc11 pm11 cd11 ct11 oc12 kV12 dc12 pm12 cd12 ct12 oc13 kV13 dc13 pm13 cd13 ct13 oc14 kV14 dc14 pm14 cd14 ct14 oc15 kV15 dc15 pm15 cd15 ct15 oc16 kV16 dc16 pm16 cd16 ct16 oc17 kV17 dc17 pm17 cd17 ct17 : Value}
    (a0 : PySem.W.nsIn K mainGlobals "ask_counts" = some (some (.ref f0)))
    (l0 : K.lookup f0 = some ⟨oc0, od0, .func (PySem.W.fnOf "ask_counts" "ask_counts" (defArgs s_ask_counts) (defBody s_ask_counts) (defScope s_ask_counts) .none kV0 dc0 pm0 an0 cd0 ct0), sl0⟩)
    (c0 : PySem.W.codeIn K cd0 "ask_counts" = true)
    (k0 : PySem.W.keepIn K (.ref f0) = true)
    (a1 : PySem.W.nsIn K mainGlobals "holder" = some (some (.ref f1)))
    (l1 : K.lookup f1 = some ⟨oc1, od1, .func (PySem.W.fnOf "holder" "holder" (defArgs s_holder) (defBody s_holder) (defScope s_holder) .none kV1 dc1 pm1 an1 cd1 ct1), sl1⟩)
    (c1 : PySem.W.codeIn K cd1 "holder" = true)
    (k1 : PySem.W.keepIn K (.ref f1) = true)
    (a2 : PySem.W.nsIn K mainGlobals "ask_pile" = some (some (.ref f2)))
    (l2 : K.lookup f2 = some ⟨oc2, od2, .func (PySem.W.fnOf "ask_pile" "ask_pile" (defArgs s_ask_pile) (defBody s_ask_pile) (defScope s_ask_pile) .none kV2 dc2 pm2 an2 cd2 ct2), sl2⟩)
    (c2 : PySem.W.codeIn K cd2 "ask_pile" = true)
    (k2 : PySem.W.keepIn K (.ref f2) = true)
    (a3 : PySem.W.nsIn K mainGlobals "ask_sign" = some (some (.ref f3)))
    (l3 : K.lookup f3 = some ⟨oc3, od3, .func (PySem.W.fnOf "ask_sign" "ask_sign" (defArgs s_ask_sign) (defBody s_ask_sign) (defScope s_ask_sign) .none kV3 dc3 pm3 an3 cd3 ct3), sl3⟩)
    (c3 : PySem.W.codeIn K cd3 "ask_sign" = true)
    (k3 : PySem.W.keepIn K (.ref f3) = true)
    (a4 : PySem.W.nsIn K mainGlobals "put_on" = some (some (.ref f4)))
    (l4 : K.lookup f4 = some ⟨oc4, od4, .func (PySem.W.fnOf "put_on" "put_on" (defArgs s_put_on) (defBody s_put_on) (defScope s_put_on) .none kV4 dc4 pm4 an4 cd4 ct4), sl4⟩)
    (c4 : PySem.W.codeIn K cd4 "put_on" = true)
    (k4 : PySem.W.keepIn K (.ref f4) = true)
    (a5 : PySem.W.nsIn K mainGlobals "taken_off" = some (some (.ref f5)))
    (l5 : K.lookup f5 = some ⟨oc5, od5, .func (PySem.W.fnOf "taken_off" "taken_off" (defArgs s_taken_off) (defBody s_taken_off) (defScope s_taken_off) .none kV5 dc5 pm5 an5 cd5 ct5), sl5⟩)
    (c5 : PySem.W.codeIn K cd5 "taken_off" = true)
    (k5 : PySem.W.keepIn K (.ref f5) = true)
    (a6 : PySem.W.nsIn K mainGlobals "lay_row" = some (some (.ref f6)))
    (l6 : K.lookup f6 = some ⟨oc6, od6, .func (PySem.W.fnOf "lay_row" "lay_row" (defArgs s_lay_row) (defBody s_lay_row) (defScope s_lay_row) .none kV6 dc6 pm6 an6 cd6 ct6), sl6⟩)
    (c6 : PySem.W.codeIn K cd6 "lay_row" = true)
    (k6 : PySem.W.keepIn K (.ref f6) = true)
    (a7 : PySem.W.nsIn K mainGlobals "take_row" = some (some (.ref f7)))
    (l7 : K.lookup f7 = some ⟨oc7, od7, .func (PySem.W.fnOf "take_row" "take_row" (defArgs s_take_row) (defBody s_take_row) (defScope s_take_row) .none kV7 dc7 pm7 an7 cd7 ct7), sl7⟩)
    (c7 : PySem.W.codeIn K cd7 "take_row" = true)
    (k7 : PySem.W.keepIn K (.ref f7) = true)
    (a8 : PySem.W.nsIn K mainGlobals "_law_cell_at" = some (some (.ref f8)))
    (l8 : K.lookup f8 = some ⟨oc8, od8, .func (PySem.W.fnOf "_law_cell_at" "_law_cell_at" (defArgs s__law_cell_at) (defBody s__law_cell_at) (defScope s__law_cell_at) .none kV8 dc8 pm8 an8 cd8 ct8), sl8⟩)
    (c8 : PySem.W.codeIn K cd8 "_law_cell_at" = true)
    (k8 : PySem.W.keepIn K (.ref f8) = true)
    (a9 : PySem.W.nsIn K mainGlobals "_law_whole" = some (some (.ref f9)))
    (l9 : K.lookup f9 = some ⟨oc9, od9, .func (PySem.W.fnOf "_law_whole" "_law_whole" (defArgs s__law_whole) (defBody s__law_whole) (defScope s__law_whole) .none kV9 dc9 pm9 an9 cd9 ct9), sl9⟩)
    (c9 : PySem.W.codeIn K cd9 "_law_whole" = true)
    (k9 : PySem.W.keepIn K (.ref f9) = true)
    (a10 : PySem.W.nsIn K mainGlobals "_law_draw" = some (some (.ref f10)))
    (l10 : K.lookup f10 = some ⟨oc10, od10, .func (PySem.W.fnOf "_law_draw" "_law_draw" (defArgs s__law_draw) (defBody s__law_draw) (defScope s__law_draw) .none kV10 dc10 pm10 an10 cd10 ct10), sl10⟩)
    (c10 : PySem.W.codeIn K cd10 "_law_draw" = true)
    (k10 : PySem.W.keepIn K (.ref f10) = true)
    (a11 : PySem.W.nsIn K mainGlobals "_law_counts" = some (some (.ref f11)))
    (l11 : K.lookup f11 = some ⟨oc11, od11, .func (PySem.W.fnOf "_law_counts" "_law_counts" (defArgs s__law_counts) (defBody s__law_counts) (defScope s__law_counts) .none kV11 dc11 pm11 an11 cd11 ct11), sl11⟩)
    (c11 : PySem.W.codeIn K cd11 "_law_counts" = true)
    (k11 : PySem.W.keepIn K (.ref f11) = true)
    (a12 : PySem.W.nsIn K mainGlobals "_law_held" = some (some (.ref f12)))
    (l12 : K.lookup f12 = some ⟨oc12, od12, .func (PySem.W.fnOf "_law_held" "_law_held" (defArgs s__law_held) (defBody s__law_held) (defScope s__law_held) .none kV12 dc12 pm12 an12 cd12 ct12), sl12⟩)
    (c12 : PySem.W.codeIn K cd12 "_law_held" = true)
    (k12 : PySem.W.keepIn K (.ref f12) = true)
    (a13 : PySem.W.nsIn K mainGlobals "_law_put" = some (some (.ref f13)))
    (l13 : K.lookup f13 = some ⟨oc13, od13, .func (PySem.W.fnOf "_law_put" "_law_put" (defArgs s__law_put) (defBody s__law_put) (defScope s__law_put) .none kV13 dc13 pm13 an13 cd13 ct13), sl13⟩)
    (c13 : PySem.W.codeIn K cd13 "_law_put" = true)
    (k13 : PySem.W.keepIn K (.ref f13) = true)
    (a14 : PySem.W.nsIn K mainGlobals "_law_pile" = some (some (.ref f14)))
    (l14 : K.lookup f14 = some ⟨oc14, od14, .func (PySem.W.fnOf "_law_pile" "_law_pile" (defArgs s__law_pile) (defBody s__law_pile) (defScope s__law_pile) .none kV14 dc14 pm14 an14 cd14 ct14), sl14⟩)
    (c14 : PySem.W.codeIn K cd14 "_law_pile" = true)
    (k14 : PySem.W.keepIn K (.ref f14) = true)
    (a15 : PySem.W.nsIn K mainGlobals "_law_numbers" = some (some (.ref f15)))
    (l15 : K.lookup f15 = some ⟨oc15, od15, .func (PySem.W.fnOf "_law_numbers" "_law_numbers" (defArgs s__law_numbers) (defBody s__law_numbers) (defScope s__law_numbers) .none kV15 dc15 pm15 an15 cd15 ct15), sl15⟩)
    (c15 : PySem.W.codeIn K cd15 "_law_numbers" = true)
    (k15 : PySem.W.keepIn K (.ref f15) = true)
    (a16 : PySem.W.nsIn K mainGlobals "_law_row_pair" = some (some (.ref f16)))
    (l16 : K.lookup f16 = some ⟨oc16, od16, .func (PySem.W.fnOf "_law_row_pair" "_law_row_pair" (defArgs s__law_row_pair) (defBody s__law_row_pair) (defScope s__law_row_pair) .none kV16 dc16 pm16 an16 cd16 ct16), sl16⟩)
    (c16 : PySem.W.codeIn K cd16 "_law_row_pair" = true)
    (k16 : PySem.W.keepIn K (.ref f16) = true)
    (a17 : PySem.W.nsIn K mainGlobals "law" = some (some (.ref f17)))
    (l17 : K.lookup f17 = some ⟨oc17, od17, .func (PySem.W.fnOf "law" "law" (defArgs s_law) (defBody s_law) (defScope s_law) .none kV17 dc17 pm17 an17 cd17 ct17), sl17⟩)
    (c17 : PySem.W.codeIn K cd17 "law" = true)
    (k17 : PySem.W.keepIn K (.ref f17) = true)
    (z_bool : PySem.W.nsIn K mainGlobals "bool" = some none)
    (z_divmod : PySem.W.nsIn K mainGlobals "divmod" = some none)
    (z_int : PySem.W.nsIn K mainGlobals "int" = some none)
    (z_isinstance : PySem.W.nsIn K mainGlobals "isinstance" = some none)
    (z_len : PySem.W.nsIn K mainGlobals "len" = some none)
    (z_list : PySem.W.nsIn K mainGlobals "list" = some none)
    (z_range : PySem.W.nsIn K mainGlobals "range" = some none)
    (z_reversed : PySem.W.nsIn K mainGlobals "reversed" = some none)
    (z_sum : PySem.W.nsIn K mainGlobals "sum" = some none)
    (z_tuple : PySem.W.nsIn K mainGlobals "tuple" = some none)
    {t_MOST_SIGNS : Tok}
    (z_MOST_SIGNS : PySem.W.nsIn K mainGlobals "MOST_SIGNS" = some (some (.int 100 t_MOST_SIGNS)))
    {t_MOST_COUNT : Tok}
    (z_MOST_COUNT : PySem.W.nsIn K mainGlobals "MOST_COUNT" = some (some (.int 999 t_MOST_COUNT)))
    : ∃ fd : FuncData, (∀ (s : Shared) (v : Value), BindsTo s fd ⟨[v], []⟩ [("script", v)]) ∧ ∀ base : Heap, K.In base → base.Ns mainGlobals mg → FnOk l.prog w K mg base CX0 4 fa fd ["script"] (sp_law K) := by
  have e := hfa.symm.trans (PySem.W.mg_of X G a17)
  cases e
  let Z : Zs := ⟨0, 0, 0, 0, 0, 0, 0, 0, 0, 0, 0, 0, 0, 0⟩
  have T : Txt K mg Z := ⟨PySem.W.mg_none_of X G z_bool, PySem.W.mg_none_of X G z_divmod, PySem.W.mg_none_of X G z_int, PySem.W.mg_none_of X G z_isinstance, PySem.W.mg_none_of X G z_len, PySem.W.mg_none_of X G z_list, PySem.W.mg_none_of X G z_range, PySem.W.mg_none_of X G z_reversed, PySem.W.mg_none_of X G z_sum, PySem.W.mg_none_of X G z_tuple, ⟨_, PySem.W.mg_of X G z_MOST_SIGNS, ⟨_, rfl⟩⟩, ⟨_, PySem.W.mg_of X G z_MOST_COUNT, ⟨_, rfl⟩⟩⟩
  refine ⟨PySem.W.fnOf "law" "law" (defArgs s_law) (defBody s_law) (defScope s_law) .none kV17 dc17 pm17 an17 cd17 ct17, fun s v => .of_eq rfl, fun base _ _ => ?_⟩
  have m0 : mg "ask_counts" = some (.ref f0) := PySem.W.mg_of X G a0
  have c_ask_counts := c_ask_counts (P := l.prog) (w := w) (base := base) (fun_mk (st := s_ask_counts) l0 c0 k0) m0 T  
  have m1 : mg "holder" = some (.ref f1) := PySem.W.mg_of X G a1
  have c_holder := c_holder (P := l.prog) (w := w) (base := base) (fun_mk (st := s_holder) l1 c1 k1) m1 T  
  have m2 : mg "ask_pile" = some (.ref f2) := PySem.W.mg_of X G a2
  have c_ask_pile := c_ask_pile (P := l.prog) (w := w) (base := base) (fun_mk (st := s_ask_pile) l2 c2 k2) m2 T  
  have m3 : mg "ask_sign" = some (.ref f3) := PySem.W.mg_of X G a3
  have c_ask_sign := c_ask_sign (P := l.prog) (w := w) (base := base) (fun_mk (st := s_ask_sign) l3 c3 k3) m3 T  
  have m4 : mg "put_on" = some (.ref f4) := PySem.W.mg_of X G a4
  have c_put_on := c_put_on (P := l.prog) (w := w) (base := base) (fun_mk (st := s_put_on) l4 c4 k4) m4 T  
  have m5 : mg "taken_off" = some (.ref f5) := PySem.W.mg_of X G a5
  have c_taken_off := c_taken_off (P := l.prog) (w := w) (base := base) (fun_mk (st := s_taken_off) l5 c5 k5) m5 T c_holder 
  have m6 : mg "lay_row" = some (.ref f6) := PySem.W.mg_of X G a6
  have c_lay_row := c_lay_row (P := l.prog) (w := w) (base := base) (fun_mk (st := s_lay_row) l6 c6 k6) m6 T c_ask_counts c_ask_pile c_ask_sign c_put_on 
  have m7 : mg "take_row" = some (.ref f7) := PySem.W.mg_of X G a7
  have c_take_row := c_take_row (P := l.prog) (w := w) (base := base) (fun_mk (st := s_take_row) l7 c7 k7) m7 T c_ask_counts c_ask_pile c_taken_off 
  have m8 : mg "_law_cell_at" = some (.ref f8) := PySem.W.mg_of X G a8
  have c__law_cell_at := c__law_cell_at (P := l.prog) (w := w) (base := base) (fun_mk (st := s__law_cell_at) l8 c8 k8) m8 T  
  have m9 : mg "_law_whole" = some (.ref f9) := PySem.W.mg_of X G a9
  have c__law_whole := c__law_whole (P := l.prog) (w := w) (base := base) (fun_mk (st := s__law_whole) l9 c9 k9) m9 T  
  have m10 : mg "_law_draw" = some (.ref f10) := PySem.W.mg_of X G a10
  have c__law_draw := c__law_draw (P := l.prog) (w := w) (base := base) (fun_mk (st := s__law_draw) l10 c10 k10) m10 T  
  have m11 : mg "_law_counts" = some (.ref f11) := PySem.W.mg_of X G a11
  have c__law_counts := c__law_counts (P := l.prog) (w := w) (base := base) (fun_mk (st := s__law_counts) l11 c11 k11) m11 T c__law_draw 
  have m12 : mg "_law_held" = some (.ref f12) := PySem.W.mg_of X G a12
  have c__law_held := c__law_held (P := l.prog) (w := w) (base := base) (fun_mk (st := s__law_held) l12 c12 k12) m12 T  
  have m13 : mg "_law_put" = some (.ref f13) := PySem.W.mg_of X G a13
  have c__law_put := c__law_put (P := l.prog) (w := w) (base := base) (fun_mk (st := s__law_put) l13 c13 k13) m13 T  
  have m14 : mg "_law_pile" = some (.ref f14) := PySem.W.mg_of X G a14
  have c__law_pile := c__law_pile (P := l.prog) (w := w) (base := base) (fun_mk (st := s__law_pile) l14 c14 k14) m14 T  
  have m15 : mg "_law_numbers" = some (.ref f15) := PySem.W.mg_of X G a15
  have c__law_numbers := c__law_numbers (P := l.prog) (w := w) (base := base) (fun_mk (st := s__law_numbers) l15 c15 k15) m15 T c__law_whole 
  have m16 : mg "_law_row_pair" = some (.ref f16) := PySem.W.mg_of X G a16
  have c__law_row_pair := c__law_row_pair (P := l.prog) (w := w) (base := base) (fun_mk (st := s__law_row_pair) l16 c16 k16) m16 T c__law_numbers c__law_whole 
  exact f_law (fun_mk (st := s_law) l17 c17 k17) T c__law_cell_at c__law_counts c__law_held c__law_draw c__law_pile c__law_put c_lay_row c__law_whole c__law_row_pair c_take_row 
theorem walk {l : PySem.W.OpenLaw} {q : Program} {loose : List Str} {XP : (Str → Option Value) → Heap → Prop} {YP : World → Heap → Prop} {d : DefRec} {K : Params → PySem.W.Frag} (hn : l.most = some 63) (hdf : d.params.defaults = [])
    (hY : ∀ (w : World) (h : Heap), YP w h → (K w.params).In h)
    (F : ∀ (w : World) (mg : Str → Option Value) (fa : Addr) (h : Heap), (K w.params).In h → h.Ns mainGlobals mg → mg d.name = some (.ref fa) →
      ∃ fd : FuncData, (∀ (s : Shared) (u : Value), BindsTo s fd ⟨[u], []⟩ [("script", u)]) ∧ ∀ base : Heap, (K w.params).In base → base.Ns mainGlobals mg → FnOk l.prog w (K w.params) mg base CX0 4 fa fd ["script"] (sp_law (K w.params))) :
    PySem.W.WalkO q loose XP YP l.row.toRowW d [] (fun f vs => PySem.call f vs) :=
  L2.walk_of (n := 63) (k := 4) (x := "script") (CX := fun _ => CX0) (sp := fun w => sp_law (K w.params)) hn (by decide) hdf ⟨rfl, by decide, by decide⟩ hY F (fun _ _ a ns hl _ hS => ⟨a, ns, rfl, hS, hl, fun _ => rfl⟩) fun _ _ _ _ _ z => z
end Pf
open PySem PySem.W PyProof.Rows in
set_option maxRecDepth 100000 in
set_option maxHeartbeats 0 in
theorem PySem.Challenge.cw_numberpile_k05_rows_holds : PySem.Challenge.rw_numberpile_k05_rows.Holds := by
  w_on; o_law; k_head; (case hw => w_witness2)
  k_fill
  refine Pf.walk (l := PySem.Challenge.rw_numberpile_k05_rows) rfl rfl (fun w h Y => PySem.W.kIn_of Y) ?F
  case F =>
    intro w mg fa h KX G hmg
    refine' Pf.all_mk KX G hmg ?a0 ?l0 ?c0 ?k0 ?a1 ?l1 ?c1 ?k1 ?a2 ?l2 ?c2 ?k2 ?a3 ?l3 ?c3 ?k3 ?a4 ?l4 ?c4 ?k4 ?a5 ?l5 ?c5 ?k5 ?a6 ?l6 ?c6 ?k6 ?a7 ?l7 ?c7 ?k7 ?a8 ?l8 ?c8 ?k8 ?a9 ?l9 ?c9 ?k9 ?a10 ?l10 ?c10 ?k10 ?a11 ?l11 ?c11 ?k11 ?a12 ?l12 ?c12 ?k12 ?a13 ?l13 ?c13 ?k13 ?a14 ?l14 ?c14 ?k14 ?a15 ?l15 ?c15 ?k15 ?a16 ?l16 ?c16 ?k16 ?a17 ?l17 ?c17 ?k17 ?z_bool ?z_divmod ?z_int ?z_isinstance ?z_len ?z_list ?z_range ?z_reversed ?z_sum ?z_tuple ?z_MOST_SIGNS ?z_MOST_COUNT
    (case a0 => k_is)
    (case l0 => k_is)
    (case c0 => k_is)
    (case k0 => k_is)
    (case a1 => k_is)
    (case l1 => k_is)
    (case c1 => k_is)
    (case k1 => k_is)
    (case a2 => k_is)
    (case l2 => k_is)
    (case c2 => k_is)
    (case k2 => k_is)
    (case a3 => k_is)
    (case l3 => k_is)
    (case c3 => k_is)
    (case k3 => k_is)
    (case a4 => k_is)
    (case l4 => k_is)
    (case c4 => k_is)
    (case k4 => k_is)
    (case a5 => k_is)
    (case l5 => k_is)
    (case c5 => k_is)
    (case k5 => k_is)
    (case a6 => k_is)
    (case l6 => k_is)
    (case c6 => k_is)
    (case k6 => k_is)
    (case a7 => k_is)
    (case l7 => k_is)
    (case c7 => k_is)
    (case k7 => k_is)
    (case a8 => k_is)
    (case l8 => k_is)
    (case c8 => k_is)
    (case k8 => k_is)
    (case a9 => k_is)
    (case l9 => k_is)
    (case c9 => k_is)
    (case k9 => k_is)
    (case a10 => k_is)
    (case l10 => k_is)
    (case c10 => k_is)
    (case k10 => k_is)
    (case a11 => k_is)
    (case l11 => k_is)
    (case c11 => k_is)
    (case k11 => k_is)
    (case a12 => k_is)
    (case l12 => k_is)
    (case c12 => k_is)
    (case k12 => k_is)
    (case a13 => k_is)
    (case l13 => k_is)
    (case c13 => k_is)
    (case k13 => k_is)
    (case a14 => k_is)
    (case l14 => k_is)
    (case c14 => k_is)
    (case k14 => k_is)
    (case a15 => k_is)
    (case l15 => k_is)
    (case c15 => k_is)
    (case k15 => k_is)
    (case a16 => k_is)
    (case l16 => k_is)
    (case c16 => k_is)
    (case k16 => k_is)
    (case a17 => k_is)
    (case l17 => k_is)
    (case c17 => k_is)
    (case k17 => k_is)
    (case z_bool => k_is)
    (case z_divmod => k_is)
    (case z_int => k_is)
    (case z_isinstance => k_is)
    (case z_len => k_is)
    (case z_list => k_is)
    (case z_range => k_is)
    (case z_reversed => k_is)
    (case z_sum => k_is)
    (case z_tuple => k_is)
    (case z_MOST_SIGNS => k_is)
    (case z_MOST_COUNT => k_is)
#print axioms PySem.Challenge.cw_numberpile_k05_rows_holds
