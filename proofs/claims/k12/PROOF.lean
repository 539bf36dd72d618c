import PyProof.Rows.All
import Wide.All
import OpenK.AllK
import Wide.FinOn
import HandS.ForMost
import HandS.Codes
import HandS.Evl
import HandS.IsInst
import HandS.RevRange
import HandS.Rev
import HandS.Conv
import HandS.Flow
import HandS.ClsMeth
import HandS.Defaults
import HandS.ExcOwn
import HandS.TryOnly
import HandS.WordsExc
import HandS.HotCalls
import HandS.SuiteRaise
import PySem.Challenge.RW_numberpile_k12_streams_undone
set_option Elab.async false
set_option linter.all false
set_option maxRecDepth 100000
set_option maxHeartbeats 4000000
set_option Elab.async false
set_option maxRecDepth 100000
set_option maxHeartbeats 4000000
namespace Np
/-! ### counts -/
/-- counts as the document tells them -/
structure Good (ns : List Int) : Prop where
  pos : 0 < ns.length
  len : ns.length ≤ 100
  nn : ∀ c ∈ ns, 0 ≤ c
  le : ∀ c ∈ ns, c ≤ 999
  sum : 0 < ns.sum
theorem sum_nn : ∀ {ns : List Int}, (∀ c ∈ ns, 0 ≤ c) → 0 ≤ ns.sum
  | [], _ => by simp
  | c :: r, h => by
    have h1 := h c (List.mem_cons_self ..)
    have h2 := sum_nn (ns := r) fun d hd => h d (List.mem_cons_of_mem _ hd)
    rw [List.sum_cons]
    omega
theorem sum_le : ∀ {ns : List Int}, (∀ c ∈ ns, c ≤ 999) → ns.sum ≤ 999 * ns.length
  | [], _ => by simp
  | c :: r, h => by
    have h1 := h c (List.mem_cons_self ..)
    have h2 := sum_le (ns := r) fun d hd => h d (List.mem_cons_of_mem _ hd)
    rw [List.sum_cons, List.length_cons]
    omega
theorem Good.sumle {ns : List Int} (g : Good ns) : ns.sum ≤ 99900 := by
  have h1 := sum_le g.le
  have h2 := g.len
  omega
theorem take_nn {ns : List Int} (h : ∀ c ∈ ns, 0 ≤ c) (k : Nat) : ∀ c ∈ ns.take k, 0 ≤ c := fun c hc => h c (List.mem_of_mem_take hc)
theorem first_le {ns : List Int} (h : ∀ c ∈ ns, 0 ≤ c) (k : Nat) : (ns.take k).sum ≤ ns.sum := by
  have e : (ns.take k).sum + (ns.drop k).sum = ns.sum := by rw [← List.sum_append, List.take_append_drop]
  have h2 : 0 ≤ (ns.drop k).sum := sum_nn fun c hc => h c (List.mem_of_mem_drop hc)
  omega
theorem sum_mono {ns : List Int} (h : ∀ c ∈ ns, 0 ≤ c) {i j : Nat} (hij : i ≤ j) : (ns.take i).sum ≤ (ns.take j).sum := by
  have e : ns.take i = (ns.take j).take i := by rw [List.take_take, Nat.min_eq_left hij]
  rw [e]
  exact first_le (take_nn h j) i
/-- the sign of a slot -/
def holder : List Int → Int → Nat
  | [], _ => 0
  | c :: r, s => if c ≤ s then holder r (s - c) + 1 else 0
theorem holder_spec : ∀ {ns : List Int} {s : Int}, 0 ≤ s → s < ns.sum →
    holder ns s < ns.length ∧ (ns.take (holder ns s)).sum ≤ s ∧ ∃ c, ns[holder ns s]? = some c ∧ s < (ns.take (holder ns s)).sum + c
  | [], s, h0, h1 => by simp at h1; omega
  | c :: r, s, h0, h1 => by
    unfold holder
    by_cases h : c ≤ s
    · rw [if_pos h]
      rw [List.sum_cons] at h1
      obtain ⟨a, b, d, e, f⟩ := holder_spec (ns := r) (s := s - c) (by omega) (by omega)
      refine ⟨by rw [List.length_cons]; omega, ?_, d, ?_, ?_⟩
      · rw [List.take_succ_cons, List.sum_cons]; omega
      · simpa using e
      · rw [List.take_succ_cons, List.sum_cons]; omega
    · rw [if_neg h]
      refine ⟨by rw [List.length_cons]; omega, ?_, c, by simp, ?_⟩
      · simpa using h0
      · simp; omega
/-- one step of the search -/
theorem holder_step {ns : List Int} {j : Nat} {c s : Int} (e : ns[j]? = some c) : holder (ns.drop j) s = if c ≤ s then holder (ns.drop (j + 1)) (s - c) + 1 else 0 := by
  obtain ⟨h, e⟩ := List.getElem?_eq_some_iff.mp e
  rw [List.drop_eq_getElem_cons h, e]
  rfl
theorem sum_drop {ns : List Int} {j : Nat} {c : Int} (e : ns[j]? = some c) : (ns.drop j).sum = c + (ns.drop (j + 1)).sum := by
  obtain ⟨h, e⟩ := List.getElem?_eq_some_iff.mp e
  rw [List.drop_eq_getElem_cons h, e, List.sum_cons]
theorem sum_take1 {ns : List Int} {j : Nat} {c : Int} (e : ns[j]? = some c) : (ns.take (j + 1)).sum = (ns.take j).sum + c := by
  obtain ⟨h, e⟩ := List.getElem?_eq_some_iff.mp e
  rw [List.take_succ_eq_append_getElem h, e, List.sum_append]
  simp
/-! ### the laws' draws -/
def draw (cell k bound : Int) : Int := ((cell % 1000003 * 48271 + k * 69621 + 11) % 2147483647) * ((cell % 7919 + 1) * (k * k + 31 * k + 7) % 65537 + 1) / 4099 % bound
theorem draw_nn {cell k bound : Int} (h : 0 < bound) : 0 ≤ draw cell k bound := Int.emod_nonneg _ (by omega)
theorem draw_lt {cell k bound : Int} (h : 0 < bound) : draw cell k bound < bound := Int.emod_lt_of_pos _ h
def topOf (cell : Int) : Int := if cell % 4 = 0 then 2 else if cell % 4 = 1 then 10 else if cell % 4 = 2 then 1000 else 4
theorem topOf_pos (cell : Int) : 2 ≤ topOf cell ∧ topOf cell ≤ 1000 := by unfold topOf; repeat' split <;> omega
def counts0 (cell many : Int) : List Int := (List.range many.toNat).map fun (k : Nat) => draw (cell / 4) (k : Int) (topOf cell)
def lawCounts (cell many : Int) : List Int := if (counts0 cell many).sum = 0 then (counts0 cell many).set (cell / 4 % many).toNat 1 else counts0 cell many
theorem sum_zero : ∀ {ns : List Int}, (∀ c ∈ ns, 0 ≤ c) → ns.sum = 0 → ∀ c ∈ ns, c = 0
  | [], _, _, c, hc => by cases hc
  | d :: r, h, e, c, hc => by
    have h1 := h d (List.mem_cons_self ..)
    have h2 := sum_nn (ns := r) fun x hx => h x (List.mem_cons_of_mem _ hx)
    rw [List.sum_cons] at e
    rcases List.mem_cons.mp hc with rfl | hc
    · omega
    · exact sum_zero (fun x hx => h x (List.mem_cons_of_mem _ hx)) (by omega) c hc
theorem mem_le_sum : ∀ {ns : List Int} {c : Int}, (∀ c ∈ ns, 0 ≤ c) → c ∈ ns → c ≤ ns.sum
  | d :: r, c, h, hc => by
    have h1 := h d (List.mem_cons_self ..)
    have h2 := sum_nn (ns := r) fun x hx => h x (List.mem_cons_of_mem _ hx)
    rw [List.sum_cons]
    rcases List.mem_cons.mp hc with rfl | hc
    · omega
    · have := mem_le_sum (fun x hx => h x (List.mem_cons_of_mem _ hx)) hc
      omega
theorem counts0_len (cell many : Int) : (counts0 cell many).length = many.toNat := by simp [counts0]
theorem lawCounts_len (cell many : Int) : (lawCounts cell many).length = many.toNat := by
  unfold lawCounts
  split
  · rw [List.length_set, counts0_len]
  · exact counts0_len ..
theorem counts0_in {cell many c : Int} (h : c ∈ counts0 cell many) : 0 ≤ c ∧ c ≤ 999 := by
  obtain ⟨k, _, rfl⟩ := List.mem_map.mp h
  have h1 := topOf_pos cell
  have h2 := draw_nn (cell := cell / 4) (k := k) (bound := topOf cell) (by omega)
  have h3 := draw_lt (cell := cell / 4) (k := k) (bound := topOf cell) (by omega)
  omega
theorem good_counts {cell many : Int} (h1 : 1 ≤ many) (h2 : many ≤ 100) : Good (lawCounts cell many) := by
  have hl := lawCounts_len cell many
  have hin : ∀ c ∈ lawCounts cell many, 0 ≤ c ∧ c ≤ 999 := fun c hc => by
    unfold lawCounts at hc
    split at hc
    · rcases List.mem_or_eq_of_mem_set hc with hc | rfl
      · exact counts0_in hc
      · omega
    · exact counts0_in hc
  refine ⟨by omega, by omega, fun c hc => (hin c hc).1, fun c hc => (hin c hc).2, ?_⟩
  have nn := sum_nn fun c hc => (hin c hc).1
  by_cases e : (counts0 cell many).sum = 0
  · have e2 : lawCounts cell many = (counts0 cell many).set (cell / 4 % many).toNat 1 := if_pos e
    have hk : (cell / 4 % many).toNat < (counts0 cell many).length := by
      rw [counts0_len]
      have := Int.emod_nonneg (cell / 4) (show many ≠ 0 by omega)
      have := Int.emod_lt_of_pos (cell / 4) (show 0 < many by omega)
      omega
    have hm : (1 : Int) ∈ lawCounts cell many := by rw [e2]; exact List.mem_set hk 1
    have := mem_le_sum (fun c hc => (hin c hc).1) hm
    omega
  · have e2 : lawCounts cell many = counts0 cell many := if_neg e
    rw [e2] at nn ⊢
    omega
/-! ### a sign laid, a sign taken -/
def cnt (ns : List Int) (s : Int) : Int := ns.getD s.toNat 0
def first (ns : List Int) (s : Int) : Int := (ns.take s.toNat).sum
def put (p : Int) (ns : List Int) (s : Int) : Int := p / cnt ns s * ns.sum + first ns s + p % cnt ns s
def offS (p : Int) (ns : List Int) : Int := (holder ns (p % ns.sum) : Nat)
def offP (p : Int) (ns : List Int) : Int := p / ns.sum * cnt ns (offS p ns) + p % ns.sum - first ns (offS p ns)
/-- a sign that can be laid -/
structure Sign (ns : List Int) (s : Int) : Prop where
  nn : 0 ≤ s
  lt : s < ns.length
  cp : 0 < cnt ns s
theorem cnt_at {ns : List Int} {s : Int} (h : 0 ≤ s) (h2 : s < ns.length) : ns[s.toNat]? = some (cnt ns s) := by
  have hl : s.toNat < ns.length := by omega
  unfold cnt
  rw [List.getD_eq_getElem?_getD, List.getElem?_eq_getElem hl]
  rfl
theorem cnt_mem {ns : List Int} {s : Int} (h : 0 ≤ s) (h2 : s < ns.length) : cnt ns s ∈ ns := List.mem_of_getElem? (cnt_at h h2)
theorem cnt_le {ns : List Int} {s : Int} (g : Good ns) (h : 0 ≤ s) (h2 : s < ns.length) : 0 ≤ cnt ns s ∧ cnt ns s ≤ 999 := ⟨g.nn _ (cnt_mem h h2), g.le _ (cnt_mem h h2)⟩
theorem first_nn {ns : List Int} (g : Good ns) (s : Int) : 0 ≤ first ns s := sum_nn (take_nn g.nn _)
theorem first_top {ns : List Int} {s : Int} (g : Good ns) (h : 0 ≤ s) (h2 : s < ns.length) : first ns s + cnt ns s ≤ ns.sum := by
  have e := sum_take1 (cnt_at h h2)
  have := first_le g.nn (s.toNat + 1)
  unfold first
  omega
/-- a slot in a sign's stretch is that sign's -/
theorem holder_is : ∀ {ns : List Int} {k : Nat} {c s : Int}, (∀ x ∈ ns, 0 ≤ x) → ns[k]? = some c → (ns.take k).sum ≤ s → s < (ns.take k).sum + c → holder ns s = k
  | [], k, c, s, _, h, _, _ => by simp at h
  | d :: r, 0, c, s, _, h, h1, h2 => by
    simp at h
    subst h
    unfold holder
    simp at h1 h2
    rw [if_neg (by omega)]
  | d :: r, k + 1, c, s, nn, h, h1, h2 => by
    rw [List.take_succ_cons, List.sum_cons] at h1 h2
    have hd := nn d (List.mem_cons_self ..)
    have ht := sum_nn (take_nn (fun x hx => nn x (List.mem_cons_of_mem _ hx)) k)
    have ih := holder_is (ns := r) (k := k) (c := c) (s := s - d) (fun x hx => nn x (List.mem_cons_of_mem _ hx)) (by simpa using h) (by omega) (by omega)
    unfold holder
    rw [if_pos (by omega), ih]
theorem off_sign {ns : List Int} (g : Good ns) (p : Int) : Sign ns (offS p ns) ∧ first ns (offS p ns) ≤ p % ns.sum ∧ p % ns.sum < first ns (offS p ns) + cnt ns (offS p ns) := by
  have gs := g.sum
  have h0 := Int.emod_nonneg p (show ns.sum ≠ 0 by omega)
  have h1 := Int.emod_lt_of_pos p gs
  obtain ⟨a, b, c, d, e⟩ := holder_spec h0 h1
  have ec : cnt ns (offS p ns) = c := by
    unfold cnt offS
    rw [Int.toNat_natCast, List.getD_eq_getElem?_getD, d]
    rfl
  have ef : first ns (offS p ns) = (ns.take (holder ns (p % ns.sum))).sum := by
    unfold first offS
    rw [Int.toNat_natCast]
  refine ⟨⟨by unfold offS; omega, by unfold offS; omega, by omega⟩, by omega, by omega⟩
theorem put_nn {ns : List Int} {p s : Int} (g : Good ns) (h : 0 ≤ p) (x : Sign ns s) : 0 ≤ put p ns s := by
  have h1 : 0 ≤ p / cnt ns s := Int.ediv_nonneg h (by have := x.cp; omega)
  have h2 : 0 ≤ p % cnt ns s := Int.emod_nonneg p (by have := x.cp; omega)
  have h3 : 0 ≤ p / cnt ns s * ns.sum := Int.mul_nonneg h1 (by have := g.sum; omega)
  have h4 := first_nn g s
  unfold put
  omega
theorem offP_nn {ns : List Int} {p : Int} (g : Good ns) (h : 0 ≤ p) : 0 ≤ offP p ns := by
  obtain ⟨x, h1, h2⟩ := off_sign g p
  have h3 : 0 ≤ p / ns.sum := Int.ediv_nonneg h (by have := g.sum; omega)
  have h4 : 0 ≤ p / ns.sum * cnt ns (offS p ns) := Int.mul_nonneg h3 (by have := x.cp; omega)
  unfold offP
  omega
theorem div_rest {q b r : Int} (h0 : 0 ≤ r) (h1 : r < b) : (q * b + r) / b = q ∧ (q * b + r) % b = r := by
  have hb : b ≠ 0 := by omega
  constructor
  · rw [Int.add_comm, Int.add_mul_ediv_right _ _ hb, Int.ediv_eq_zero_of_lt h0 h1, Int.zero_add]
  · rw [Int.add_comm, Int.add_mul_emod_self_right, Int.emod_eq_of_lt h0 h1]
theorem div_back (p b : Int) : p / b * b + p % b = p := by
  have := Int.mul_ediv_add_emod p b
  rw [Int.mul_comm] at this
  exact this
theorem off_put {ns : List Int} {p s : Int} (g : Good ns) (x : Sign ns s) : offS (put p ns s) ns = s ∧ offP (put p ns s) ns = p := by
  have h1 : 0 ≤ p % cnt ns s := Int.emod_nonneg p (by have := x.cp; omega)
  have h2 : p % cnt ns s < cnt ns s := Int.emod_lt_of_pos p x.cp
  have h3 := first_nn g s
  have h4 := first_top g x.nn x.lt
  obtain ⟨e1, e2⟩ := div_rest (q := p / cnt ns s) (b := ns.sum) (r := first ns s + p % cnt ns s) (by omega) (by omega)
  have e0 : put p ns s = p / cnt ns s * ns.sum + (first ns s + p % cnt ns s) := by unfold put; omega
  rw [← e0] at e1 e2
  have e3 : offS (put p ns s) ns = s := by
    have := holder_is (ns := ns) (k := s.toNat) (c := cnt ns s) (s := first ns s + p % cnt ns s) g.nn (cnt_at x.nn x.lt) (by unfold first; unfold first at *; omega) (by unfold first; unfold first at *; omega)
    unfold offS
    rw [e2, this]
    have := x.nn
    omega
  refine ⟨e3, ?_⟩
  unfold offP
  rw [e3, e1, e2]
  have := div_back p (cnt ns s)
  omega
theorem put_off {ns : List Int} (g : Good ns) (p : Int) : put (offP p ns) ns (offS p ns) = p := by
  obtain ⟨x, h1, h2⟩ := off_sign g p
  have e0 : offP p ns = p / ns.sum * cnt ns (offS p ns) + (p % ns.sum - first ns (offS p ns)) := by unfold offP; omega
  obtain ⟨e1, e2⟩ := div_rest (q := p / ns.sum) (b := cnt ns (offS p ns)) (r := p % ns.sum - first ns (offS p ns)) (by omega) (by omega)
  rw [← e0] at e1 e2
  unfold put
  rw [e1, e2]
  have := div_back p ns.sum
  omega
theorem put_level {ns : List Int} {s : Int} (g : Good ns) (x : Sign ns s) (p : Int) : ns.sum * (p / cnt ns s) ≤ put p ns s ∧ put p ns s < ns.sum * (p / cnt ns s + 1) := by
  have h1 : 0 ≤ p % cnt ns s := Int.emod_nonneg p (by have := x.cp; omega)
  have h2 : p % cnt ns s < cnt ns s := Int.emod_lt_of_pos p x.cp
  have h3 := first_nn g s
  have h4 := first_top g x.nn x.lt
  rw [Int.mul_add, Int.mul_one, Int.mul_comm ns.sum]
  unfold put
  omega
/-! ### the signs that are held -/
def held (ns : List Int) : List Int := ((List.range ns.length).filter fun i => decide (0 < ns.getD i 0)).map fun (i : Nat) => (i : Int)
theorem mem_held {ns : List Int} {s : Int} : s ∈ held ns ↔ Sign ns s := by
  constructor
  · intro h
    obtain ⟨i, hi, rfl⟩ := List.mem_map.mp h
    obtain ⟨h1, h2⟩ := List.mem_filter.mp hi
    have h1 := List.mem_range.mp h1
    have h2 := of_decide_eq_true h2
    exact ⟨by omega, by omega, by unfold cnt; rw [Int.toNat_natCast]; exact h2⟩
  · intro x
    have h1 := x.nn
    have h2 := x.lt
    refine List.mem_map.mpr ⟨s.toNat, List.mem_filter.mpr ⟨List.mem_range.mpr (by omega), decide_eq_true x.cp⟩, by omega⟩
theorem held_pos {ns : List Int} (g : Good ns) : 0 < (held ns).length := by
  have h := mem_held.mpr (off_sign g 0).1
  exact List.length_pos_of_mem h
theorem held_len (ns : List Int) : (held ns).length ≤ ns.length := by
  unfold held
  rw [List.length_map]
  have := List.length_filter_le (fun i => decide (0 < ns.getD i 0)) (List.range ns.length)
  rw [List.length_range] at this
  exact this
theorem at_mem {ns : List Int} {i : Nat} (h : i < ns.length) : ns.getD i 0 ∈ ns := by
  rw [List.getD_eq_getElem?_getD, List.getElem?_eq_getElem h]
  exact List.getElem_mem h
theorem held_at {ns : List Int} (g : Good ns) (c : Int) : Sign ns ((held ns).getD (c % ((held ns).length : Int)).toNat 0) := by
  have hp := held_pos g
  have h0 := Int.emod_nonneg c (show ((held ns).length : Int) ≠ 0 by omega)
  have h1 := Int.emod_lt_of_pos c (show 0 < ((held ns).length : Int) by omega)
  exact mem_held.mp (at_mem (by omega))
def lawPile (c : Int) : Int := if c % 4 = 1 then c / 4 % 30 else c / 4 % 10 ^ 60
theorem lawPile_nn (c : Int) : 0 ≤ lawPile c := by
  unfold lawPile
  split
  · exact Int.emod_nonneg _ (by decide)
  · exact Int.emod_nonneg _ (by decide)
/-! ### rows -/
def layRow (p : Int) (ns row : List Int) : Int := row.foldr (fun s acc => put acc ns s) p
/-- the pile when i signs are off -/
def pileAt (ns : List Int) (p : Int) : Nat → Int
  | 0 => p
  | i + 1 => offP (pileAt ns p i) ns
def takenRow (ns : List Int) (p : Int) (n : Nat) : List Int := (List.range n).map fun i => offS (pileAt ns p i) ns
theorem pileAt_nn {ns : List Int} {p : Int} (g : Good ns) (h : 0 ≤ p) : ∀ i, 0 ≤ pileAt ns p i
  | 0 => h
  | i + 1 => offP_nn g (pileAt_nn g h i)
theorem takenRow_succ (ns : List Int) (p : Int) (n : Nat) : takenRow ns p (n + 1) = takenRow ns p n ++ [offS (pileAt ns p n) ns] := by
  unfold takenRow
  rw [List.range_succ, List.map_append]
  rfl
theorem takenRow_len (ns : List Int) (p : Int) (n : Nat) : (takenRow ns p n).length = n := by simp [takenRow]
theorem takenRow_at {ns : List Int} {p : Int} {n i : Nat} (h : i < n) : (takenRow ns p n)[i]? = some (offS (pileAt ns p i) ns) := by
  unfold takenRow
  rw [List.getElem?_map, List.getElem?_range h]
  rfl
theorem layRow_nn {ns : List Int} {p : Int} (g : Good ns) (h : 0 ≤ p) : ∀ {row : List Int}, (∀ s ∈ row, Sign ns s) → 0 ≤ layRow p ns row
  | [], _ => h
  | s :: r, hr => put_nn g (layRow_nn g h fun x hx => hr x (List.mem_cons_of_mem _ hx)) (hr s (List.mem_cons_self ..))
theorem layRow_drop {p : Int} {ns row : List Int} {i : Nat} {s : Int} (e : row[i]? = some s) : layRow p ns (row.drop i) = put (layRow p ns (row.drop (i + 1))) ns s := by
  obtain ⟨h, e⟩ := List.getElem?_eq_some_iff.mp e
  rw [List.drop_eq_getElem_cons h, e]
  rfl
theorem pile_lay {ns : List Int} {p : Int} {row : List Int} (g : Good ns) (hr : ∀ s ∈ row, Sign ns s) : ∀ i, i ≤ row.length → pileAt ns (layRow p ns row) i = layRow p ns (row.drop i)
  | 0, _ => by rw [List.drop_zero]; rfl
  | i + 1, h => by
    have hi : row[i]? = some row[i] := List.getElem?_eq_getElem (by omega)
    show offP (pileAt ns (layRow p ns row) i) ns = _
    rw [pile_lay g hr i (by omega), layRow_drop hi]
    exact (off_put g (hr _ (List.getElem_mem _))).2
theorem row_back {ns : List Int} {p : Int} {row : List Int} (g : Good ns) (hr : ∀ s ∈ row, Sign ns s) : takenRow ns (layRow p ns row) row.length = row ∧ pileAt ns (layRow p ns row) row.length = p := by
  constructor
  · refine List.ext_getElem? fun i => ?_
    by_cases h : i < row.length
    · rw [takenRow_at h, pile_lay g hr i (by omega), layRow_drop (List.getElem?_eq_getElem h), List.getElem?_eq_getElem h]
      exact congrArg some (off_put g (hr _ (List.getElem_mem _))).1
    · rw [List.getElem?_eq_none (by rw [takenRow_len]; omega), List.getElem?_eq_none (by omega)]
  · rw [pile_lay g hr _ (Nat.le_refl _), List.drop_length]
    rfl
theorem lay_append (p : Int) (ns r u : List Int) : layRow p ns (r ++ u) = layRow (layRow p ns u) ns r := by
  unfold layRow
  rw [List.foldr_append]
theorem lay_back {ns : List Int} (g : Good ns) (p : Int) : ∀ n, layRow (pileAt ns p n) ns (takenRow ns p n) = p
  | 0 => rfl
  | n + 1 => by
    rw [takenRow_succ, lay_append]
    show layRow (put (offP (pileAt ns p n) ns) ns (offS (pileAt ns p n) ns)) ns (takenRow ns p n) = p
    rw [put_off g]
    exact lay_back g p n
theorem taken_sign {ns : List Int} (g : Good ns) (p : Int) (n : Nat) : ∀ s ∈ takenRow ns p n, Sign ns s := fun s h => by
  obtain ⟨i, _, rfl⟩ := List.mem_map.mp h
  exact (off_sign g _).1
/-! ### signs with hidden ones -/
structure Full (ns : List Int) : Prop where
  good : Good ns
  lo : ∀ c ∈ ns, 1 ≤ c
theorem Full.sign {ns : List Int} (f : Full ns) {s : Int} (h0 : 0 ≤ s) (h1 : s < ns.length) : Sign ns s := ⟨h0, h1, by have := f.lo _ (cnt_mem (ns := ns) h0 h1); omega⟩
def lawFull (cell many top : Int) : List Int := (List.range many.toNat).map fun (k : Nat) => 1 + draw cell (k : Int) top
theorem lawFull_len (cell many top : Int) : (lawFull cell many top).length = many.toNat := by simp [lawFull]
theorem full_law (cell : Int) {many top : Int} (h1 : 1 ≤ many) (h2 : many ≤ 100) (h3 : 1 ≤ top) (h4 : top ≤ 999) : Full (lawFull cell many top) := by
  have hm : ∀ c ∈ lawFull cell many top, 1 ≤ c ∧ c ≤ 999 := fun c hc => by
    obtain ⟨k, _, rfl⟩ := List.mem_map.mp hc
    have d0 := draw_nn (cell := cell) (k := k) (bound := top) (by omega)
    have d1 := draw_lt (cell := cell) (k := k) (bound := top) (by omega)
    omega
  have hl := lawFull_len cell many top
  have nn : ∀ c ∈ lawFull cell many top, 0 ≤ c := fun c hc => by have := (hm c hc).1; omega
  have hp : 0 < (lawFull cell many top).length := by omega
  refine ⟨⟨by omega, by omega, nn, fun c hc => (hm c hc).2, ?_⟩, fun c hc => (hm c hc).1⟩
  have h0 := List.getElem_mem (l := lawFull cell many top) (n := 0) hp
  have := mem_le_sum nn h0
  have := (hm _ h0).1
  omega
structure Tabs (prior : List Int) (given back : List (List Int)) : Prop where
  p : Full prior
  gl : given.length = prior.length
  g : ∀ t ∈ given, Full t ∧ t.length = back.length
  b : ∀ t ∈ back, Full t ∧ t.length = prior.length
def rowOf (ts : List (List Int)) (s : Int) : List Int := ts.getD s.toNat []
theorem row_at {ts : List (List Int)} {s : Int} (h0 : 0 ≤ s) (h1 : s < ts.length) : ts[s.toNat]? = some (rowOf ts s) := by
  have h : s.toNat < ts.length := by omega
  unfold rowOf
  rw [List.getD_eq_getElem?_getD, List.getElem?_eq_getElem h]
  rfl
def layH (p : Int) (prior : List Int) (given back : List (List Int)) (s : Int) : Int := put (put (offP p (rowOf back s)) (rowOf given (offS p (rowOf back s))) s) prior (offS p (rowOf back s))
def takeS (p : Int) (prior : List Int) (given : List (List Int)) : Int := offS (offP p prior) (rowOf given (offS p prior))
def takeP (p : Int) (prior : List Int) (given back : List (List Int)) : Int := put (offP (offP p prior) (rowOf given (offS p prior))) (rowOf back (takeS p prior given)) (offS p prior)
section
variable {prior : List Int} {given back : List (List Int)}
structure LayF (p : Int) (prior : List Int) (given back : List (List Int)) (s h : Int) : Prop where
  bi : back[s.toNat]? = some (rowOf back s)
  bg : Good (rowOf back s)
  h0 : 0 ≤ h
  bs : Sign (rowOf back s) h
  gi : given[h.toNat]? = some (rowOf given h)
  gg : Good (rowOf given h)
  gs : Sign (rowOf given h) s
  pg : Good prior
  ps : Sign prior h
theorem lay_facts (T : Tabs prior given back) {s h : Int} (s0 : 0 ≤ s) (s1 : s < back.length) (h0 : 0 ≤ h) (h1 : h < prior.length) (p : Int) : LayF p prior given back s h := by
  have bi := row_at s0 s1
  have hb := T.b _ (List.mem_of_getElem? bi)
  have gi := row_at (ts := given) h0 (by rw [T.gl]; exact h1)
  have hg := T.g _ (List.mem_of_getElem? gi)
  exact ⟨bi, hb.1.good, h0, hb.1.sign h0 (by omega), gi, hg.1.good, hg.1.sign s0 (by omega), T.p.good, T.p.sign h0 h1⟩
theorem lay_in (T : Tabs prior given back) {s : Int} (s0 : 0 ≤ s) (s1 : s < back.length) (p : Int) : 0 ≤ offS p (rowOf back s) ∧ offS p (rowOf back s) < prior.length := by
  have hb := T.b _ (List.mem_of_getElem? (row_at s0 s1))
  have x := (off_sign hb.1.good p).1
  have := x.lt
  exact ⟨x.nn, by omega⟩
theorem take_in (T : Tabs prior given back) (p : Int) : 0 ≤ offS p prior ∧ offS p prior < prior.length ∧ 0 ≤ takeS p prior given ∧ takeS p prior given < back.length := by
  have x := (off_sign T.p.good p).1
  have hg := T.g _ (List.mem_of_getElem? (row_at (ts := given) x.nn (by rw [T.gl]; exact x.lt)))
  have y := (off_sign hg.1.good (offP p prior)).1
  have := y.lt
  exact ⟨x.nn, x.lt, y.nn, by unfold takeS; omega⟩
theorem take_lay (T : Tabs prior given back) {s : Int} (s0 : 0 ≤ s) (s1 : s < back.length) (p : Int) : takeS (layH p prior given back s) prior given = s ∧ takeP (layH p prior given back s) prior given back = p := by
  obtain ⟨h0, h1⟩ := lay_in T s0 s1 p
  have f := lay_facts T s0 s1 h0 h1 p
  obtain ⟨a1, a2⟩ := off_put (p := put (offP p (rowOf back s)) (rowOf given (offS p (rowOf back s))) s) f.pg f.ps
  obtain ⟨b1, b2⟩ := off_put (p := offP p (rowOf back s)) f.gg f.gs
  have e1 : takeS (layH p prior given back s) prior given = s := by
    unfold takeS layH
    rw [a1, a2, b1]
  refine ⟨e1, ?_⟩
  unfold takeP
  rw [e1]
  unfold layH
  rw [a1, a2, b2]
  exact put_off f.bg p
theorem lay_take (T : Tabs prior given back) (p : Int) : layH (takeP p prior given back) prior given back (takeS p prior given) = p := by
  obtain ⟨h0, h1, s0, s1⟩ := take_in T p
  have f := lay_facts T s0 s1 h0 h1 p
  obtain ⟨a1, a2⟩ := off_put (p := offP (offP p prior) (rowOf given (offS p prior))) f.bg f.bs
  have e : put (offP (offP p prior) (rowOf given (offS p prior))) (rowOf given (offS p prior)) (takeS p prior given) = offP p prior := put_off f.gg (offP p prior)
  unfold layH takeP
  rw [a1, a2, e]
  exact put_off f.pg p
theorem layH_nn (T : Tabs prior given back) {s p : Int} (s0 : 0 ≤ s) (s1 : s < back.length) (hp : 0 ≤ p) : 0 ≤ layH p prior given back s := by
  obtain ⟨h0, h1⟩ := lay_in T s0 s1 p
  have f := lay_facts T s0 s1 h0 h1 p
  exact put_nn f.pg (put_nn f.gg (offP_nn f.bg hp) f.gs) f.ps
theorem takeP_nn (T : Tabs prior given back) {p : Int} (hp : 0 ≤ p) : 0 ≤ takeP p prior given back := by
  obtain ⟨h0, h1, s0, s1⟩ := take_in T p
  have f := lay_facts T s0 s1 h0 h1 p
  exact put_nn f.bg (offP_nn f.gg (offP_nn f.pg hp)) f.bs
end
end Np

set_option Elab.async false
set_option maxRecDepth 100000
set_option maxHeartbeats 4000000
/-! Steps of a reading, one small theorem a form; and the facts of heaps. -/
namespace Np
open PySem PySem.Spec PyProof.Rows L2
open Evl (Ex)
open C8 (Cal Met Mak pe_c pe_mk pe_mt pe_mt0 pe_gc)

abbrev iL (ns : List Int) : List V := ns.map V.int
/-- what a test's value is handed to -/
def kB (Q : Bool → Hp → Prop) : VK := fun x H => ∃ k, x = .bl k ∧ Q k H
def kI (Q : Option Int → Hp → Prop) : VK := fun x H => ∃ i, x = .int i ∧ Q (some i) H
/-- a new tuple | list -/
def rNewT (xs : List V) (H : Hp) (Q : VK) : Prop := xs.length ≤ sizeLine ∧ ∀ p, H p = none → Q (.ref p) (upd H p (.tup xs))
def rNewL (xs : List V) (H : Hp) (Q : VK) : Prop := xs.length ≤ sizeLine ∧ ∀ p, H p = none → Q (.ref p) (upd H p (.lst xs))
def rLenS (K : PySem.W.Frag) : List V → Hp → VK → Prop := fun xs H Q => ∃ p ys, xs = [.ref p] ∧ (SqL K H p ys ∨ SqT K H p ys) ∧ Q (.int ys.length) H
def rListS (K : PySem.W.Frag) : List V → Hp → VK → Prop := fun xs H Q => ∃ p ys, xs = [.ref p] ∧ (SqL K H p ys ∨ SqT K H p ys) ∧ ∀ l, H l = none → Q (.ref l) (upd H l (.lst ys))
def rDivmod : List V → Hp → VK → Prop := fun xs H Q => ∃ i j, xs = [.int i, .int j] ∧ CDiv i j ∧ ∀ p, H p = none → Q (.ref p) (upd H p (.tup [.int (i / j), .int (i % j)]))
def rNon (neg : Bool) : R2 := fun x y H Q => y = .non ∧ Q (.bl (if neg then !decide (x = .non) else decide (x = .non))) H
section
variable {X : Cx} {K : PySem.W.Frag}
theorem n_len (e : X.K = K) : CallR X (.builtin "len") (rLenS K) := by subst e; exact call_len_seq
theorem n_list (e : X.K = K) : CallR X (.type "list") (rListS K) := by subst e; exact call_list_of
theorem n_divmod : CallR X (.builtin "divmod") rDivmod := call_divmod
theorem n_isN : OpR X (compareOp .Is) (rNon false) := op_isN
theorem n_notN : OpR X (compareOp .IsNot) (rNon true) := op_notN
theorem n_sum (e : X.K = K) (hc : X.calm = true) : CallR X (.builtin "sum") (rSum K) := by subst e; exact cr_sum hc
theorem n_min (e : X.K = K) (hc : X.calm = true) : CallR X (.builtin "min") (rMin K) := by subst e; exact cr_min hc
theorem n_max (e : X.K = K) (hc : X.calm = true) : CallR X (.builtin "max") (rMax K) := by subst e; exact cr_max hc
theorem n_ixL (e : X.K = K) : IxR X (rIxL K) := by subst e; exact ix_list
theorem n_ixT (e : X.K = K) : IxR X (rIxT K) := by subst e; exact ix_tup
theorem n_slL (e : X.K = K) : SlR X (rSlL K) := by subst e; exact sl_list
theorem n_slT (e : X.K = K) : SlR X (rSlT K) := by subst e; exact sl_tup
theorem n_in (e : X.K = K) : OpR X (compareOp .In) (rIn K false) := by subst e; exact op_in_seq
theorem n_notIn (e : X.K = K) : OpR X (compareOp .NotIn) (rIn K true) := by subst e; exact op_notIn_seq
theorem n_eqD (e : X.K = K) (hu : X.A.units + 64 < cLine) : OpR X (compareOp .Eq) (rEqD K) := by subst e; exact op_eqD hu
theorem n_neD (e : X.K = K) (hu : X.A.units + 64 < cLine) : OpR X (compareOp .NotEq) (rNeD K) := by subst e; exact op_neD hu
theorem n_isi (e : X.K = K) : CallR X (.builtin "isinstance") (rIsi K) := by subst e; exact call_isi
theorem n_pi {tg l : Expr} {tl : TE} (e : X.K = K) (hl : PE X l tl) : PI X tg l (iList K tl) := by subst e; exact pi_list hl
theorem n_pirev {tg e : Expr} {ta : TA} {p pos : Pos} (ek : X.K = K) (hg : Gl X "reversed") (hm : X.mg "reversed" = none) (ha : PA X [e] ta) (hs : starEach [e] X.env = [(false, eval e X.env)] := by rfl) : PI X tg (.Call (.Name "reversed" p) [e] [] pos) (iRev K ta) := by subst ek; exact pi_reversed hg hm ha hs
theorem n_fld {e : Expr} {ta : TE} {f : Str} {pos : Pos} (ek : X.K = K) (he : PE X e ta) (hb : attributeBase e f X.env (eval e X.env) = eval e X.env) : PE X (.Attribute e f pos) (tFld K ta f) := by subst ek; exact pe_fld he hb
theorem n_setF {o value : Expr} {ta tv : TE} {f : Str} {pos pos' : Pos} (ek : X.K = K) (ha : PE X o ta) (hv : PE X value tv) (hs : swapsWith value (some (.Attribute o f pos')) pos.line X.env = pure false) : PS X (.Assign [.Attribute o f pos'] value pos) (sFld K ta tv f) := by subst ek; exact ps_fld ha hv hs
end
section
variable {K : PySem.W.Frag} {σ : L2.St} {H H' : Hp} {D : Ends} {Q : VK} {QB : Bool → Hp → Prop} {ta tb te tc : TE} {t u c : TT} {tl tr : TA} {r r' : R2} {x y v : V} {s1 s2 : TS} {i j : Int} {a p : Addr} {xs ys : List V} {ns : List Int}
/-! ### expressions -/
theorem w_var {k : Nat} (h : σ[k]? = some (some v)) (q : Q v H) : tVar k σ H Q := ⟨v, h, q⟩
theorem w_c (q : Q v H) : tC v σ H Q := q
theorem w_op (q : ta σ H fun x H1 => tb σ H1 fun y H2 => r x y H2 Q) : tOp r ta tb σ H Q := q
theorem w_un {r : V → Hp → VK → Prop} (q : ta σ H fun x H1 => r x H1 Q) : tUn r ta σ H Q := q
theorem w_I0 {g : Int → Int → V} (q : Q (g i j) H) : rI0 g (.int i) (.int j) H Q := ⟨i, j, rfl, rfl, q⟩
theorem w_I {C : Int → Int → Prop} {g : Int → Int → V} (h : C i j) (q : Q (g i j) H) : rI C g (.int i) (.int j) H Q := ⟨i, j, rfl, rfl, h, q⟩
theorem cmulL (h0 : -18446744073709551616 < i) (h1 : i < 18446744073709551616) : CMul i j := .inl ⟨Int.lt_of_le_of_lt (by decide) h0, Int.lt_of_lt_of_le h1 (by decide)⟩
theorem cmulR (h0 : -18446744073709551616 < j) (h1 : j < 18446744073709551616) : CMul i j := .inr ⟨Int.lt_of_le_of_lt (by decide) h0, Int.lt_of_lt_of_le h1 (by decide)⟩
theorem w_U {g : Int → V} (q : Q (g i) H) : rU g (.int i) H Q := ⟨i, rfl, q⟩
theorem w_eqI (q : Q (.bl (decide (i = j))) H) : rEq (.int i) (.int j) H Q := ⟨rfl, by
  have e : decide (V.int i = V.int j) = decide (i = j) := decide_eq_decide.mpr ⟨fun h => V.int.inj h, fun h => congrArg V.int h⟩
  rw [e]; exact q⟩
theorem w_neI (q : Q (.bl (!decide (i = j))) H) : rNe (.int i) (.int j) H Q := ⟨rfl, by
  have e : decide (V.int i = V.int j) = decide (i = j) := decide_eq_decide.mpr ⟨fun h => V.int.inj h, fun h => congrArg V.int h⟩
  rw [e]; exact q⟩
theorem w_eqS {m n : Str} (q : Q (.bl (decide (m = n))) H) : rEq (.str m) (.str n) H Q := ⟨rfl, by
  have e : decide (V.str m = V.str n) = decide (m = n) := decide_eq_decide.mpr ⟨fun h => V.str.inj h, fun h => congrArg V.str h⟩
  rw [e]; exact q⟩
theorem w_neS {m n : Str} (q : Q (.bl (!decide (m = n))) H) : rNe (.str m) (.str n) H Q := ⟨rfl, by
  have e : decide (V.str m = V.str n) = decide (m = n) := decide_eq_decide.mpr ⟨fun h => V.str.inj h, fun h => congrArg V.str h⟩
  rw [e]; exact q⟩
theorem w_isN (q : Q (.bl (decide (x = .non))) H) : rNon false x .non H Q := ⟨rfl, q⟩
theorem w_notN (q : Q (.bl (!decide (x = .non))) H) : rNon true x .non H Q := ⟨rfl, q⟩
theorem w_chain (q : ta σ H fun x H1 => tb σ H1 fun y H2 => r x y H2 (kB fun k H3 => if k = true then tc σ H3 fun w' H4 => r' y w' H4 Q else Q (.bl false) H3)) : tChain r r' ta tb tc σ H Q := q
theorem w_iteT {A B : Prop} (h : A) : if true = true then A else B := iteT h
theorem w_iteF {A B : Prop} (h : B) : if false = true then A else B := iteF h
theorem w_iteNT {A B : Prop} (h : B) : if (!true) = true then A else B := iteF h
theorem w_iteNF {A B : Prop} (h : A) : if (!false) = true then A else B := iteT h
/-- a test that the facts decide -/
theorem w_yes {A B C : Prop} {_ : Decidable C} (c : C) (h : A) : if decide C = true then A else B := by rw [decide_eq_true c]; exact iteT h
theorem w_no {A B C : Prop} {_ : Decidable C} (c : ¬ C) (h : B) : if decide C = true then A else B := by rw [decide_eq_false c]; exact iteF h
theorem w_yesN {A B C : Prop} {_ : Decidable C} (c : ¬ C) (h : A) : if (!decide C) = true then A else B := by rw [decide_eq_false c]; exact iteT h
theorem w_noN {A B C : Prop} {_ : Decidable C} (c : C) (h : B) : if (!decide C) = true then A else B := by rw [decide_eq_true c]; exact iteF h
/-- both ways -/
theorem w_both {A B C : Prop} {_ : Decidable C} (h1 : C → A) (h2 : ¬ C → B) : if decide C = true then A else B := by
  by_cases c : C
  · exact w_yes c (h1 c)
  · exact w_no c (h2 c)
theorem w_bothN {A B C : Prop} {_ : Decidable C} (h1 : ¬ C → A) (h2 : C → B) : if (!decide C) = true then A else B := by
  by_cases c : C
  · exact w_noN c (h2 c)
  · exact w_yesN c (h1 c)
theorem w_bool {A B : Prop} {b : Bool} (h1 : b = true → A) (h2 : b = false → B) : if b = true then A else B := by
  cases b with
  | true => exact iteT (h1 rfl)
  | false => exact iteF (h2 rfl)
/-! ### tests -/
theorem w_test (q : te σ H (kB QB)) : tTest te σ H QB := q
theorem w_tB (q : te σ H (kB QB)) : tB te σ H QB := q
theorem w_kB {b : Bool} (q : QB b H) : kB QB (.bl b) H := ⟨b, rfl, q⟩
theorem w_and (q : t σ H fun b H1 => if b = true then u σ H1 QB else QB false H1) : tAnd t u σ H QB := q
theorem w_or (q : t σ H fun b H1 => if b = true then QB true H1 else u σ H1 QB) : tOr t u σ H QB := q
theorem w_tYes (q : QB true H) : tYes σ H QB := q
theorem w_not (q : t σ H fun b H1 => QB (!b) H1) : tNot t σ H QB := q
theorem w_andV (q : ta σ H (kB fun b H1 => if b = true then tb σ H1 Q else Q (.bl false) H1)) : tAndV ta tb σ H Q := q
theorem w_orV (q : ta σ H (kB fun b H1 => if b = true then Q (.bl true) H1 else tb σ H1 Q)) : tOrV ta tb σ H Q := q
theorem w_notV (q : ta σ H (kB fun b H1 => Q (.bl (!b)) H1)) : tNotV ta σ H Q := q
theorem w_ifE (q : t σ H fun b H1 => if b = true then ta σ H1 Q else tb σ H1 Q) : tIf t ta tb σ H Q := q
/-! ### == of lists, tuples -/
theorem dpAllI : ∀ (ns : List Int), DpAll K H (iL ns) (ns.map PyData.int)
  | [] => .nil
  | n :: r => .cons (.int n) (dpAllI r)
theorem dpL (h : SqL K H a (iL ns)) : Dp K H (.ref a) (.list (ns.map PyData.int)) := .lst h (dpAllI ns)
theorem dpT (h : SqT K H a (iL ns)) : Dp K H (.ref a) (.tuple (ns.map PyData.int)) := .tup h (dpAllI ns)
theorem canI : ∀ ns : List Int, PyData.canLayAll0 (ns.map PyData.int) = true
  | [] => by rw [List.map_nil, PyData.canLayAll0]
  | n :: r => by rw [List.map_cons, PyData.canLayAll0, canI r, PyData.canLay0]; rfl
theorem depI : ∀ ns : List Int, PyData.depthAll (ns.map PyData.int) = 0
  | [] => by rw [List.map_nil, PyData.depthAll]
  | n :: r => by rw [List.map_cons, PyData.depthAll, depI r, PyData.depth]; rfl
theorem shL (ns : List Int) : SeqAt.shaped (.list (ns.map PyData.int)) = true := by
  unfold SeqAt.shaped
  rw [PyData.canLay0, canI, PyData.depth, depI]
  rfl
theorem shT (ns : List Int) : SeqAt.shaped (.tuple (ns.map PyData.int)) = true := by
  unfold SeqAt.shaped
  rw [PyData.canLay0, canI, PyData.depth, depI]
  rfl
theorem eqvAllI : ∀ ns ms : List Int, PyData.eqvAll (ns.map PyData.int) (ms.map PyData.int) = decide (ns = ms)
  | [], [] => by simp [PyData.eqvAll]
  | [], _ :: _ => by simp [PyData.eqvAll]
  | _ :: _, [] => by simp [PyData.eqvAll]
  | n :: r, m :: u => by
    rw [List.map_cons, List.map_cons, PyData.eqvAll, eqvAllI r u, PyData.eqv]
    by_cases h1 : n = m <;> by_cases h2 : r = u <;> simp [h1, h2]
theorem w_eqL {b : Addr} {ms : List Int} (h : SqL K H a (iL ns)) (h' : SqL K H b (iL ms)) (q : Q (.bl (decide (ns = ms))) H) : rEqD K (.ref a) (.ref b) H Q :=
  ⟨_, _, dpL h, dpL h', shL ns, shL ms, by rw [PyData.eqv, eqvAllI]; exact q⟩
theorem w_neL {b : Addr} {ms : List Int} (h : SqL K H a (iL ns)) (h' : SqL K H b (iL ms)) (q : Q (.bl (!decide (ns = ms))) H) : rNeD K (.ref a) (.ref b) H Q :=
  ⟨_, _, dpL h, dpL h', shL ns, shL ms, by rw [PyData.eqv, eqvAllI]; exact q⟩
theorem w_eqT {b : Addr} {ms : List Int} (h : SqT K H a (iL ns)) (h' : SqT K H b (iL ms)) (q : Q (.bl (decide (ns = ms))) H) : rEqD K (.ref a) (.ref b) H Q :=
  ⟨_, _, dpT h, dpT h', shT ns, shT ms, by rw [PyData.eqv, eqvAllI]; exact q⟩
theorem dT {c : Prop} {_ : Decidable c} {R : V → Hp → Prop} (h : c) (q : R (.bl true) H) : R (.bl (decide c)) H := by rw [decide_eq_true h]; exact q
theorem inV_int : ∀ ns : List Int, inV (.int i) (iL ns) = decide (i ∈ ns)
  | [] => by simp [inV]
  | n :: r => by
    have ih := inV_int r
    unfold inV at ih ⊢
    show (eqV (.int n) (.int i) || ((iL r).any fun y => eqV y (.int i))) = _
    rw [ih]
    have e : eqV (.int n) (.int i) = decide (n = i) := by
      show (n == i) = decide (n = i)
      rw [Bool.beq_eq_decide_eq]
    rw [e]
    by_cases h1 : n = i <;> by_cases h2 : i ∈ r <;> simp [h1, h2]
    exact fun h => h1 h.symm
theorem flat_ints (ns : List Int) : (iL ns).all flatV = true := by
  refine List.all_eq_true.mpr fun v hv => ?_
  obtain ⟨n, _, rfl⟩ := List.mem_map.mp hv
  rfl
theorem w_inI (h : SqL K H a (iL ns)) (q : Q (.bl (decide (i ∈ ns))) H) : rIn K false (.int i) (.ref a) H Q := ⟨a, iL ns, rfl, .inl h, rfl, flat_ints ns, by rw [inV_int]; exact q⟩
theorem w_niI (h : SqL K H a (iL ns)) (q : Q (.bl (!decide (i ∈ ns))) H) : rIn K true (.int i) (.ref a) H Q := ⟨a, iL ns, rfl, .inl h, rfl, flat_ints ns, by rw [inV_int]; exact q⟩
/-! ### arguments, calls -/
theorem w_nil {QA : List V → Hp → Prop} (q : QA [] H) : tNil σ H QA := q
theorem w_cons {QA : List V → Hp → Prop} (q : te σ H fun x H1 => tr σ H1 fun xs H2 => QA (x :: xs) H2) : tCons te tr σ H QA := q
theorem w_call {sp : Sp} {E : XK} (q : tl σ H fun vs H1 => sp vs H1 Q E) : tCall sp [] E tl σ H Q := by
  have e : (fun (vs : List V) (H1 : Hp) => sp (vs ++ []) H1 Q E) = fun vs H1 => sp vs H1 Q E := by
    funext vs H1
    rw [List.append_nil]
  show tl σ H fun vs H1 => sp (vs ++ []) H1 Q E
  rw [e]
  exact q
theorem w_callD {sp : Sp} {dvs : List V} {E : XK} (q : tl σ H fun vs H1 => sp (vs ++ dvs) H1 Q E) : tCall sp dvs E tl σ H Q := q
theorem w_cb {r : List V → Hp → VK → Prop} (q : tl σ H fun vs H1 => r vs H1 Q) : tCB r tl σ H Q := q
theorem w_tup (q : tl σ H fun xs H1 => rNewT xs H1 Q) : tTup tl σ H Q := q
theorem w_lst (q : tl σ H fun xs H1 => rNewL xs H1 Q) : tLst tl σ H Q := q
theorem w_newT (hl : xs.length ≤ 1000) (q : ∀ p H1, H p = none → Ex H H1 → H1 p = some (.tup xs) → Q (.ref p) H1) : rNewT xs H Q :=
  ⟨Nat.le_trans hl (by decide), fun p hp => q p _ hp (Evl.Ex.new hp) upd_same⟩
theorem w_newL (hl : xs.length ≤ 1000) (q : ∀ p H1, H p = none → Ex H H1 → H1 p = some (.lst xs) → Q (.ref p) H1) : rNewL xs H Q :=
  ⟨Nat.le_trans hl (by decide), fun p hp => q p _ hp (Evl.Ex.new hp) upd_same⟩
theorem w_len (h : SqL K H a xs) (q : Q (.int xs.length) H) : rLenS K [.ref a] H Q := ⟨a, xs, rfl, .inl h, q⟩
theorem w_lenT (h : SqT K H a xs) (q : Q (.int xs.length) H) : rLenS K [.ref a] H Q := ⟨a, xs, rfl, .inr h, q⟩
theorem w_list (h : SqL K H a xs) (q : ∀ p H1, H p = none → Ex H H1 → H1 p = some (.lst xs) → Q (.ref p) H1) : rListS K [.ref a] H Q :=
  ⟨a, xs, rfl, .inl h, fun p hp => q p _ hp (Evl.Ex.new hp) upd_same⟩
theorem w_sum (h : SqL K H a (iL ns)) (q : Q (.int ns.sum) H) : rSum K [.ref a] H Q := ⟨a, ns, rfl, h, q⟩
theorem w_divmod (h : CDiv i j) (q : ∀ p H1, H p = none → Ex H H1 → H1 p = some (.tup [.int (i / j), .int (i % j)]) → Q (.ref p) H1) : rDivmod [.int i, .int j] H Q :=
  ⟨i, j, rfl, h, fun p hp => q p _ hp (Evl.Ex.new hp) upd_same⟩
/-! ### items, slices -/
theorem w_ixL (h : SqL K H a xs) (e : atI xs i = some v) (q : Q v H) : rIxL K (.ref a) (.int i) H Q := ⟨a, xs, i, v, rfl, rfl, h, e, q⟩
theorem w_ixT (h : SqT K H a xs) (e : atI xs i = some v) (q : Q v H) : rIxT K (.ref a) (.int i) H Q := ⟨a, xs, i, v, rfl, rfl, h, e, q⟩
theorem w_sl {rs : V → Option Int → Option Int → Hp → VK → Prop} {t1 t2 : TO} (q : te σ H fun x H1 => t1 σ H1 fun l H2 => t2 σ H2 fun h H3 => rs x l h H3 Q) : tSl rs te t1 t2 σ H Q := q
theorem w_part {QO : Option Int → Hp → Prop} (q : te σ H (kI QO)) : tPart te σ H QO := q
theorem w_kI {QO : Option Int → Hp → Prop} (q : QO (some i) H) : kI QO (.int i) H := ⟨i, rfl, q⟩
theorem w_noPart {QO : Option Int → Hp → Prop} (q : QO none H) : tNoPart σ H QO := q
theorem w_slL {lo hi : Option Int} (h : SqL K H a xs) (q : ∀ p H1, H p = none → Ex H H1 → H1 p = some (.lst (cutV xs lo hi)) → Q (.ref p) H1) : rSlL K (.ref a) lo hi H Q :=
  ⟨a, xs, rfl, h, fun p hp => q p _ hp (Evl.Ex.new hp) upd_same⟩
theorem w_lenI (h : SqL K H a (iL ns)) (q : Q (.int ns.length) H) : rLenS K [.ref a] H Q := ⟨a, iL ns, rfl, .inl h, by rw [List.length_map]; exact q⟩
theorem w_ixI {k : Nat} {n : Int} (h : SqL K H a (iL ns)) (e : i = (k : Int)) (e2 : ns[k]? = some n) (q : Q (.int n) H) : rIxL K (.ref a) (.int i) H Q :=
  ⟨a, iL ns, i, .int n, rfl, rfl, h, by rw [e]; exact atI_nat (by rw [List.getElem?_map, e2]; rfl), q⟩
/-- an item of a list at an open place in its bounds -/
theorem w_ixD (h : SqL K H a (iL ns)) (h0 : 0 ≤ i) (h1 : i < ns.length) (q : Q (.int (ns.getD i.toNat 0)) H) : rIxL K (.ref a) (.int i) H Q := by
  have hl : i.toNat < ns.length := by omega
  have e : ns[i.toNat]? = some (ns.getD i.toNat 0) := by
    rw [List.getD_eq_getElem?_getD, List.getElem?_eq_getElem hl]
    rfl
  exact w_ixI h (k := i.toNat) (by omega) e q
theorem cut_to {k : Nat} (ns : List Int) : cutV (iL ns) none (some (k : Int)) = iL (ns.take k) := by
  have e : cutV (iL ns) none (some (k : Int)) = (iL ns).take (min k (iL ns).length) := by
    show ((iL ns).drop (HT.sIx (iL ns).length 0 none)).take (HT.sIx (iL ns).length (iL ns).length (some (k : Int)) - HT.sIx (iL ns).length 0 none) = _
    rw [HT.sIx_none, HT.sIx_nat]
    rfl
  rw [e]
  show (ns.map V.int).take (min k (ns.map V.int).length) = (ns.take k).map V.int
  rw [List.map_take]
  by_cases h : k ≤ (ns.map V.int).length
  · rw [Nat.min_eq_left h]
  · rw [Nat.min_eq_right (by omega), List.take_of_length_le (Nat.le_refl _), List.take_of_length_le (by omega)]
theorem cut_last (xs : List V) : cutV xs none (some (-1)) = xs.take (xs.length - 1) := by
  have e : HT.sIx xs.length xs.length (some (-1)) = xs.length - 1 := by
    show (if (-1 : Int) < 0 then ((-1 : Int) + (xs.length : Int)).toNat else min (-1 : Int).toNat xs.length) = xs.length - 1
    rw [if_pos (by decide)]
    omega
  show (xs.drop (HT.sIx xs.length 0 none)).take (HT.sIx xs.length xs.length (some (-1)) - HT.sIx xs.length 0 none) = _
  rw [HT.sIx_none, e]
  rfl
theorem cut_from {k : Nat} (ns : List Int) : cutV (iL ns) (some (k : Int)) none = iL (ns.drop k) := by
  show ((iL ns).drop (HT.sIx (iL ns).length 0 (some (k : Int)))).take (HT.sIx (iL ns).length (iL ns).length none - HT.sIx (iL ns).length 0 (some (k : Int))) = _
  rw [HT.sIx_none, HT.sIx_nat]
  show ((ns.map V.int).drop (min k (ns.map V.int).length)).take _ = (ns.drop k).map V.int
  rw [List.take_of_length_le (by rw [List.length_drop]; exact Nat.le_refl _), List.map_drop]
  by_cases h : k ≤ (ns.map V.int).length
  · rw [Nat.min_eq_left h]
  · rw [Nat.min_eq_right (by omega), List.drop_length, List.drop_eq_nil_of_le (by omega)]
theorem cut_both {k m : Nat} (ns : List Int) (hkm : k ≤ m) : cutV (iL ns) (some (k : Int)) (some (m : Int)) = iL ((ns.take m).drop k) := by
  show ((iL ns).drop (HT.sIx (iL ns).length 0 (some (k : Int)))).take (HT.sIx (iL ns).length (iL ns).length (some (m : Int)) - HT.sIx (iL ns).length 0 (some (k : Int))) = _
  rw [HT.sIx_nat, HT.sIx_nat, ← List.drop_take]
  show ((ns.map V.int).take (min m (ns.map V.int).length)).drop (min k (ns.map V.int).length) = ((ns.take m).drop k).map V.int
  rw [List.map_drop, List.map_take]
  by_cases h : m ≤ (ns.map V.int).length
  · rw [Nat.min_eq_left h, Nat.min_eq_left (by omega)]
  · have e : min m (ns.map V.int).length = (ns.map V.int).length := Nat.min_eq_right (by omega)
    rw [e, List.take_of_length_le (Nat.le_refl _), List.take_of_length_le (by omega)]
    by_cases h2 : k ≤ (ns.map V.int).length
    · rw [Nat.min_eq_left h2]
    · rw [Nat.min_eq_right (by omega), List.drop_length, List.drop_eq_nil_of_le (by omega)]
/-- counts[:sign] -/
theorem w_slTo (h : SqL K H a (iL ns)) (h0 : 0 ≤ i) (q : ∀ p H1, H p = none → Ex H H1 → H1 p = some (.lst (iL (ns.take i.toNat))) → Q (.ref p) H1) : rSlL K (.ref a) none (some i) H Q :=
  w_slL h fun p H1 hp e h1 => q p H1 hp e (by
    have e2 : i = ((i.toNat : Nat) : Int) := by omega
    rw [e2] at h1
    rw [cut_to] at h1
    exact h1)
/-! ### methods of lists, isinstance -/
theorem w_bm {T : String} {r : V → List V → Hp → VK → Prop} (q : te σ H fun x H1 => tyV K T x H1 ∧ tl σ H1 fun xs H2 => r x xs H2 Q) : tBM K T r te tl σ H Q := q
theorem w_bm0 {T : String} {r : V → List V → Hp → VK → Prop} (q : te σ H fun x H1 => tyV K T x H1 ∧ r x [] H1 Q) : tBM0 K T r te σ H Q := q
theorem w_tyL {B : Prop} (h : H a = some (.lst xs)) (q : B) : tyV K "list" (.ref a) H ∧ B := ⟨.inl ⟨rfl, _, SqL.of h⟩, q⟩
theorem w_append (h : H a = some (.lst xs)) (hz : xs.length < 100000) (q : Q .non (upd H a (.lst (xs ++ [y])))) : rAppend (.ref a) [y] H Q := ⟨a, xs, y, rfl, rfl, h, Evl.sz_lt hz, q⟩
theorem w_pop (h : H a = some (.lst (xs ++ [y]))) (q : Q y (upd H a (.lst xs))) : rPop (.ref a) [] H Q := ⟨a, xs ++ [y], y, rfl, rfl, h, by simp, by rw [List.dropLast_concat]; exact q⟩
theorem w_isi {t u : Value} {b : Bool} (hx : TyX K H x t) (hc : ClsV y u) (hk : PySem.W.kitOne K t u = some b) (q : Q (.bl b) H) : rIsi K [x, y] H Q := ⟨x, y, t, u, b, rfl, hc, hx, hk, q⟩
theorem w_isiT {n m : String} {b : Bool} (hx : TyX K H x (.type n)) (hk : kitB n m = some b) (q : Q (.bl b) H) : rIsi K [x, .ty m] H Q := w_isi hx (.ty m) (kit_ty hk) q
theorem w_isiII (q : Q (.bl true) H) : rIsi K [.int i, .ty "int"] H Q := w_isiT (.base (.int i)) (by decide +kernel) q
theorem w_isiIB (q : Q (.bl false) H) : rIsi K [.int i, .ty "bool"] H Q := w_isiT (.base (.int i)) (by decide +kernel) q
theorem w_isiSS {z : Str} (q : Q (.bl true) H) : rIsi K [.str z, .ty "str"] H Q := w_isiT (.base (.str z)) (by decide +kernel) q
theorem w_isiLL (h : H a = some (.lst xs)) (q : Q (.bl true) H) : rIsi K [.ref a, .ty "list"] H Q := w_isiT (.base (.lst h)) (by decide +kernel) q
theorem w_isiUU (h : H a = some (.tup xs)) (q : Q (.bl true) H) : rIsi K [.ref a, .ty "tuple"] H Q := w_isiT (.base (.tup h)) (by decide +kernel) q
/-! ### statements -/
theorem w_seq (q : s1 { D with nx := s2 D } σ H) : tSeq s1 s2 D σ H := q
theorem w_asg {g : TG} (q : te σ H fun x H1 => g x σ H1 D.nx) : tAsg te g D σ H := q
theorem w_gName {k : Nat} {R : L2.St → Hp → Prop} (q : R (σ.set k (some v)) H) : gName k v σ H R := q
theorem w_gSub {ts : TSet} {R : L2.St → Hp → Prop} (q : ta σ H fun o H1 => tb σ H1 fun i H2 => ts o i v H2 fun H3 => R σ H3) : gSub ta tb ts v σ H R := q
theorem w_setL {k : Nat} {R : Hp → Prop} (h : H a = some (.lst xs)) (e : i = (k : Int)) (hk : k < xs.length) (q : R (upd H a (.lst (xs.set k v)))) : rSetL (.ref a) (.int i) v H R :=
  ⟨a, xs, i, k, rfl, rfl, h, by rw [e]; exact Evl.ixN_nat hk, q⟩
theorem w_ret (q : te σ H D.rt) : tRet te D σ H := q
theorem w_retN (q : D.rt .non H) : tRetN D σ H := q
theorem w_drop (q : te σ H fun _ H1 => D.nx σ H1) : tDrop te D σ H := q
theorem w_if (q : c σ H fun b H1 => if b = true then s1 D σ H1 else s2 D σ H1) : tIfS c s1 s2 D σ H := q
theorem w_next (q : D.nx σ H) : tNext D σ H := q
theorem w_cut (Mid : L2.St → Hp → Prop) (q : s1 { D with nx := Mid } σ H) (r : ∀ σ' H', Mid σ' H' → s2 D σ' H') : Evl.tCut s1 s2 D σ H := ⟨Mid, q, r⟩
/-! ### loops -/
/-- what a for asks once its iterator has come -/
def rFor (J : It) (g : TG) (tb : TS) : TS := fun D σ H1 => ∃ W : Nat → Nat → L2.St → Hp → Prop, (∃ m, W 0 m σ H1) ∧ ∀ i m σ H, W i m σ H →
  (J.stop i H ∧ D.nx σ H) ∨ (J.go i H ∧ ∃ N : L2.St → Hp → Prop, (∀ σ' H', N σ' H' → ∃ m', m' < m ∧ W (i + 1) m' σ' H') ∧ ∀ x H', J.yld i H x H' → g x σ H' fun σ2 H2 => tb { D with nx := N, ct := N, bk := D.nx } σ2 H2)
def kItl (K : PySem.W.Frag) (R : It → Hp → Prop) : VK := fun x H => ∃ a, x = .ref a ∧ (∃ xs, SqL K H a xs) ∧ R (Itl K a) H
def kIr1 (R : It → Hp → Prop) : List V → Hp → Prop := fun vs H => ∃ j : Int, vs = [.int j] ∧ -(2 ^ 62) ≤ j ∧ j < 2 ^ 62 ∧ R (Itr 0 j.toNat) H
def kIr2 (R : It → Hp → Prop) : List V → Hp → Prop := fun vs H => ∃ i j : Int, vs = [.int i, .int j] ∧ (-(2 ^ 62) ≤ i ∧ i < 2 ^ 62 ∧ -(2 ^ 62) ≤ j ∧ j < 2 ^ 62) ∧ R (Itr i (j - i).toNat) H
def kItv (K : PySem.W.Frag) (R : It → Hp → Prop) : List V → Hp → Prop := fun vs H => ∃ (a : Addr) (xs : List V), vs = [.ref a] ∧ SqL K H a xs ∧ R (Itv K a xs.length) H
theorem w_for {wi : TI} {g : TG} (q : wi σ H fun J H1 => rFor J g s1 D σ H1) : tFor wi g s1 D σ H := q
variable {R : It → Hp → Prop}
theorem w_iList (q : te σ H (kItl K R)) : iList K te σ H R := q
theorem w_kItl (h : SqL K H a xs) (q : R (Itl K a) H) : kItl K R (.ref a) H := ⟨a, rfl, ⟨xs, h⟩, q⟩
theorem w_iR1 (q : tl σ H (kIr1 R)) : iRng1 tl σ H R := q
theorem w_kIr1 (h0 : -1000000000 ≤ j) (h1 : j ≤ 1000000000) (q : R (Itr 0 j.toNat) H) : kIr1 R [.int j] H := ⟨j, rfl, Int.le_trans (by decide) h0, Int.lt_of_le_of_lt h1 (by decide), q⟩
theorem w_iR2 (q : tl σ H (kIr2 R)) : iRng2 tl σ H R := q
theorem w_kIr2 (h0 : -1000000000 ≤ i) (h1 : i ≤ 1000000000) (h2 : -1000000000 ≤ j) (h3 : j ≤ 1000000000) (q : R (Itr i (j - i).toNat) H) : kIr2 R [.int i, .int j] H :=
  ⟨i, j, rfl, ⟨Int.le_trans (by decide) h0, Int.lt_of_le_of_lt h1 (by decide), Int.le_trans (by decide) h2, Int.lt_of_le_of_lt h3 (by decide)⟩, q⟩
theorem w_iRev (q : tl σ H (kItv K R)) : iRev K tl σ H R := q
theorem w_kItv (h : SqL K H a xs) (q : R (Itv K a xs.length) H) : kItv K R [.ref a] H := ⟨a, xs, rfl, h, q⟩
/-- over a list of ints -/
theorem w_loopI {k : Nat} (ns : List Int) (Pv : Nat → L2.St → Hp → Prop) (h0 : Pv 0 σ H) (hl : ∀ i σ H, Pv i σ H → SqL K H a (iL ns))
    (hs : ∀ i n σ H, ns[i]? = some n → i < ns.length → Pv i σ H → s1 { D with nx := Pv (i + 1), ct := Pv (i + 1), bk := D.nx } (σ.set k (some (.int n))) H) (hd : ∀ σ H, Pv ns.length σ H → D.nx σ H) : rFor (Itl K a) (gName k) s1 D σ H :=
  for_list (xs := iL ns) Pv h0 (fun i σ H _ p => hl i σ H p) (fun i x σ H hi p => by
    rw [List.getElem?_map] at hi
    cases e : ns[i]? with
    | none => rw [e] at hi; cases hi
    | some n =>
      rw [e] at hi
      cases hi
      exact hs i n σ H e (List.getElem?_eq_some_iff.mp e).1 p) (fun σ H p => hd σ H (by rw [List.length_map] at p; exact p))
/-- over a list of ints from its end: so many taken -/
theorem w_loopV {k : Nat} (ns : List Int) {m : Nat} (hm : m = ns.length) (Pv : Nat → L2.St → Hp → Prop) (h0 : Pv 0 σ H) (hl : ∀ i σ H, Pv i σ H → SqL K H a (iL ns))
    (hs : ∀ i n σ H, ns[ns.length - 1 - i]? = some n → i < ns.length → Pv i σ H → s1 { D with nx := Pv (i + 1), ct := Pv (i + 1), bk := D.nx } (σ.set k (some (.int n))) H) (hd : ∀ σ H, Pv ns.length σ H → D.nx σ H) : rFor (Itv K a m) (gName k) s1 D σ H := by
  have e0 : m = (iL ns).length := by rw [List.length_map]; exact hm
  subst e0
  exact RT.for_Itv (xs := iL ns) Pv h0 (fun i σ H p => hl i σ H p) (fun i x σ H hlt hi p => by
    rw [List.length_map] at hlt
    rw [List.length_map, List.getElem?_map] at hi
    cases e : ns[ns.length - 1 - i]? with
    | none => rw [e] at hi; cases hi
    | some n =>
      rw [e] at hi
      cases hi
      exact hs i n σ H e hlt p) (fun σ H p => hd σ H (by rw [List.length_map] at p; exact p))
/-- over range(n) -/
theorem w_loopR {k n : Nat} (Pv : Nat → L2.St → Hp → Prop) (h0 : Pv 0 σ H)
    (hs : ∀ (i : Nat) σ H, i < n → Pv i σ H → s1 { D with nx := Pv (i + 1), ct := Pv (i + 1), bk := D.nx } (σ.set k (some (.int (i : Int)))) H) (hd : ∀ σ H, Pv n σ H → D.nx σ H) : rFor (Itr 0 n) (gName k) s1 D σ H :=
  for_range (lo := 0) Pv h0 (fun i σ H hi p => by
    have e : (0 : Int) + (i : Int) = (i : Int) := Int.zero_add _
    rw [e]
    exact hs i σ H hi p) hd
/-- over range(lo, hi) -/
theorem w_loopS {k n : Nat} {lo : Int} (Pv : Nat → L2.St → Hp → Prop) (h0 : Pv 0 σ H)
    (hs : ∀ (i : Nat) σ H, i < n → Pv i σ H → s1 { D with nx := Pv (i + 1), ct := Pv (i + 1), bk := D.nx } (σ.set k (some (.int (lo + (i : Int))))) H) (hd : ∀ σ H, Pv n σ H → D.nx σ H) : rFor (Itr lo n) (gName k) s1 D σ H :=
  for_range (lo := lo) Pv h0 hs hd
/-- list(range(n)) -/
def upto (n : Nat) : List Int := (List.range n).map fun (k : Nat) => (k : Int)
theorem mem_upto {n : Nat} {s : Int} : s ∈ upto n ↔ 0 ≤ s ∧ s < n := by
  constructor
  · intro h
    obtain ⟨k, hk, rfl⟩ := List.mem_map.mp h
    have := List.mem_range.mp hk
    omega
  · rintro ⟨h0, h1⟩
    exact List.mem_map.mpr ⟨s.toNat, List.mem_range.mpr (by omega), by omega⟩
def kLr (Q : VK) : VK := fun x H1 => ∃ n : Int, x = .int n ∧ (RgOk 0 n ∧ ∀ q, H1 q = none → Q (.ref q) (upd H1 q (.lst (rgV 0 n))))
theorem rg_upto (n : Nat) : rgV 0 (n : Int) = iL (upto n) := by
  show (List.range ((n : Int) - 0).toNat).map _ = ((List.range n).map _).map V.int
  have e : ((n : Int) - 0).toNat = n := by omega
  rw [e, List.map_map]
  refine List.map_congr_left fun k _ => ?_
  show V.int (0 + (k : Int)) = V.int (k : Int)
  rw [Int.zero_add]
theorem w_kLr (h0 : 0 ≤ i) (h1 : i ≤ 1000000) (q : ∀ p H1, H p = none → Ex H H1 → H1 p = some (.lst (iL (upto i.toNat))) → Q (.ref p) H1) : kLr Q (.int i) H :=
  ⟨i, rfl, RgOk.of_le (by decide) (by omega) (by decide) h0, fun p hp => q p _ hp (Evl.Ex.new hp) (by
    rw [upd_same]
    have e : i = ((i.toNat : Nat) : Int) := by omega
    rw [e, rg_upto, Int.toNat_natCast])⟩
theorem w_lrg (q : te σ H (kLr Q)) : tLstRg (tRg1 te) σ H Q := q
def kRv (R : It → Hp → Prop) : VK := fun x H1 => ∃ n : Int, x = .int n ∧ (-(2 ^ 62) ≤ (0 : Int) ∧ (0 : Int) < 2 ^ 62 ∧ -(2 ^ 62) ≤ n ∧ n < 2 ^ 62 ∧ R (Itc (0 + (((n - 0).toNat : Nat) : Int) - 1) (-1) (n - 0).toNat) H1)
theorem w_iRv (q : te σ H (kRv R)) : iRevR (tRg1 te) σ H R := q
theorem w_kRv (h0 : 0 ≤ i) (h1 : i ≤ 1000000000) (q : R (Itc ((i.toNat : Int) - 1) (-1) i.toNat) H) : kRv R (.int i) H :=
  ⟨i, rfl, by decide, by decide, Int.le_trans (by decide) h0, Int.lt_of_le_of_lt h1 (by decide), by
    have e1 : (0 : Int) + (((i - 0).toNat : Nat) : Int) - 1 = (i.toNat : Int) - 1 := by omega
    have e2 : (i - 0).toNat = i.toNat := by omega
    rw [e1, e2]
    exact q⟩
/-- over reversed(range(m)) -/
theorem w_loopD {k m : Nat} (Pv : Nat → L2.St → Hp → Prop) (h0 : Pv 0 σ H)
    (hs : ∀ (i : Nat) σ H, i < m → Pv i σ H → s1 { D with nx := Pv (i + 1), ct := Pv (i + 1), bk := D.nx } (σ.set k (some (.int ((m - 1 - i : Nat) : Int)))) H) (hd : ∀ σ H, Pv m σ H → D.nx σ H) : rFor (Itc ((m : Int) - 1) (-1) m) (gName k) s1 D σ H :=
  for_rangeC (lo := (m : Int) - 1) (c := -1) Pv h0 (fun i σ H hi p => by
    have e : (m : Int) - 1 + ((i : Nat) : Int) * (-1) = ((m - 1 - i : Nat) : Int) := by omega
    rw [e]
    exact hs i σ H hi p) hd
/-- while: W by a measure -/
theorem w_while (W : Nat → L2.St → Hp → Prop) (m0 : Nat) (h0 : W m0 σ H)
    (hs : ∀ m σ H, W m σ H → c σ H fun b H1 => if b = true then ∃ N : L2.St → Hp → Prop, (∀ σ' H', N σ' H' → ∃ m', m' < m ∧ W m' σ' H') ∧ s1 { D with nx := N, ct := N, bk := D.nx } σ H1 else D.nx σ H1) : tWhile c s1 D σ H := ⟨W, ⟨m0, h0⟩, hs⟩
/-- one turn: W again, by less -/
theorem w_turn {W : Nat → L2.St → Hp → Prop} {m : Nat} (q : s1 { D with nx := fun σ' H' => ∃ m', m' < m ∧ W m' σ' H', ct := fun σ' H' => ∃ m', m' < m ∧ W m' σ' H', bk := D.nx } σ H) :
    ∃ N : L2.St → Hp → Prop, (∀ σ' H', N σ' H' → ∃ m', m' < m ∧ W m' σ' H') ∧ s1 { D with nx := N, ct := N, bk := D.nx } σ H := ⟨_, fun _ _ h => h, q⟩
/-! ### comprehensions -/
def rLc (J : It) (g : TG) (tt : TT) (te : TE) (vs : List Nat) (σ : L2.St) (H1 : Hp) (Q : VK) : Prop := ∀ D, H1 D = none → ∃ W : Nat → Nat → Hp → Prop, (∃ m, W 0 m (upd H1 D (.lst []))) ∧ ∀ i m H, W i m H →
  (J.stop i H ∧ Q (.ref D) H) ∨ (J.go i H ∧ ∃ Nx : Hp → Prop, (∀ H', Nx H' → ∃ m', m' < m ∧ W (i + 1) m' H') ∧ ∀ x H', J.yld i H x H' → g x (wipe σ vs) H' fun σ2 H2 => wipe σ2 vs = wipe σ vs ∧ tt σ2 H2 fun b H3 => if b = true then te σ2 H3 fun y H4 => ∃ acc, H4 D = some (.lst acc) ∧ acc.length < sizeLine ∧ Nx (upd H4 D (.lst (acc ++ [y]))) else Nx H3)
theorem w_lc {wi : TI} {g : TG} {vs : List Nat} (q : wi σ H fun J H1 => rLc J g t te vs σ H1 Q) : tLc wi g t te vs σ H Q := q
/-- what a part gives, the heap but grown -/
def gv (v : V) (H : Hp) : VK := fun x H1 => x = v ∧ Ex H H1
def gb (b : Bool) (H : Hp) : Bool → Hp → Prop := fun x H1 => x = b ∧ Ex H H1
theorem given_all (n : Nat) (v : Nat → V) : Evl.given n (fun _ => true) v = (List.range n).map v := by
  unfold Evl.given
  rw [List.filter_eq_self.mpr (fun _ _ => rfl)]
theorem ev_yes : Evl.EvT tYes σ H true := fun H1 _ _ q => q H1 (Evl.Ex.refl H1)
/-- [e for k in range(n) if c] -/
theorem w_lcF {n k : Nat} {vs : List Nat} (f : Nat → Bool) (g : Nat → V) (hn : n ≤ 40000) (hw : ∀ x, wipe ((wipe σ vs).set k (some x)) vs = wipe σ vs)
    (ht : ∀ i H1, Ex H H1 → i < n → Evl.EvT t ((wipe σ vs).set k (some (.int (i : Int)))) H1 (f i))
    (he : ∀ i H1, Ex H H1 → i < n → f i = true → Evl.Ev te ((wipe σ vs).set k (some (.int (i : Int)))) H1 (g i))
    (q : ∀ p H1, H p = none → Ex H H1 → H1 p = some (.lst (Evl.given n f g)) → Q (.ref p) H1) : rLc (Itr 0 n) (gName k) t te vs σ H Q := fun Dl hD =>
  lc_range (lo := 0) (n := n) (Evl.Cw H f g Dl) ⟨hD, Evl.Ex.new hD, upd_same⟩ (fun i H' hi p => by
    have e0 : (0 : Int) + (i : Int) = (i : Int) := Int.zero_add _
    show wipe ((wipe σ vs).set k (some (.int ((0 : Int) + (i : Int))))) vs = wipe σ vs ∧ t ((wipe σ vs).set k (some (.int ((0 : Int) + (i : Int))))) H' fun b H3 => if b = true then te ((wipe σ vs).set k (some (.int ((0 : Int) + (i : Int))))) H3 fun y H4 => ∃ acc, H4 Dl = some (.lst acc) ∧ acc.length < sizeLine ∧ Evl.Cw H f g Dl (i + 1) (upd H4 Dl (.lst (acc ++ [y]))) else Evl.Cw H f g Dl (i + 1) H3
    rw [e0]
    exact ⟨hw _, Evl.cw_turn p (by omega) (ht i H (Evl.Ex.refl H) hi) (fun hf => he i H (Evl.Ex.refl H) hi hf)⟩) (fun H' p => q Dl H' hD p.2.1 p.2.2)
/-- [e for k in range(n)] -/
theorem w_lcR {n k : Nat} {vs : List Nat} (g : Nat → V) (hn : n ≤ 40000) (hw : ∀ x, wipe ((wipe σ vs).set k (some x)) vs = wipe σ vs)
    (he : ∀ i H1, Ex H H1 → i < n → Evl.Ev te ((wipe σ vs).set k (some (.int (i : Int)))) H1 (g i))
    (q : ∀ p H1, H p = none → Ex H H1 → H1 p = some (.lst ((List.range n).map g)) → Q (.ref p) H1) : rLc (Itr 0 n) (gName k) tYes te vs σ H Q :=
  w_lcF (fun _ => true) g hn hw (fun _ _ _ _ => ev_yes) (fun i H1 e hi _ => he i H1 e hi) fun p H1 hp e h => q p H1 hp e (by rw [given_all] at h; exact h)
/-- [e for x in xs if c] -/
theorem w_lcLF {k : Nat} {vs : List Nat} (f : Nat → Bool) (g : Nat → V) (hx : SqL K H a xs) (hn : xs.length ≤ 40000) (hw : ∀ x, wipe ((wipe σ vs).set k (some x)) vs = wipe σ vs)
    (ht : ∀ (i : Nat) (x : V) H1, Ex H H1 → xs[i]? = some x → Evl.EvT t ((wipe σ vs).set k (some x)) H1 (f i))
    (he : ∀ (i : Nat) (x : V) H1, Ex H H1 → xs[i]? = some x → f i = true → Evl.Ev te ((wipe σ vs).set k (some x)) H1 (g i))
    (q : ∀ p H1, H p = none → Ex H H1 → H1 p = some (.lst (Evl.given xs.length f g)) → Q (.ref p) H1) : rLc (Itl K a) (gName k) t te vs σ H Q := fun Dl hD =>
  lc_list (xs := xs) (Evl.Cw H f g Dl) ⟨hD, Evl.Ex.new hD, upd_same⟩ (fun i H' _ p => Evl.ex_l p.2.1 hx) (fun i x H' hi p => ⟨hw x, Evl.cw_turn p (by have := (List.getElem?_eq_some_iff.mp hi).1; omega) (ht i x H (Evl.Ex.refl H) hi) (fun hf => he i x H (Evl.Ex.refl H) hi hf)⟩)
    (fun H' p => q Dl H' hD p.2.1 p.2.2)
/-- [e for x in ns], the items ints -/
theorem w_lcI {k : Nat} {vs : List Nat} {ns : List Int} (g : Int → V) (hx : SqL K H a (iL ns)) (hn : ns.length ≤ 40000) (hw : ∀ x, wipe ((wipe σ vs).set k (some x)) vs = wipe σ vs)
    (he : ∀ (n : Int) H1, Ex H H1 → n ∈ ns → Evl.Ev te ((wipe σ vs).set k (some (.int n))) H1 (g n))
    (q : ∀ p H1, H p = none → Ex H H1 → H1 p = some (.lst (ns.map g)) → Q (.ref p) H1) : rLc (Itl K a) (gName k) tYes te vs σ H Q :=
  w_lcLF (fun _ => true) (fun i => g (ns.getD i 0)) hx (by rw [List.length_map]; exact hn) hw (fun _ _ _ _ _ => ev_yes) (fun i x H1 e hi _ => by
    rw [List.getElem?_map] at hi
    cases e2 : ns[i]? with
    | none => rw [e2] at hi; cases hi
    | some n =>
      rw [e2] at hi
      cases hi
      have e3 : ns.getD i 0 = n := by rw [List.getD_eq_getElem?_getD, e2]; rfl
      rw [e3]
      exact he n H1 e (List.mem_of_getElem? e2)) fun p H1 hp e h => q p H1 hp e (by
    rw [given_all, List.length_map] at h
    have e4 : (List.range ns.length).map (fun i => g (ns.getD i 0)) = ns.map g := by
      refine List.ext_getElem? fun i => ?_
      rw [List.getElem?_map, List.getElem?_map]
      by_cases hi : i < ns.length
      · rw [List.getElem?_range hi, List.getElem?_eq_getElem hi]
        show some (g (ns.getD i 0)) = some (g ns[i])
        rw [List.getD_eq_getElem?_getD, List.getElem?_eq_getElem hi]
        rfl
      · rw [List.getElem?_eq_none (by simpa using hi), List.getElem?_eq_none (by omega)]
        rfl
    rw [e4] at h
    exact h)
/-- a part's value, shown step by step -/
theorem to_ev (h : ∀ H1, Ex H H1 → ∀ Q : VK, (∀ H2, Ex H1 H2 → Q v H2) → te σ H1 Q) : Evl.Ev te σ H v := h
theorem to_evT {b : Bool} (h : ∀ H1, Ex H H1 → ∀ Q : Bool → Hp → Prop, (∀ H2, Ex H1 H2 → Q b H2) → t σ H1 Q) : Evl.EvT t σ H b := h
/-! ### lists of lists of ints -/
def TabAt (K : PySem.W.Frag) (H : Hp) (p : Addr) (ts : List (List Int)) : Prop := ∃ as : List Addr, SqL K H p (as.map V.ref) ∧ as.length = ts.length ∧ ∀ (i : Nat) (x : Addr) (t : List Int), as[i]? = some x → ts[i]? = some t → SqL K H x (iL t)
theorem TabAt.up {p : Addr} {ts : List (List Int)} {H' : Hp} (r : TabAt K H p ts) (e : Ex H H') : TabAt K H' p ts := by
  obtain ⟨as, h1, h2, h3⟩ := r
  exact ⟨as, Evl.ex_l e h1, h2, fun i x t a b => Evl.ex_l e (h3 i x t a b)⟩
theorem w_ixTab {ts : List (List Int)} {k : Nat} {t : List Int} (r : TabAt K H a ts) (e : i = (k : Int)) (h : ts[k]? = some t) (q : ∀ x, SqL K H x (iL t) → Q (.ref x) H) : rIxL K (.ref a) (.int i) H Q := by
  obtain ⟨as, h1, h2, h3⟩ := r
  obtain ⟨x, hx⟩ : ∃ x, as[k]? = some x := ⟨_, List.getElem?_eq_getElem (by rw [h2]; exact (List.getElem?_eq_some_iff.mp h).1)⟩
  subst e
  exact w_ixL h1 (v := .ref x) (atI_nat (by rw [List.getElem?_map, hx]; rfl)) (q x (h3 k x t hx h))
theorem w_lenTab {ts : List (List Int)} (r : TabAt K H a ts) (q : Q (.int ts.length) H) : rLenS K [.ref a] H Q := by
  obtain ⟨as, h1, h2, h3⟩ := r
  exact w_len h1 (by rw [List.length_map, h2]; exact q)
theorem w_loopTab {k : Nat} {ts : List (List Int)} (r : TabAt K H a ts) (Pv : Nat → L2.St → Prop) (h0 : Pv 0 σ)
    (hs : ∀ (i : Nat) (t : List Int) (x : Addr) σ, ts[i]? = some t → SqL K H x (iL t) → Pv i σ → s1 { D with nx := fun σ' H' => H' = H ∧ Pv (i + 1) σ', ct := fun σ' H' => H' = H ∧ Pv (i + 1) σ', bk := D.nx } (σ.set k (some (.ref x))) H)
    (hd : ∀ σ, Pv ts.length σ → D.nx σ H) : rFor (Itl K a) (gName k) s1 D σ H := by
  obtain ⟨as, h1, h2, h3⟩ := r
  refine for_list (xs := as.map V.ref) (fun i σ H' => H' = H ∧ Pv i σ) ⟨rfl, h0⟩ (fun i σ H' _ p => by rw [p.1]; exact h1) (fun i x σ H' hi p => ?_) (fun σ H' p => ?_)
  · obtain ⟨rfl, pv⟩ := p
    rw [List.getElem?_map] at hi
    cases e : as[i]? with
    | none => rw [e] at hi; cases hi
    | some n =>
      rw [e] at hi
      cases hi
      obtain ⟨t, ht⟩ : ∃ t, ts[i]? = some t := ⟨_, List.getElem?_eq_getElem (by rw [← h2]; exact (List.getElem?_eq_some_iff.mp e).1)⟩
      exact hs i t n σ ht (h3 i n t e ht) pv
  · obtain ⟨rfl, pv⟩ := p
    rw [List.length_map, h2] at pv
    exact hd σ pv
def tabD (ts : List (List Int)) : List PyData := ts.map fun t => .list (t.map PyData.int)
theorem dpTabAll : ∀ (as : List Addr) (ts : List (List Int)), as.length = ts.length → (∀ (i : Nat) (x : Addr) (t : List Int), as[i]? = some x → ts[i]? = some t → SqL K H x (iL t)) → DpAll K H (as.map V.ref) (tabD ts)
  | [], [], _, _ => .nil
  | x :: r, t :: u, h, q => .cons (dpL (q 0 x t rfl rfl)) (dpTabAll r u (Nat.succ.inj h) fun i y z a b => q (i + 1) y z a b)
theorem dpTab {ts : List (List Int)} (r : TabAt K H a ts) : Dp K H (.ref a) (.list (tabD ts)) := by
  obtain ⟨as, h1, h2, h3⟩ := r
  exact .lst h1 (dpTabAll as ts h2 h3)
theorem canTab : ∀ ts : List (List Int), PyData.canLayAll0 (tabD ts) = true
  | [] => rfl
  | t :: r => by
    show PyData.canLayAll0 (PyData.list (t.map PyData.int) :: tabD r) = true
    rw [PyData.canLayAll0, canTab r, PyData.canLay0, canI]
    rfl
theorem depTab : ∀ ts : List (List Int), PyData.depthAll (tabD ts) ≤ 1
  | [] => by simp [tabD, PyData.depthAll]
  | t :: r => by
    show PyData.depthAll (PyData.list (t.map PyData.int) :: tabD r) ≤ 1
    rw [PyData.depthAll, PyData.depth, depI]
    have := depTab r
    omega
theorem w_eq3 {b p1 p2 g1 g2 b1 b2 : Addr} {ts us : List (List Int)} (h1 : SqL K H a [.ref p1, .ref g1, .ref b1]) (h2 : SqL K H b [.ref p2, .ref g2, .ref b2]) (x1 : SqL K H p1 (iL ns)) (x2 : SqL K H p2 (iL ns))
    (y1 : TabAt K H g1 ts) (y2 : TabAt K H g2 ts) (z1 : TabAt K H b1 us) (z2 : TabAt K H b2 us) (q : Q (.bl true) H) : rEqD K (.ref a) (.ref b) H Q := by
  have sh : SeqAt.shaped (.list [.list (ns.map PyData.int), .list (tabD ts), .list (tabD us)]) = true := by
    unfold SeqAt.shaped
    have d1 := depTab ts
    have d2 := depTab us
    simp only [PyData.canLay0, PyData.canLayAll0, canI, canTab, PyData.depth, PyData.depthAll, depI, Bool.true_and, decide_eq_true_eq]
    omega
  refine ⟨_, _, .lst h1 (.cons (dpL x1) (.cons (dpTab y1) (.cons (dpTab z1) .nil))), .lst h2 (.cons (dpL x2) (.cons (dpTab y2) (.cons (dpTab z2) .nil))), sh, sh, ?_⟩
  rw [SeqAt.eqv_refl _ (SeqAt.canLay_of_shaped sh)]
  exact q
def Tw (H : Hp) (g : Nat → List Int) (D : Addr) (i : Nat) (H' : Hp) : Prop := H D = none ∧ Ex H H' ∧ ∃ as : List Addr, H' D = some (.lst (as.map V.ref)) ∧ as.length = i ∧ ∀ (j : Nat) (x : Addr), as[j]? = some x → H' x = some (.lst (iL (g j))) ∧ x ≠ D
theorem tw_turn {g : Nat → List Int} {Dl : Addr} {i : Nat} {H' : Hp} (p : Tw H g Dl i H') (hi : i < 40000) (he : ∀ Q : VK, (∀ p H2, H' p = none → Ex H' H2 → H2 p = some (.lst (iL (g i))) → Q (.ref p) H2) → te σ H' Q) :
    te σ H' fun y H4 => ∃ acc, H4 Dl = some (.lst acc) ∧ acc.length < sizeLine ∧ Tw H g Dl (i + 1) (upd H4 Dl (.lst (acc ++ [y]))) := by
  obtain ⟨hD, e, as, hl, hn, ha⟩ := p
  refine he _ fun x H2 nx e2 hx => ⟨_, e2 _ _ hl, Nat.lt_of_lt_of_le (show (as.map V.ref).length < 40000 by rw [List.length_map]; omega) (by decide), hD, Evl.Ex.mut (e.trans e2) hD, as ++ [x], by rw [upd_same, List.map_append]; rfl, by rw [List.length_append, hn]; rfl, fun j y hj => ?_⟩
  have xD : x ≠ Dl := fun z => by rw [z, hl] at nx; cases nx
  rw [List.getElem?_append] at hj
  split at hj
  · obtain ⟨h1, h2⟩ := ha j y hj
    exact ⟨(upd_ne h2).trans (e2 _ _ h1), h2⟩
  · have : j - as.length = 0 := by
      have := (List.getElem?_eq_some_iff.mp hj).1
      simp at this
      omega
    rw [this] at hj
    have hj : x = y := by simpa using hj
    subst hj
    have : j = i := by omega
    subst this
    exact ⟨(upd_ne xD).trans hx, xD⟩
theorem tw_done {g : Nat → List Int} {Dl : Addr} {n : Nat} {H' : Hp} (p : Tw H g Dl n H') : TabAt K H' Dl ((List.range n).map g) := by
  obtain ⟨hD, e, as, hl, hn, ha⟩ := p
  refine ⟨as, SqL.of hl, by simp [hn], fun i x t h1 h2 => ?_⟩
  obtain ⟨h, e2⟩ := List.getElem?_eq_some_iff.mp h2
  simp at e2
  rw [← e2]
  exact SqL.of (ha i x h1).1
/-- [a new list of ints for k in range(n)] -/
theorem w_lcTab {n k : Nat} {vs : List Nat} (g : Nat → List Int) (hn : n ≤ 40000) (hw : ∀ x, wipe ((wipe σ vs).set k (some x)) vs = wipe σ vs)
    (he : ∀ i H1 (Q : VK), Ex H H1 → i < n → (∀ p H2, H1 p = none → Ex H1 H2 → H2 p = some (.lst (iL (g i))) → Q (.ref p) H2) → te ((wipe σ vs).set k (some (.int (i : Int)))) H1 Q)
    (q : ∀ p H1, H p = none → Ex H H1 → TabAt K H1 p ((List.range n).map g) → Q (.ref p) H1) : rLc (Itr 0 n) (gName k) tYes te vs σ H Q := fun Dl hD =>
  lc_range (lo := 0) (n := n) (Tw H g Dl) ⟨hD, Evl.Ex.new hD, [], upd_same, rfl, fun j x h => by simp at h⟩ (fun i H' hi p => by
    have e0 : (0 : Int) + (i : Int) = (i : Int) := Int.zero_add _
    show wipe ((wipe σ vs).set k (some (.int ((0 : Int) + (i : Int))))) vs = wipe σ vs ∧ tYes ((wipe σ vs).set k (some (.int ((0 : Int) + (i : Int))))) H' fun b H3 => if b = true then te ((wipe σ vs).set k (some (.int ((0 : Int) + (i : Int))))) H3 fun y H4 => ∃ acc, H4 Dl = some (.lst acc) ∧ acc.length < sizeLine ∧ Tw H g Dl (i + 1) (upd H4 Dl (.lst (acc ++ [y]))) else Tw H g Dl (i + 1) H3
    rw [e0]
    exact ⟨hw _, w_tYes (w_iteT (tw_turn p (by omega) fun Q hq => he i H' Q p.2.1 hi hq))⟩) (fun H' p => q Dl H' hD p.2.1 (tw_done p))
/-- .. the lists told apart -/
def Tn (H : Hp) (g : Nat → List Int) (D : Addr) (i : Nat) (H' : Hp) : Prop := H D = none ∧ Ex H H' ∧ ∃ as : List Addr, H' D = some (.lst (as.map V.ref)) ∧ as.length = i ∧ (∀ (j : Nat) (x : Addr), as[j]? = some x → H' x = some (.lst (iL (g j))) ∧ x ≠ D ∧ H x = none) ∧ as.Nodup
theorem tn_turn {g : Nat → List Int} {Dl : Addr} {i : Nat} {H' : Hp} (p : Tn H g Dl i H') (hi : i < 40000) (he : ∀ Q : VK, (∀ p H2, H' p = none → Ex H' H2 → H2 p = some (.lst (iL (g i))) → Q (.ref p) H2) → te σ H' Q) :
    te σ H' fun y H4 => ∃ acc, H4 Dl = some (.lst acc) ∧ acc.length < sizeLine ∧ Tn H g Dl (i + 1) (upd H4 Dl (.lst (acc ++ [y]))) := by
  obtain ⟨hD, e, as, hl, hn, ha, nd⟩ := p
  refine he _ fun x H2 nx e2 hx => ⟨_, e2 _ _ hl, Nat.lt_of_lt_of_le (show (as.map V.ref).length < 40000 by rw [List.length_map]; omega) (by decide), hD, Evl.Ex.mut (e.trans e2) hD, as ++ [x], by rw [upd_same, List.map_append]; rfl, by rw [List.length_append, hn]; rfl, fun j y hj => ?_, ?_⟩
  · have xD : x ≠ Dl := fun z => by rw [z, hl] at nx; cases nx
    rw [List.getElem?_append] at hj
    split at hj
    · obtain ⟨h1, h2, h3⟩ := ha j y hj
      exact ⟨(upd_ne h2).trans (e2 _ _ h1), h2, h3⟩
    · have : j - as.length = 0 := by
        have := (List.getElem?_eq_some_iff.mp hj).1
        simp at this
        omega
      rw [this] at hj
      have hj : x = y := by simpa using hj
      subst hj
      have : j = i := by omega
      subst this
      exact ⟨(upd_ne xD).trans hx, xD, Evl.fresh_back e nx⟩
  · refine List.nodup_append.mpr ⟨nd, by simp, fun a h1 b h2 => ?_⟩
    rw [List.mem_singleton.mp h2]
    intro z
    obtain ⟨j, hj, ej⟩ := List.getElem_of_mem h1
    have := (ha j a (by rw [← ej]; exact List.getElem?_eq_getElem hj)).1
    rw [z, nx] at this
    cases this
theorem w_lcNew {n k : Nat} {vs : List Nat} (g : Nat → List Int) (hn : n ≤ 40000) (hw : ∀ x, wipe ((wipe σ vs).set k (some x)) vs = wipe σ vs)
    (he : ∀ i H1 (Q : VK), Ex H H1 → i < n → (∀ p H2, H1 p = none → Ex H1 H2 → H2 p = some (.lst (iL (g i))) → Q (.ref p) H2) → te ((wipe σ vs).set k (some (.int (i : Int)))) H1 Q)
    (q : ∀ p H1 (as : List Addr), H p = none → Ex H H1 → H1 p = some (.lst (as.map V.ref)) → as.length = n → (∀ (j : Nat) (x : Addr), as[j]? = some x → H1 x = some (.lst (iL (g j))) ∧ x ≠ p ∧ H x = none) → as.Nodup → Q (.ref p) H1) : rLc (Itr 0 n) (gName k) tYes te vs σ H Q := fun Dl hD =>
  lc_range (lo := 0) (n := n) (Tn H g Dl) ⟨hD, Evl.Ex.new hD, [], upd_same, rfl, (fun j x h => by simp at h), List.nodup_nil⟩ (fun i H' hi p => by
    have e0 : (0 : Int) + (i : Int) = (i : Int) := Int.zero_add _
    show wipe ((wipe σ vs).set k (some (.int ((0 : Int) + (i : Int))))) vs = wipe σ vs ∧ tYes ((wipe σ vs).set k (some (.int ((0 : Int) + (i : Int))))) H' fun b H3 => if b = true then te ((wipe σ vs).set k (some (.int ((0 : Int) + (i : Int))))) H3 fun y H4 => ∃ acc, H4 Dl = some (.lst acc) ∧ acc.length < sizeLine ∧ Tn H g Dl (i + 1) (upd H4 Dl (.lst (acc ++ [y]))) else Tn H g Dl (i + 1) H3
    rw [e0]
    exact ⟨hw _, w_tYes (w_iteT (tn_turn p (by omega) fun Q hq => he i H' Q p.2.1 hi hq))⟩) (fun H' ⟨_, e, as, h1, h2, h3, h4⟩ => q Dl H' as hD e h1 h2 h3 h4)
/-- [a new list of ints for x in xs], of a list of lists -/
theorem w_lcTabL {k : Nat} {vs : List Nat} {ts : List (List Int)} (g : Nat → List Int) (r : TabAt K H a ts) (hn : ts.length ≤ 40000) (hw : ∀ x, wipe ((wipe σ vs).set k (some x)) vs = wipe σ vs)
    (he : ∀ (i : Nat) (t : List Int) (x : Addr) H1 (Q : VK), Ex H H1 → ts[i]? = some t → SqL K H1 x (iL t) → (∀ p H2, H1 p = none → Ex H1 H2 → H2 p = some (.lst (iL (g i))) → Q (.ref p) H2) → te ((wipe σ vs).set k (some (.ref x))) H1 Q)
    (q : ∀ p H1, H p = none → Ex H H1 → TabAt K H1 p ((List.range ts.length).map g) → Q (.ref p) H1) : rLc (Itl K a) (gName k) tYes te vs σ H Q := fun Dl hD => by
  obtain ⟨as, h1, h2, h3⟩ := r
  refine lc_list (xs := as.map V.ref) (Tw H g Dl) ⟨hD, Evl.Ex.new hD, [], upd_same, rfl, fun j x h => by simp at h⟩ (fun i H' _ p => Evl.ex_l p.2.1 h1) (fun i x H' hi p => ⟨hw x, w_tYes (w_iteT ?_)⟩) (fun H' p => ?_)
  · rw [List.getElem?_map] at hi
    cases e : as[i]? with
    | none => rw [e] at hi; cases hi
    | some n =>
      rw [e] at hi
      cases hi
      have hi : i < ts.length := by rw [← h2]; exact (List.getElem?_eq_some_iff.mp e).1
      exact tw_turn p (by omega) fun Q hq => he i _ n H' Q p.2.1 (List.getElem?_eq_getElem hi) (Evl.ex_l p.2.1 (h3 i n _ e (List.getElem?_eq_getElem hi))) hq
  · rw [List.length_map, h2] at p
    exact q Dl H' hD p.2.1 (tw_done p)
theorem range_at (ts : List (List Int)) : (List.range ts.length).map (fun i => ts.getD i []) = ts := by
  refine List.ext_getElem (by simp) fun i h1 h2 => ?_
  simp [List.getElem?_eq_getElem h2]
end

/-! ### defs -/
/-- where the classes stand -/
structure Zs where
  plain : Addr
  learner : Addr
  follower : Addr
  stream : Addr
  slots : Addr
  model : Addr
  noshares : Addr
  nopile : Addr
  nosign : Addr
  noslot : Addr
  nomore : Addr
  notext : Addr
  notleaf : Addr
section
variable {P : Program} {w : World} {K : PySem.W.Frag} {mg : Str → Option Value} {base : Heap}
theorem cal_of {x qual : Str} {st : Stmt} {f : Addr} {fd : FuncData} {N ps : List Str} {k : Nat} {sp : Sp} (F : Fun K x qual st f fd) (hm : mg x = some (.ref f)) (b : Binds K fd ps []) (S : FnScope N ps (defScope st)) (len : ∀ vs H Q E, sp vs H Q E → vs.length = ps.length)
    (hbody : ∀ (cdv : Value) (A : Around) (outer : List Env) (s : Shared) (H : Hp) (vs : List V) (Q : VK) (E : XK), Room k (A.deeper (envOfC qual (defScope st) s.heap.objs.size f cdv)) → sp vs H Q E →
      ∃ t, PSs (cxOf CX0 P w K mg base N qual (defScope st) f cdv A outer s H E).nox (defBody st) t ∧ t { nx := fun _ H' => Q .non H', rt := Q } (start N vs) H) : Cal P w K mg base (k + 1) x sp [] :=
  ⟨f, fd, ps, [], F.ok S len hbody, hm, F.kp, b, .nil⟩
end

/-! ### the laws' own small defs -/
/-- script[i], or 0 -/
def cell (ns : List Int) (i : Int) : Int := ns.getD i.toNat 0
def sp__law_cell_at (K : PySem.W.Frag) (_ : Zs) : Sp := fun vs H Q _ => ∃ (a : Addr) (ns : List Int) (i : Int), vs = [.ref a, .int i] ∧ SqL K H a (iL ns) ∧ 0 ≤ i ∧ Q (.int (cell ns i)) H
def sp__law_whole (_ : PySem.W.Frag) (_ : Zs) : Sp := fun vs H Q _ => ∃ (i : Int), vs = [.int i] ∧ Q (.bl true) H
section
variable {K : PySem.W.Frag} {Z : Zs} {H : Hp} {Q : VK} {E : XK} {a : Addr} {ns : List Int} {i : Int}
theorem in_cell (h : SqL K H a (iL ns)) (h0 : 0 ≤ i) (q : Q (.int (cell ns i)) H) : sp__law_cell_at K Z [.ref a, .int i] H Q E := ⟨a, ns, i, rfl, h, h0, q⟩
theorem in_whole (q : Q (.bl true) H) : sp__law_whole K Z [.int i] H Q E := ⟨i, rfl, q⟩
end
/-! ### heaps -/
section
variable {K : PySem.W.Frag} {H H1 H2 : Hp} {a p : Addr} {xs : List V} {o : HO}
theorem sq (h : H a = some (.lst xs)) : SqL K H a xs := .inl (.inl h)
theorem sqt (h : H a = some (.tup xs)) : SqT K H a xs := .inl (.inl h)
/-- facts of an older heap -/
theorem up_o (e : Ex H H1) (h : H a = some o) : H1 a = some o := e a o h
theorem up_l (e : Ex H H1) (h : SqL K H a xs) : SqL K H1 a xs := Evl.ex_l e h
theorem up_t (e : Ex H H1) (h : SqT K H a xs) : SqT K H1 a xs := Evl.ex_t e h
theorem dn_n (e : Ex H H1) (h : H1 p = none) : H p = none := Evl.fresh_back e h
end
end Np

set_option Elab.async false
set_option linter.all false
set_option maxRecDepth 100000
set_option maxHeartbeats 4000000
/-! The fields of the program's classes: this text was printed by classes.py. -/
namespace Np
open PySem PySem.Spec PyProof.Rows L2
open Evl (Ex)
theorem look_hit {f : Str} {v : V} {r : List (Str × V)} : ((f, v) :: r).lookup f = some v := by simp [List.lookup]
theorem look_miss {f g : Str} {v : V} {r : List (Str × V)} (h : (f == g) = false) : ((g, v) :: r).lookup f = r.lookup f := by simp [List.lookup, h]
theorem put_hit {f : Str} {v z : V} {r : List (Str × V)} : putF f v ((f, z) :: r) = (f, v) :: r := by
  show (if f = f then (f, v) :: r else (f, z) :: putF f v r) = _
  rw [if_pos rfl]
theorem put_miss {f g : Str} {v z : V} {r : List (Str × V)} (h : ¬ g = f) : putF f v ((g, z) :: r) = (g, z) :: putF f v r := by
  show (if g = f then (g, v) :: r else (g, z) :: putF f v r) = _
  rw [if_neg h]
theorem put_nil {f : Str} {v : V} : putF f v [] = [(f, v)] := rfl
theorem nq_many_fixed : (("many" : Str) == "fixed") = false := by decide +kernel
theorem ne_many_fixed : ¬ ("many" : Str) = "fixed" := by decide +kernel
theorem nq_fixed_many : (("fixed" : Str) == "many") = false := by decide +kernel
theorem ne_fixed_many : ¬ ("fixed" : Str) = "many" := by decide +kernel
theorem nq_many_step : (("many" : Str) == "step") = false := by decide +kernel
theorem ne_many_step : ¬ ("many" : Str) = "step" := by decide +kernel
theorem nq_many_tally : (("many" : Str) == "tally") = false := by decide +kernel
theorem ne_many_tally : ¬ ("many" : Str) = "tally" := by decide +kernel
theorem nq_step_many : (("step" : Str) == "many") = false := by decide +kernel
theorem ne_step_many : ¬ ("step" : Str) = "many" := by decide +kernel
theorem nq_step_tally : (("step" : Str) == "tally") = false := by decide +kernel
theorem ne_step_tally : ¬ ("step" : Str) = "tally" := by decide +kernel
theorem nq_tally_many : (("tally" : Str) == "many") = false := by decide +kernel
theorem ne_tally_many : ¬ ("tally" : Str) = "many" := by decide +kernel
theorem nq_tally_step : (("tally" : Str) == "step") = false := by decide +kernel
theorem ne_tally_step : ¬ ("tally" : Str) = "step" := by decide +kernel
theorem nq_many_learners : (("many" : Str) == "learners") = false := by decide +kernel
theorem ne_many_learners : ¬ ("many" : Str) = "learners" := by decide +kernel
theorem nq_many_at : (("many" : Str) == "at") = false := by decide +kernel
theorem ne_many_at : ¬ ("many" : Str) = "at" := by decide +kernel
theorem nq_step_learners : (("step" : Str) == "learners") = false := by decide +kernel
theorem ne_step_learners : ¬ ("step" : Str) = "learners" := by decide +kernel
theorem nq_step_at : (("step" : Str) == "at") = false := by decide +kernel
theorem ne_step_at : ¬ ("step" : Str) = "at" := by decide +kernel
theorem nq_learners_many : (("learners" : Str) == "many") = false := by decide +kernel
theorem ne_learners_many : ¬ ("learners" : Str) = "many" := by decide +kernel
theorem nq_learners_step : (("learners" : Str) == "step") = false := by decide +kernel
theorem ne_learners_step : ¬ ("learners" : Str) = "step" := by decide +kernel
theorem nq_learners_at : (("learners" : Str) == "at") = false := by decide +kernel
theorem ne_learners_at : ¬ ("learners" : Str) = "at" := by decide +kernel
theorem nq_at_many : (("at" : Str) == "many") = false := by decide +kernel
theorem ne_at_many : ¬ ("at" : Str) = "many" := by decide +kernel
theorem nq_at_step : (("at" : Str) == "step") = false := by decide +kernel
theorem ne_at_step : ¬ ("at" : Str) = "step" := by decide +kernel
theorem nq_at_learners : (("at" : Str) == "learners") = false := by decide +kernel
theorem ne_at_learners : ¬ ("at" : Str) = "learners" := by decide +kernel
theorem nq_shares_base : (("shares" : Str) == "base") = false := by decide +kernel
theorem ne_shares_base : ¬ ("shares" : Str) = "base" := by decide +kernel
theorem nq_shares_grain : (("shares" : Str) == "grain") = false := by decide +kernel
theorem ne_shares_grain : ¬ ("shares" : Str) = "grain" := by decide +kernel
theorem nq_shares_low : (("shares" : Str) == "low") = false := by decide +kernel
theorem ne_shares_low : ¬ ("shares" : Str) = "low" := by decide +kernel
theorem nq_shares_number : (("shares" : Str) == "number") = false := by decide +kernel
theorem ne_shares_number : ¬ ("shares" : Str) = "number" := by decide +kernel
theorem nq_shares_words : (("shares" : Str) == "words") = false := by decide +kernel
theorem ne_shares_words : ¬ ("shares" : Str) = "words" := by decide +kernel
theorem nq_base_shares : (("base" : Str) == "shares") = false := by decide +kernel
theorem ne_base_shares : ¬ ("base" : Str) = "shares" := by decide +kernel
theorem nq_base_grain : (("base" : Str) == "grain") = false := by decide +kernel
theorem ne_base_grain : ¬ ("base" : Str) = "grain" := by decide +kernel
theorem nq_base_low : (("base" : Str) == "low") = false := by decide +kernel
theorem ne_base_low : ¬ ("base" : Str) = "low" := by decide +kernel
theorem nq_base_number : (("base" : Str) == "number") = false := by decide +kernel
theorem ne_base_number : ¬ ("base" : Str) = "number" := by decide +kernel
theorem nq_base_words : (("base" : Str) == "words") = false := by decide +kernel
theorem ne_base_words : ¬ ("base" : Str) = "words" := by decide +kernel
theorem nq_grain_shares : (("grain" : Str) == "shares") = false := by decide +kernel
theorem ne_grain_shares : ¬ ("grain" : Str) = "shares" := by decide +kernel
theorem nq_grain_base : (("grain" : Str) == "base") = false := by decide +kernel
theorem ne_grain_base : ¬ ("grain" : Str) = "base" := by decide +kernel
theorem nq_grain_low : (("grain" : Str) == "low") = false := by decide +kernel
theorem ne_grain_low : ¬ ("grain" : Str) = "low" := by decide +kernel
theorem nq_grain_number : (("grain" : Str) == "number") = false := by decide +kernel
theorem ne_grain_number : ¬ ("grain" : Str) = "number" := by decide +kernel
theorem nq_grain_words : (("grain" : Str) == "words") = false := by decide +kernel
theorem ne_grain_words : ¬ ("grain" : Str) = "words" := by decide +kernel
theorem nq_low_shares : (("low" : Str) == "shares") = false := by decide +kernel
theorem ne_low_shares : ¬ ("low" : Str) = "shares" := by decide +kernel
theorem nq_low_base : (("low" : Str) == "base") = false := by decide +kernel
theorem ne_low_base : ¬ ("low" : Str) = "base" := by decide +kernel
theorem nq_low_grain : (("low" : Str) == "grain") = false := by decide +kernel
theorem ne_low_grain : ¬ ("low" : Str) = "grain" := by decide +kernel
theorem nq_low_number : (("low" : Str) == "number") = false := by decide +kernel
theorem ne_low_number : ¬ ("low" : Str) = "number" := by decide +kernel
theorem nq_low_words : (("low" : Str) == "words") = false := by decide +kernel
theorem ne_low_words : ¬ ("low" : Str) = "words" := by decide +kernel
theorem nq_number_shares : (("number" : Str) == "shares") = false := by decide +kernel
theorem ne_number_shares : ¬ ("number" : Str) = "shares" := by decide +kernel
theorem nq_number_base : (("number" : Str) == "base") = false := by decide +kernel
theorem ne_number_base : ¬ ("number" : Str) = "base" := by decide +kernel
theorem nq_number_grain : (("number" : Str) == "grain") = false := by decide +kernel
theorem ne_number_grain : ¬ ("number" : Str) = "grain" := by decide +kernel
theorem nq_number_low : (("number" : Str) == "low") = false := by decide +kernel
theorem ne_number_low : ¬ ("number" : Str) = "low" := by decide +kernel
theorem nq_number_words : (("number" : Str) == "words") = false := by decide +kernel
theorem ne_number_words : ¬ ("number" : Str) = "words" := by decide +kernel
theorem nq_words_shares : (("words" : Str) == "shares") = false := by decide +kernel
theorem ne_words_shares : ¬ ("words" : Str) = "shares" := by decide +kernel
theorem nq_words_base : (("words" : Str) == "base") = false := by decide +kernel
theorem ne_words_base : ¬ ("words" : Str) = "base" := by decide +kernel
theorem nq_words_grain : (("words" : Str) == "grain") = false := by decide +kernel
theorem ne_words_grain : ¬ ("words" : Str) = "grain" := by decide +kernel
theorem nq_words_low : (("words" : Str) == "low") = false := by decide +kernel
theorem ne_words_low : ¬ ("words" : Str) = "low" := by decide +kernel
theorem nq_words_number : (("words" : Str) == "number") = false := by decide +kernel
theorem ne_words_number : ¬ ("words" : Str) = "number" := by decide +kernel
theorem nq_shares_size : (("shares" : Str) == "size") = false := by decide +kernel
theorem ne_shares_size : ¬ ("shares" : Str) = "size" := by decide +kernel
theorem nq_shares_holders : (("shares" : Str) == "holders") = false := by decide +kernel
theorem ne_shares_holders : ¬ ("shares" : Str) = "holders" := by decide +kernel
theorem nq_shares_places : (("shares" : Str) == "places") = false := by decide +kernel
theorem ne_shares_places : ¬ ("shares" : Str) = "places" := by decide +kernel
theorem nq_shares_numbers : (("shares" : Str) == "numbers") = false := by decide +kernel
theorem ne_shares_numbers : ¬ ("shares" : Str) = "numbers" := by decide +kernel
theorem nq_size_shares : (("size" : Str) == "shares") = false := by decide +kernel
theorem ne_size_shares : ¬ ("size" : Str) = "shares" := by decide +kernel
theorem nq_size_holders : (("size" : Str) == "holders") = false := by decide +kernel
theorem ne_size_holders : ¬ ("size" : Str) = "holders" := by decide +kernel
theorem nq_size_places : (("size" : Str) == "places") = false := by decide +kernel
theorem ne_size_places : ¬ ("size" : Str) = "places" := by decide +kernel
theorem nq_size_numbers : (("size" : Str) == "numbers") = false := by decide +kernel
theorem ne_size_numbers : ¬ ("size" : Str) = "numbers" := by decide +kernel
theorem nq_holders_shares : (("holders" : Str) == "shares") = false := by decide +kernel
theorem ne_holders_shares : ¬ ("holders" : Str) = "shares" := by decide +kernel
theorem nq_holders_size : (("holders" : Str) == "size") = false := by decide +kernel
theorem ne_holders_size : ¬ ("holders" : Str) = "size" := by decide +kernel
theorem nq_holders_places : (("holders" : Str) == "places") = false := by decide +kernel
theorem ne_holders_places : ¬ ("holders" : Str) = "places" := by decide +kernel
theorem nq_holders_numbers : (("holders" : Str) == "numbers") = false := by decide +kernel
theorem ne_holders_numbers : ¬ ("holders" : Str) = "numbers" := by decide +kernel
theorem nq_places_shares : (("places" : Str) == "shares") = false := by decide +kernel
theorem ne_places_shares : ¬ ("places" : Str) = "shares" := by decide +kernel
theorem nq_places_size : (("places" : Str) == "size") = false := by decide +kernel
theorem ne_places_size : ¬ ("places" : Str) = "size" := by decide +kernel
theorem nq_places_holders : (("places" : Str) == "holders") = false := by decide +kernel
theorem ne_places_holders : ¬ ("places" : Str) = "holders" := by decide +kernel
theorem nq_places_numbers : (("places" : Str) == "numbers") = false := by decide +kernel
theorem ne_places_numbers : ¬ ("places" : Str) = "numbers" := by decide +kernel
theorem nq_numbers_shares : (("numbers" : Str) == "shares") = false := by decide +kernel
theorem ne_numbers_shares : ¬ ("numbers" : Str) = "shares" := by decide +kernel
theorem nq_numbers_size : (("numbers" : Str) == "size") = false := by decide +kernel
theorem ne_numbers_size : ¬ ("numbers" : Str) = "size" := by decide +kernel
theorem nq_numbers_holders : (("numbers" : Str) == "holders") = false := by decide +kernel
theorem ne_numbers_holders : ¬ ("numbers" : Str) = "holders" := by decide +kernel
theorem nq_numbers_places : (("numbers" : Str) == "places") = false := by decide +kernel
theorem ne_numbers_places : ¬ ("numbers" : Str) = "places" := by decide +kernel
def fsPlain (v0 : Int) (v1 : Addr) : List (Str × V) := [("many", V.int v0), ("fixed", V.ref v1)]
/-- no field -/
def nfPlain (m : Str) : Bool := !(m == "many") && !(m == "fixed")
section
variable {K : PySem.W.Frag} {H : Hp} {a dx C : Addr} {Q : VK} {R : Hp → Prop} {v0 : Int} {v1 : Addr}
theorem noPlain {m : Str} (h : nfPlain m = true) : (fsPlain v0 v1).lookup m = none := by
  simp only [nfPlain, Bool.and_eq_true, Bool.not_eq_true'] at h
  obtain ⟨h0, h1⟩ := h
  unfold fsPlain
  rw [look_miss h0, look_miss h1]
  rfl
theorem lookPlain_many : (fsPlain v0 v1).lookup ("many" : Str) = some (V.int v0) := by
  unfold fsPlain
  rw [look_hit]
theorem putPlain_many {z : Int} : putF "many" (V.int z) (fsPlain v0 v1) = fsPlain z v1 := by
  unfold fsPlain
  rw [put_hit]
theorem lookPlain_fixed : (fsPlain v0 v1).lookup ("fixed" : Str) = some (V.ref v1) := by
  unfold fsPlain
  rw [look_miss nq_fixed_many, look_hit]
theorem putPlain_fixed {z : Addr} : putF "fixed" (V.ref z) (fsPlain v0 v1) = fsPlain v0 z := by
  unfold fsPlain
  rw [put_miss ne_many_fixed, put_hit]
theorem newPlain_many : putF "many" (V.int v0) [] = [(("many" : Str), V.int v0)] := by
  exact put_nil
theorem newPlain_fixed : putF "fixed" (V.ref v1) [(("many" : Str), V.int v0)] = [(("many" : Str), V.int v0), (("fixed" : Str), V.ref v1)] := by
  rw [put_miss ne_many_fixed, put_nil]
end
def fsLearner (v0 : Int) (v1 : Int) (v2 : Addr) : List (Str × V) := [("many", V.int v0), ("step", V.int v1), ("tally", V.ref v2)]
/-- no field -/
def nfLearner (m : Str) : Bool := !(m == "many") && !(m == "step") && !(m == "tally")
section
variable {K : PySem.W.Frag} {H : Hp} {a dx C : Addr} {Q : VK} {R : Hp → Prop} {v0 : Int} {v1 : Int} {v2 : Addr}
theorem noLearner {m : Str} (h : nfLearner m = true) : (fsLearner v0 v1 v2).lookup m = none := by
  simp only [nfLearner, Bool.and_eq_true, Bool.not_eq_true'] at h
  obtain ⟨⟨h0, h1⟩, h2⟩ := h
  unfold fsLearner
  rw [look_miss h0, look_miss h1, look_miss h2]
  rfl
theorem lookLearner_many : (fsLearner v0 v1 v2).lookup ("many" : Str) = some (V.int v0) := by
  unfold fsLearner
  rw [look_hit]
theorem putLearner_many {z : Int} : putF "many" (V.int z) (fsLearner v0 v1 v2) = fsLearner z v1 v2 := by
  unfold fsLearner
  rw [put_hit]
theorem lookLearner_step : (fsLearner v0 v1 v2).lookup ("step" : Str) = some (V.int v1) := by
  unfold fsLearner
  rw [look_miss nq_step_many, look_hit]
theorem putLearner_step {z : Int} : putF "step" (V.int z) (fsLearner v0 v1 v2) = fsLearner v0 z v2 := by
  unfold fsLearner
  rw [put_miss ne_many_step, put_hit]
theorem lookLearner_tally : (fsLearner v0 v1 v2).lookup ("tally" : Str) = some (V.ref v2) := by
  unfold fsLearner
  rw [look_miss nq_tally_many, look_miss nq_tally_step, look_hit]
theorem putLearner_tally {z : Addr} : putF "tally" (V.ref z) (fsLearner v0 v1 v2) = fsLearner v0 v1 z := by
  unfold fsLearner
  rw [put_miss ne_many_tally, put_miss ne_step_tally, put_hit]
theorem newLearner_many : putF "many" (V.int v0) [] = [(("many" : Str), V.int v0)] := by
  exact put_nil
theorem newLearner_step : putF "step" (V.int v1) [(("many" : Str), V.int v0)] = [(("many" : Str), V.int v0), (("step" : Str), V.int v1)] := by
  rw [put_miss ne_many_step, put_nil]
theorem newLearner_tally : putF "tally" (V.ref v2) [(("many" : Str), V.int v0), (("step" : Str), V.int v1)] = [(("many" : Str), V.int v0), (("step" : Str), V.int v1), (("tally" : Str), V.ref v2)] := by
  rw [put_miss ne_many_tally, put_miss ne_step_tally, put_nil]
end
def fsFollower (v0 : Int) (v1 : Int) (v2 : Addr) (v3 : Int) : List (Str × V) := [("many", V.int v0), ("step", V.int v1), ("learners", V.ref v2), ("at", V.int v3)]
/-- no field -/
def nfFollower (m : Str) : Bool := !(m == "many") && !(m == "step") && !(m == "learners") && !(m == "at")
section
variable {K : PySem.W.Frag} {H : Hp} {a dx C : Addr} {Q : VK} {R : Hp → Prop} {v0 : Int} {v1 : Int} {v2 : Addr} {v3 : Int}
theorem noFollower {m : Str} (h : nfFollower m = true) : (fsFollower v0 v1 v2 v3).lookup m = none := by
  simp only [nfFollower, Bool.and_eq_true, Bool.not_eq_true'] at h
  obtain ⟨⟨⟨h0, h1⟩, h2⟩, h3⟩ := h
  unfold fsFollower
  rw [look_miss h0, look_miss h1, look_miss h2, look_miss h3]
  rfl
theorem lookFollower_many : (fsFollower v0 v1 v2 v3).lookup ("many" : Str) = some (V.int v0) := by
  unfold fsFollower
  rw [look_hit]
theorem putFollower_many {z : Int} : putF "many" (V.int z) (fsFollower v0 v1 v2 v3) = fsFollower z v1 v2 v3 := by
  unfold fsFollower
  rw [put_hit]
theorem lookFollower_step : (fsFollower v0 v1 v2 v3).lookup ("step" : Str) = some (V.int v1) := by
  unfold fsFollower
  rw [look_miss nq_step_many, look_hit]
theorem putFollower_step {z : Int} : putF "step" (V.int z) (fsFollower v0 v1 v2 v3) = fsFollower v0 z v2 v3 := by
  unfold fsFollower
  rw [put_miss ne_many_step, put_hit]
theorem lookFollower_learners : (fsFollower v0 v1 v2 v3).lookup ("learners" : Str) = some (V.ref v2) := by
  unfold fsFollower
  rw [look_miss nq_learners_many, look_miss nq_learners_step, look_hit]
theorem putFollower_learners {z : Addr} : putF "learners" (V.ref z) (fsFollower v0 v1 v2 v3) = fsFollower v0 v1 z v3 := by
  unfold fsFollower
  rw [put_miss ne_many_learners, put_miss ne_step_learners, put_hit]
theorem lookFollower_at : (fsFollower v0 v1 v2 v3).lookup ("at" : Str) = some (V.int v3) := by
  unfold fsFollower
  rw [look_miss nq_at_many, look_miss nq_at_step, look_miss nq_at_learners, look_hit]
theorem putFollower_at {z : Int} : putF "at" (V.int z) (fsFollower v0 v1 v2 v3) = fsFollower v0 v1 v2 z := by
  unfold fsFollower
  rw [put_miss ne_many_at, put_miss ne_step_at, put_miss ne_learners_at, put_hit]
theorem newFollower_many : putF "many" (V.int v0) [] = [(("many" : Str), V.int v0)] := by
  exact put_nil
theorem newFollower_step : putF "step" (V.int v1) [(("many" : Str), V.int v0)] = [(("many" : Str), V.int v0), (("step" : Str), V.int v1)] := by
  rw [put_miss ne_many_step, put_nil]
theorem newFollower_learners : putF "learners" (V.ref v2) [(("many" : Str), V.int v0), (("step" : Str), V.int v1)] = [(("many" : Str), V.int v0), (("step" : Str), V.int v1), (("learners" : Str), V.ref v2)] := by
  rw [put_miss ne_many_learners, put_miss ne_step_learners, put_nil]
theorem newFollower_at : putF "at" (V.int v3) [(("many" : Str), V.int v0), (("step" : Str), V.int v1), (("learners" : Str), V.ref v2)] = [(("many" : Str), V.int v0), (("step" : Str), V.int v1), (("learners" : Str), V.ref v2), (("at" : Str), V.int v3)] := by
  rw [put_miss ne_many_at, put_miss ne_step_at, put_miss ne_learners_at, put_nil]
end
def fsStream (v0 : Addr) (v1 : Int) (v2 : Int) (v3 : Int) (v4 : Int) (v5 : Addr) : List (Str × V) := [("shares", V.ref v0), ("base", V.int v1), ("grain", V.int v2), ("low", V.int v3), ("number", V.int v4), ("words", V.ref v5)]
/-- no field -/
def nfStream (m : Str) : Bool := !(m == "shares") && !(m == "base") && !(m == "grain") && !(m == "low") && !(m == "number") && !(m == "words")
section
variable {K : PySem.W.Frag} {H : Hp} {a dx C : Addr} {Q : VK} {R : Hp → Prop} {v0 : Addr} {v1 : Int} {v2 : Int} {v3 : Int} {v4 : Int} {v5 : Addr}
theorem noStream {m : Str} (h : nfStream m = true) : (fsStream v0 v1 v2 v3 v4 v5).lookup m = none := by
  simp only [nfStream, Bool.and_eq_true, Bool.not_eq_true'] at h
  obtain ⟨⟨⟨⟨⟨h0, h1⟩, h2⟩, h3⟩, h4⟩, h5⟩ := h
  unfold fsStream
  rw [look_miss h0, look_miss h1, look_miss h2, look_miss h3, look_miss h4, look_miss h5]
  rfl
theorem lookStream_shares : (fsStream v0 v1 v2 v3 v4 v5).lookup ("shares" : Str) = some (V.ref v0) := by
  unfold fsStream
  rw [look_hit]
theorem putStream_shares {z : Addr} : putF "shares" (V.ref z) (fsStream v0 v1 v2 v3 v4 v5) = fsStream z v1 v2 v3 v4 v5 := by
  unfold fsStream
  rw [put_hit]
theorem lookStream_base : (fsStream v0 v1 v2 v3 v4 v5).lookup ("base" : Str) = some (V.int v1) := by
  unfold fsStream
  rw [look_miss nq_base_shares, look_hit]
theorem putStream_base {z : Int} : putF "base" (V.int z) (fsStream v0 v1 v2 v3 v4 v5) = fsStream v0 z v2 v3 v4 v5 := by
  unfold fsStream
  rw [put_miss ne_shares_base, put_hit]
theorem lookStream_grain : (fsStream v0 v1 v2 v3 v4 v5).lookup ("grain" : Str) = some (V.int v2) := by
  unfold fsStream
  rw [look_miss nq_grain_shares, look_miss nq_grain_base, look_hit]
theorem putStream_grain {z : Int} : putF "grain" (V.int z) (fsStream v0 v1 v2 v3 v4 v5) = fsStream v0 v1 z v3 v4 v5 := by
  unfold fsStream
  rw [put_miss ne_shares_grain, put_miss ne_base_grain, put_hit]
theorem lookStream_low : (fsStream v0 v1 v2 v3 v4 v5).lookup ("low" : Str) = some (V.int v3) := by
  unfold fsStream
  rw [look_miss nq_low_shares, look_miss nq_low_base, look_miss nq_low_grain, look_hit]
theorem putStream_low {z : Int} : putF "low" (V.int z) (fsStream v0 v1 v2 v3 v4 v5) = fsStream v0 v1 v2 z v4 v5 := by
  unfold fsStream
  rw [put_miss ne_shares_low, put_miss ne_base_low, put_miss ne_grain_low, put_hit]
theorem lookStream_number : (fsStream v0 v1 v2 v3 v4 v5).lookup ("number" : Str) = some (V.int v4) := by
  unfold fsStream
  rw [look_miss nq_number_shares, look_miss nq_number_base, look_miss nq_number_grain, look_miss nq_number_low, look_hit]
theorem putStream_number {z : Int} : putF "number" (V.int z) (fsStream v0 v1 v2 v3 v4 v5) = fsStream v0 v1 v2 v3 z v5 := by
  unfold fsStream
  rw [put_miss ne_shares_number, put_miss ne_base_number, put_miss ne_grain_number, put_miss ne_low_number, put_hit]
theorem lookStream_words : (fsStream v0 v1 v2 v3 v4 v5).lookup ("words" : Str) = some (V.ref v5) := by
  unfold fsStream
  rw [look_miss nq_words_shares, look_miss nq_words_base, look_miss nq_words_grain, look_miss nq_words_low, look_miss nq_words_number, look_hit]
theorem putStream_words {z : Addr} : putF "words" (V.ref z) (fsStream v0 v1 v2 v3 v4 v5) = fsStream v0 v1 v2 v3 v4 z := by
  unfold fsStream
  rw [put_miss ne_shares_words, put_miss ne_base_words, put_miss ne_grain_words, put_miss ne_low_words, put_miss ne_number_words, put_hit]
theorem newStream_shares : putF "shares" (V.ref v0) [] = [(("shares" : Str), V.ref v0)] := by
  exact put_nil
theorem newStream_base : putF "base" (V.int v1) [(("shares" : Str), V.ref v0)] = [(("shares" : Str), V.ref v0), (("base" : Str), V.int v1)] := by
  rw [put_miss ne_shares_base, put_nil]
theorem newStream_grain : putF "grain" (V.int v2) [(("shares" : Str), V.ref v0), (("base" : Str), V.int v1)] = [(("shares" : Str), V.ref v0), (("base" : Str), V.int v1), (("grain" : Str), V.int v2)] := by
  rw [put_miss ne_shares_grain, put_miss ne_base_grain, put_nil]
theorem newStream_low : putF "low" (V.int v3) [(("shares" : Str), V.ref v0), (("base" : Str), V.int v1), (("grain" : Str), V.int v2)] = [(("shares" : Str), V.ref v0), (("base" : Str), V.int v1), (("grain" : Str), V.int v2), (("low" : Str), V.int v3)] := by
  rw [put_miss ne_shares_low, put_miss ne_base_low, put_miss ne_grain_low, put_nil]
theorem newStream_number : putF "number" (V.int v4) [(("shares" : Str), V.ref v0), (("base" : Str), V.int v1), (("grain" : Str), V.int v2), (("low" : Str), V.int v3)] = [(("shares" : Str), V.ref v0), (("base" : Str), V.int v1), (("grain" : Str), V.int v2), (("low" : Str), V.int v3), (("number" : Str), V.int v4)] := by
  rw [put_miss ne_shares_number, put_miss ne_base_number, put_miss ne_grain_number, put_miss ne_low_number, put_nil]
theorem newStream_words : putF "words" (V.ref v5) [(("shares" : Str), V.ref v0), (("base" : Str), V.int v1), (("grain" : Str), V.int v2), (("low" : Str), V.int v3), (("number" : Str), V.int v4)] = [(("shares" : Str), V.ref v0), (("base" : Str), V.int v1), (("grain" : Str), V.int v2), (("low" : Str), V.int v3), (("number" : Str), V.int v4), (("words" : Str), V.ref v5)] := by
  rw [put_miss ne_shares_words, put_miss ne_base_words, put_miss ne_grain_words, put_miss ne_low_words, put_miss ne_number_words, put_nil]
end
def fsSlots (v0 : Addr) (v1 : Int) (v2 : Addr) (v3 : Addr) (v4 : Addr) : List (Str × V) := [("shares", V.ref v0), ("size", V.int v1), ("holders", V.ref v2), ("places", V.ref v3), ("numbers", V.ref v4)]
/-- no field -/
def nfSlots (m : Str) : Bool := !(m == "shares") && !(m == "size") && !(m == "holders") && !(m == "places") && !(m == "numbers")
section
variable {K : PySem.W.Frag} {H : Hp} {a dx C : Addr} {Q : VK} {R : Hp → Prop} {v0 : Addr} {v1 : Int} {v2 : Addr} {v3 : Addr} {v4 : Addr}
theorem noSlots {m : Str} (h : nfSlots m = true) : (fsSlots v0 v1 v2 v3 v4).lookup m = none := by
  simp only [nfSlots, Bool.and_eq_true, Bool.not_eq_true'] at h
  obtain ⟨⟨⟨⟨h0, h1⟩, h2⟩, h3⟩, h4⟩ := h
  unfold fsSlots
  rw [look_miss h0, look_miss h1, look_miss h2, look_miss h3, look_miss h4]
  rfl
theorem lookSlots_shares : (fsSlots v0 v1 v2 v3 v4).lookup ("shares" : Str) = some (V.ref v0) := by
  unfold fsSlots
  rw [look_hit]
theorem putSlots_shares {z : Addr} : putF "shares" (V.ref z) (fsSlots v0 v1 v2 v3 v4) = fsSlots z v1 v2 v3 v4 := by
  unfold fsSlots
  rw [put_hit]
theorem lookSlots_size : (fsSlots v0 v1 v2 v3 v4).lookup ("size" : Str) = some (V.int v1) := by
  unfold fsSlots
  rw [look_miss nq_size_shares, look_hit]
theorem putSlots_size {z : Int} : putF "size" (V.int z) (fsSlots v0 v1 v2 v3 v4) = fsSlots v0 z v2 v3 v4 := by
  unfold fsSlots
  rw [put_miss ne_shares_size, put_hit]
theorem lookSlots_holders : (fsSlots v0 v1 v2 v3 v4).lookup ("holders" : Str) = some (V.ref v2) := by
  unfold fsSlots
  rw [look_miss nq_holders_shares, look_miss nq_holders_size, look_hit]
theorem putSlots_holders {z : Addr} : putF "holders" (V.ref z) (fsSlots v0 v1 v2 v3 v4) = fsSlots v0 v1 z v3 v4 := by
  unfold fsSlots
  rw [put_miss ne_shares_holders, put_miss ne_size_holders, put_hit]
theorem lookSlots_places : (fsSlots v0 v1 v2 v3 v4).lookup ("places" : Str) = some (V.ref v3) := by
  unfold fsSlots
  rw [look_miss nq_places_shares, look_miss nq_places_size, look_miss nq_places_holders, look_hit]
theorem putSlots_places {z : Addr} : putF "places" (V.ref z) (fsSlots v0 v1 v2 v3 v4) = fsSlots v0 v1 v2 z v4 := by
  unfold fsSlots
  rw [put_miss ne_shares_places, put_miss ne_size_places, put_miss ne_holders_places, put_hit]
theorem lookSlots_numbers : (fsSlots v0 v1 v2 v3 v4).lookup ("numbers" : Str) = some (V.ref v4) := by
  unfold fsSlots
  rw [look_miss nq_numbers_shares, look_miss nq_numbers_size, look_miss nq_numbers_holders, look_miss nq_numbers_places, look_hit]
theorem putSlots_numbers {z : Addr} : putF "numbers" (V.ref z) (fsSlots v0 v1 v2 v3 v4) = fsSlots v0 v1 v2 v3 z := by
  unfold fsSlots
  rw [put_miss ne_shares_numbers, put_miss ne_size_numbers, put_miss ne_holders_numbers, put_miss ne_places_numbers, put_hit]
theorem newSlots_shares : putF "shares" (V.ref v0) [] = [(("shares" : Str), V.ref v0)] := by
  exact put_nil
theorem newSlots_size : putF "size" (V.int v1) [(("shares" : Str), V.ref v0)] = [(("shares" : Str), V.ref v0), (("size" : Str), V.int v1)] := by
  rw [put_miss ne_shares_size, put_nil]
theorem newSlots_holders : putF "holders" (V.ref v2) [(("shares" : Str), V.ref v0), (("size" : Str), V.int v1)] = [(("shares" : Str), V.ref v0), (("size" : Str), V.int v1), (("holders" : Str), V.ref v2)] := by
  rw [put_miss ne_shares_holders, put_miss ne_size_holders, put_nil]
theorem newSlots_places : putF "places" (V.ref v3) [(("shares" : Str), V.ref v0), (("size" : Str), V.int v1), (("holders" : Str), V.ref v2)] = [(("shares" : Str), V.ref v0), (("size" : Str), V.int v1), (("holders" : Str), V.ref v2), (("places" : Str), V.ref v3)] := by
  rw [put_miss ne_shares_places, put_miss ne_size_places, put_miss ne_holders_places, put_nil]
theorem newSlots_numbers : putF "numbers" (V.ref v4) [(("shares" : Str), V.ref v0), (("size" : Str), V.int v1), (("holders" : Str), V.ref v2), (("places" : Str), V.ref v3)] = [(("shares" : Str), V.ref v0), (("size" : Str), V.int v1), (("holders" : Str), V.ref v2), (("places" : Str), V.ref v3), (("numbers" : Str), V.ref v4)] := by
  rw [put_miss ne_shares_numbers, put_miss ne_size_numbers, put_miss ne_holders_numbers, put_miss ne_places_numbers, put_nil]
end
end Np

set_option Elab.async false
set_option linter.all false
set_option maxRecDepth 100000
set_option maxHeartbeats 4000000
/-! Objects: what an object owns, methods, models. -/
namespace Np
open PySem PySem.Spec PyProof.Rows L2
open Evl (Ex)
open C8 (Cal Met Mak pe_c pe_mk pe_mt pe_mt0 pe_gc)
/-! ### C.m(..), C a class, m a plain def of it -/
structure CF (P : Program) (w : World) (K : PySem.W.Frag) (mg : Str → Option Value) (base : Heap) (k : Nat) (C : Addr) (m : Str) (sp : Sp) : Prop where
  ex : ∃ (mc : Value) (f : Addr) (fd : FuncData) (ps : List Str), ClX.CRead K C mc ∧ PySem.W.findCls K (.ref C) mc m = some (.val (.ref f)) ∧ PySem.W.keepIn K (.ref f) = true ∧ FnOk P w K mg base CX0 k f fd ps sp ∧ Binds K fd ps []
theorem pe_cf {X : Cx} {k j : Nat} {C : Addr} {m : Str} {sp : Sp} {o e : Expr} {es : List Expr} {t : TA} {pos apos : Pos} {pl : Sem Bool} (c : CF X.prog X.w X.K X.mg X.base k C m sp) (hr : Room j X.A) (hk : k ≤ j) (he : PE X o (tC (.ref C))) (ha : PA X (e :: es) t)
    (hst : starEach (e :: es) X.env = (false, eval e X.env) :: starEach es X.env := by rfl) (hpl : (backTo pos (starEach es X.env)).any (·.1) = false := by rfl)
    (ht : eval (.Call (.Attribute o m apos) (e :: es) [] pos) X.env = (do
      let ov ← eval o X.env
      standAt apos.atName
      let (f, first) ← holding [ov] (getMethod ov m pl)
      callWith pos f first (backTo pos (starEach (e :: es) X.env)) (backToKw pos (keywordEach [] X.env))) := by rfl) :
    PE X (.Call (.Attribute o m apos) (e :: es) [] pos) (tCall sp [] C8.E0 t) := by
  obtain ⟨mc, f, fd, ps, r, hf, kp, F, hb⟩ := c.ex
  refine ⟨fun pins s σ H Q I h => ?_⟩
  refine PySem.W.methodCall_KW (pl := pl) (thn (he.run pins s σ H (fun x H1 => x = .ref C ∧ H1 = H) I ⟨rfl, rfl⟩) fun u s1 ⟨x, H1, I1, rx, ex, eh⟩ => ?_) ht
  subst ex
  subst eh
  obtain rfl : u = Value.ref C := rx
  refine PySem.W.method_cls I1.kIn r.ga (PySem.W.cls_value I1.kIn r.rd hf (handed_of (v := .ref f) rfl) ?_)
  refine PySem.W.callWith_K (first := []) (h₀ := X.base) I1.ok.mod.kin kp (thn (ha.run pos pins _ σ H1 _ (I1.tok _) h) fun us s2 ⟨vs, H2, I2, r2, q2⟩ => ⟨I2.kIn, ?_⟩) hst hpl
  exact run_fn F (hr.mono hk) hb .nil pass0 I2 r2 q2
/-- two readings of one expression -/
theorem pe_or {X : Cx} {e : Expr} {t u : TE} (h1 : PE X e t) (h2 : PE X e u) : PE X e (fun σ H Q => t σ H Q ∨ u σ H Q) :=
  ⟨fun pins s σ H Q I h => h.elim (h1.run pins s σ H Q I) (h2.run pins s σ H Q I)⟩
section
variable {P : Program} {w : World} {K : PySem.W.Frag} {mg : Str → Option Value} {base : Heap}
/-- a def's promise over a family -/
theorem fn_ex {α : Type 1} {k : Nat} {f : Addr} {fd : FuncData} {ps : List Str} {A : α → Prop} {sp : α → Sp} (F : ∀ a, A a → FnOk P w K mg base CX0 k f fd ps (sp a)) : FnOk P w K mg base CX0 k f fd ps (fun vs H Q E => ∃ a, A a ∧ sp a vs H Q E) :=
  ⟨fun vs H Q E ⟨a, ha, h⟩ => (F a ha).len vs H Q E h, fun A' outer s H args us vs Q E hr e0 hb r ⟨a, ha, h⟩ => (F a ha).run A' outer s H args us vs Q E hr e0 hb r h⟩
theorem met_of {C : Addr} {m qual : Str} {st : Stmt} {f : Addr} {fd : FuncData} {N ps : List Str} {k : Nat} {sp : Sp} (c : Cls K C) (me : Meth K C m f) (F : Fun K m qual st f fd) (b : Binds K fd ps []) (S : FnScope N ps (defScope st)) (len : ∀ vs H Q E, sp vs H Q E → vs.length = ps.length)
    (hbody : ∀ (cdv : Value) (A : Around) (outer : List Env) (s : Shared) (H : Hp) (vs : List V) (Q : VK) (E : XK), Room k (A.deeper (envOfC qual (defScope st) s.heap.objs.size f cdv)) → sp vs H Q E →
      ∃ t, PSs (cxOf CX0 P w K mg base N qual (defScope st) f cdv A outer s H E).nox (defBody st) t ∧ t { nx := fun _ H' => Q .non H', rt := Q } (start N vs) H) : Met P w K mg base (k + 1) C m sp [] :=
  ⟨f, fd, ps, [], c, me, F.ok S len hbody, b, .nil⟩
theorem Met.imp {C : Addr} {m : Str} {k : Nat} {sp sp' : Sp} {dvs : List V} (M : Met P w K mg base k C m sp dvs) (h : ∀ vs H Q E, sp' vs H Q E → sp vs H Q E) : Met P w K mg base k C m sp' dvs := by
  obtain ⟨f, fd, ps, ds, c, me, F, b, d⟩ := M.ex
  exact ⟨f, fd, ps, ds, c, me, F.imp h, b, d⟩
end
section
variable {P : Program} {w : World} {K : PySem.W.Frag} {mg : Str → Option Value} {base : Heap}
theorem fund_mk {x qual : Str} {params : Arguments} {body : List Stmt} {scope : Scope} {dvs : List V} {f : Addr} {oc : Value} {od an : Option Addr} {osl : Array (Option Value)} {dV kV doc pm cdv ct : Value} (l : K.lookup f = some ⟨oc, od, .func (PySem.W.fnOf x qual params body scope dV kV doc pm an cdv ct), osl⟩)
    (c : PySem.W.codeIn K cdv qual = true) (k : PySem.W.keepIn K (.ref f) = true) (d : DflV K dV dvs) : FunD K x qual params body scope dvs [] f (PySem.W.fnOf x qual params body scope dV kV doc pm an cdv ct) :=
  ⟨⟨oc, od, dV, kV, doc, pm, an, cdv, ct, osl, rfl, l, c, d, .inl rfl⟩, k⟩
theorem _root_.L2.FunD.ok0 {x qual : Str} {params : Arguments} {body : List Stmt} {scope : Scope} {dvs : List V} {f : Addr} {fd : FuncData} {N ps : List Str} {k : Nat} {sp : Sp} (F : FunD K x qual params body scope dvs [] f fd) (S : FnScope N ps scope) (len : ∀ vs H Q E, sp vs H Q E → vs.length = ps.length)
    (hbody : ∀ (cdv : Value) (A : Around) (outer : List Env) (s : Shared) (H : Hp) (vs : List V) (Q : VK) (E : XK), Room k (A.deeper (envOfC qual scope s.heap.objs.size f cdv)) → sp vs H Q E →
      ∃ t, PSs (cxOf CX0 P w K mg base N qual scope f cdv A outer s H E).nox body t ∧ t { nx := fun _ H' => Q .non H', rt := Q } (start N vs) H) : FnOk P w K mg base CX0 (k + 1) f fd ps sp :=
  F.ok S len fun cdv A outer s H vs Q E hr h => by
    obtain ⟨t, h1, h2⟩ := hbody cdv A outer s H vs Q E hr h
    exact ⟨t, h1.nox, h2⟩
end
/-! ### what is owned -/
def Keep (F : List Addr) (H H' : Hp) : Prop := ∀ b o, b ∉ F → H b = some o → H' b = some o
def Grow (F F' : List Addr) (H : Hp) : Prop := ∀ b ∈ F', b ∈ F ∨ H b = none
def New (F : List Addr) (H : Hp) : Prop := ∀ b ∈ F, H b = none
def Own (F : List Addr) (H : Hp) : Prop := ∀ b ∈ F, ∃ o, H b = some o
/-- what stood ahead stands, where it is not owned by the object that turned -/
theorem Keep.at {F : List Addr} {H H' : Hp} {b : Addr} {o : HO} (k : Keep F H H') (h : H b = some o) (n : b ∉ F) : H' b = some o := k b o n h
theorem Keep.ex {F : List Addr} {H0 H H' : Hp} (e : Ex H0 H) (k : Keep F H H') (n : New F H0) : Ex H0 H' := fun b o h => k b o (fun hb => by rw [n b hb] at h; cases h) (e b o h)
theorem New.grow {F F' : List Addr} {H0 H : Hp} (n : New F H0) (e : Ex H0 H) (g : Grow F F' H) : New F' H0 := fun b hb => (g b hb).elim (n b) (fun h => Evl.fresh_back e h)
theorem New.out {F : List Addr} {H : Hp} {b : Addr} {o : HO} (n : New F H) (h : H b = some o) : b ∉ F := fun hb => by rw [n b hb] at h; cases h
theorem Keep.refl (F : List Addr) (H : Hp) : Keep F H H := fun _ _ _ h => h
theorem Keep.trans {F : List Addr} {H H1 H2 : Hp} (a : Keep F H H1) (b : Keep F H1 H2) : Keep F H H2 := fun c o n h => b c o n (a c o n h)
theorem Keep.of {F : List Addr} {H H' : Hp} (e : Ex H H') : Keep F H H' := fun b o _ h => e b o h
theorem Keep.mono {F G : List Addr} {H H' : Hp} (k : Keep F H H') (h : ∀ b ∈ F, b ∈ G) : Keep G H H' := fun b o n q => k b o (fun z => n (h b z)) q
theorem Grow.refl (F : List Addr) (H : Hp) : Grow F F H := fun _ h => .inl h
theorem Grow.out {F F' : List Addr} {H : Hp} {b : Addr} {o : HO} (g : Grow F F' H) (n : b ∉ F) (h : H b = some o) : b ∉ F' := fun z => (g b z).elim n (fun q => by rw [h] at q; cases q)
theorem Keep.seq {K : PySem.W.Frag} {x C dx b : Addr} {fs : List (Str × V)} {H H' : Hp} {xs : List V} (k : Keep [x] H H') (hx : H x = some (.ins C dx fs)) (h : SqL K H b xs) : SqL K H' b xs := by
  have ne : ∀ o, H b = some o → (∀ C' dx' fs', o ≠ .ins C' dx' fs') → b ∉ [x] := fun o e n z => by
    rw [List.mem_singleton.mp z, hx] at e
    exact n _ _ _ (Option.some.inj e).symm
  rcases h with (h | ⟨o, h⟩) | h
  · exact .inl (.inl (k _ _ (ne _ h fun _ _ _ z => by cases z) h))
  · exact .inl (.inr ⟨o, k _ _ (ne _ h fun _ _ _ z => by cases z) h⟩)
  · exact .inr h
/-- an object made at H (by way of H1) -/
theorem made_ex {H H1 H2 : Hp} {x : Addr} (nx : H x = none) (e : Ex H H1) (k : Keep [x] H1 H2) : Ex H H2 := Keep.ex e k fun b hb => by rw [List.mem_singleton.mp hb]; exact nx
theorem made_new {H H1 : Hp} {x : Addr} {F : List Addr} (nx : H x = none) (f : ∀ b, H1 b = none → H b = none) (g : Grow [x] F H1) : New F H := fun b hb => (g b hb).elim (fun z => by rw [List.mem_singleton.mp z]; exact nx) (f b)
theorem Own.new {F G : List Addr} {H : Hp} (o : Own F H) (n : New G H) : ∀ b ∈ F, b ∉ G := fun b hb hg => by
  obtain ⟨u, e⟩ := o b hb
  rw [n b hg] at e
  cases e
theorem Own.out {F : List Addr} {H : Hp} {b : Addr} (o : Own F H) (n : H b = none) : b ∉ F := fun hb => by
  obtain ⟨u, e⟩ := o b hb
  rw [n] at e
  cases e
/-! ### steps of fields and methods -/
def kFld (K : PySem.W.Frag) (f : Str) (Q : VK) : VK := fun x H1 => ∃ a C dx fs v, x = .ref a ∧ H1 a = some (.ins C dx fs) ∧ Cls K C ∧ NoAttr K C f ∧ fs.lookup f = some v ∧ Q v H1
def kSetF (K : PySem.W.Frag) (f : Str) (y : V) (R : Hp → Prop) : VK := fun x H2 => ∃ a C dx fs, x = .ref a ∧ H2 a = some (.ins C dx fs) ∧ Cls K C ∧ NoAttr K C f ∧ fs.length < 1000 ∧ R (upd H2 a (.ins C dx (putF f y fs)))
def kMeth (C : Addr) (m : Str) (sp : Sp) (E : XK) (t : TA) (σ : L2.St) (Q : VK) : VK := fun x H1 => ∃ a dx fs, x = .ref a ∧ H1 a = some (.ins C dx fs) ∧ fs.lookup m = none ∧ t σ H1 fun vs H2 => sp (x :: (vs ++ [])) H2 Q E
def rMk (C : Addr) (sp : Sp) (dvs : List V) (E : XK) (vs : List V) (H1 : Hp) (Q : VK) : Prop := ∀ x dx, H1 x = none → H1 dx = none → dx ≠ x → sp (.ref x :: (vs ++ dvs)) (upd (upd H1 dx (.own x)) x (.ins C dx [])) (fun v H2 => v = .non ∧ Q (.ref x) H2) E
section
variable {K : PySem.W.Frag} {σ : L2.St} {H : Hp} {D : Ends} {Q : VK} {ta tv : TE} {t : TA} {f m : Str} {C a dx : Addr} {fs : List (Str × V)} {v y : V} {R : Hp → Prop} {sp : Sp} {E : XK} {dvs vs : List V}
theorem w_fld (q : ta σ H (kFld K f Q)) : tFld K ta f σ H Q := q
theorem w_kFld (h : H a = some (.ins C dx fs)) (l : fs.lookup f = some v) (c : Cls K C) (n : NoAttr K C f) (q : Q v H) : kFld K f Q (.ref a) H := ⟨a, C, dx, fs, v, rfl, h, c, n, l, q⟩
theorem w_setF (q : tv σ H fun y H1 => ta σ H1 (kSetF K f y fun H3 => D.nx σ H3)) : sFld K ta tv f D σ H := q
theorem w_kSetF {fs' : List (Str × V)} (h : H a = some (.ins C dx fs)) (e : putF f y fs = fs') (c : Cls K C) (n : NoAttr K C f) (l : fs.length < 1000) (q : ∀ H1, Keep [a] H H1 → H1 a = some (.ins C dx fs') → (∀ b, H1 b = none → H b = none) → R H1) : kSetF K f y R (.ref a) H :=
  ⟨a, C, dx, fs, rfl, h, c, n, l, by
    rw [e]
    refine q _ (fun b o hb hh => ?_) upd_same fun b hb => ?_
    · rw [upd_ne (fun z => hb (by rw [z]; simp))]
      exact hh
    · by_cases z : b = a
      · rw [z, upd_same] at hb
        cases hb
      · rw [upd_ne z] at hb
        exact hb⟩
theorem w_meth (q : ta σ H (kMeth C m sp E t σ Q)) : tMeth C m sp [] E ta t σ H Q := q
theorem w_kMeth (h : H a = some (.ins C dx fs)) (n : fs.lookup m = none) (q : t σ H fun vs H2 => sp (.ref a :: vs) H2 Q E) : kMeth C m sp E t σ Q (.ref a) H :=
  ⟨a, dx, fs, rfl, h, n, by
    have e : (fun (vs : List V) (H2 : Hp) => sp (.ref a :: (vs ++ [])) H2 Q E) = fun vs H2 => sp (.ref a :: vs) H2 Q E := by
      funext vs H2
      rw [List.append_nil]
    rw [e]
    exact q⟩
theorem w_make (q : t σ H fun vs H1 => rMk C sp dvs E vs H1 Q) : tMake C sp dvs E t σ H Q := q
/-- an object is made: its place x, then __init__'s promise at the heap H1 -/
theorem w_rMk (q : ∀ x dx H1, H x = none → Ex H H1 → H1 x = some (.ins C dx []) → (∀ b, H1 b = none → H b = none) → sp (.ref x :: (vs ++ dvs)) H1 (fun v H2 => v = .non ∧ Q (.ref x) H2) E) : rMk C sp dvs E vs H Q := fun x dx hx hdx ne =>
  q x dx _ hx (fun b o hb => by rw [upd_ne (ne_of_none hb hx), upd_ne (ne_of_none hb hdx)]; exact hb) upd_same fun b hb => by
    by_cases h1 : b = x
    · rw [h1]; exact hx
    · rw [upd_ne h1] at hb
      by_cases h2 : b = dx
      · rw [h2]; exact hdx
      · rw [upd_ne h2] at hb
        exact hb
end
/-- isinstance(o, C), o an own instance -/
structure IsF (K : PySem.W.Frag) (C : Addr) : Prop where
  cl : Cls K C
  h1 : PySem.W.findIn K (.ref C) "__class__" = some (some (.builtin "object.__class__"))
  h2 : PySem.W.specialIn K (.builtin "object.__class__") "__get__" = some (some (.builtin "getset_descriptor.__get__"))
  h3 : PySem.W.takesIn K (.builtin "object.__class__") = some true
  h4 : PySem.W.mroIn K C (.type "object") = some true
theorem kit_own {K : PySem.W.Frag} {C B : Addr} (h1 : PySem.W.isClsIn K B = true) (h2 : PySem.W.typeIn K (.ref B) = some (.type "type")) (h3 : PySem.W.subIn K (.ref C) (.ref B) = some true) : PySem.W.kitOne K (.ref C) (.ref B) = some true := by
  unfold PySem.W.kitOne
  split
  · rfl
  · have e : PySem.W.kitCls K (.ref C) (.ref B) = if ((PySem.W.clsIn K B).isSome && PySem.W.typeIn K (.ref B) == some (.type "type")) = true then PySem.W.subIn K (.ref C) (.ref B) else none := rfl
    have e1 : (PySem.W.clsIn K B).isSome = true := h1
    rw [e, e1, h2, if_pos (by simp), h3]
theorem w_isiO {K : PySem.W.Frag} {H : Hp} {Q : VK} {C B a dx : Addr} {fs : List (Str × V)} (c : IsF K C) (k : PySem.W.kitOne K (.ref C) (.ref B) = some true) (h : H a = some (.ins C dx fs)) (q : Q (.bl true) H) : rIsi K [.ref a, .ref B] H Q :=
  w_isi (.base (.ins h c.cl c.h1 c.h2 c.h3 c.h4)) (.own B) k q
/-! ### models -/
/-- a kind of model: its numbers are fixed, S are its states -/
structure Mdl where
  C : Addr
  many : Int
  S : Type
  init : S
  counts : S → List Int
  see : S → Int → S
  ok : S → Prop
  rep : Hp → Addr → S → List Addr → Prop
/-- what holds of each kind -/
structure MdlOk (M : Mdl) : Prop where
  okI : M.ok M.init
  okS : ∀ s n, M.ok s → 0 ≤ n → n < M.many → M.ok (M.see s n)
  good : ∀ s, M.ok s → Good (M.counts s)
  len : ∀ s, M.ok s → (M.counts s).length = M.many
  ok : ∀ H p s F, M.rep H p s F → M.ok s
  frame : ∀ H H' p s F, M.rep H p s F → (∀ b ∈ F, ∀ o, H b = some o → H' b = some o) → M.rep H' p s F
  own : ∀ H p s F, M.rep H p s F → Own F H
  ins : ∀ H p s F, M.rep H p s F → ∃ dx fs, H p = some (.ins M.C dx fs) ∧ fs.lookup ("many" : Str) = some (.int M.many) ∧ fs.lookup ("counts" : Str) = none ∧ fs.lookup ("see" : Str) = none ∧ fs.lookup ("fresh" : Str) = none
theorem MdlOk.up {M : Mdl} (o : MdlOk M) {H H' : Hp} {p : Addr} {s : M.S} {F : List Addr} (r : M.rep H p s F) (e : Ex H H') : M.rep H' p s F := o.frame H H' p s F r fun b _ u h => e b u h
theorem MdlOk.keep {M : Mdl} (o : MdlOk M) {H H' : Hp} {p : Addr} {s : M.S} {F G : List Addr} (r : M.rep H p s F) (k : Keep G H H') (d : ∀ b ∈ F, b ∉ G) : M.rep H' p s F := o.frame H H' p s F r fun b hb u h => k b u (d b hb) h
/-- the promises of the methods -/
def sp_counts (M : Mdl) : Sp := fun vs H Q _ => ∃ (p : Addr) (s : M.S) (F : List Addr), vs = [.ref p] ∧ M.rep H p s F ∧ ∀ l H', H l = none → Ex H H' → H' l = some (.lst (iL (M.counts s))) → Q (.ref l) H'
def sp_see (M : Mdl) : Sp := fun vs H Q _ => ∃ (p : Addr) (s : M.S) (F : List Addr) (n : Int), vs = [.ref p, .int n] ∧ M.rep H p s F ∧ 0 ≤ n ∧ n < M.many ∧ ∀ H' F', M.rep H' p (M.see s n) F' → Keep F H H' → Grow F F' H → Q .non H'
def sp_fresh (M : Mdl) : Sp := fun vs H Q _ => ∃ (p : Addr) (s : M.S) (F : List Addr), vs = [.ref p] ∧ M.rep H p s F ∧ ∀ q H' F', M.rep H' q M.init F' → Ex H H' → New F' H → Q (.ref q) H'
/-! Plain -/
def plainM (Z : Zs) (cs : List Int) : Mdl where
  C := Z.plain
  many := cs.length
  S := Unit
  init := ()
  counts := fun _ => cs
  see := fun s _ => s
  ok := fun _ => Good cs
  rep := fun H p _ F => Good cs ∧ ∃ dx l, H p = some (.ins Z.plain dx (fsPlain (cs.length : Int) l)) ∧ H l = some (.lst (iL cs)) ∧ F = [p, l]
theorem plainOk {Z : Zs} {cs : List Int} (g : Good cs) : MdlOk (plainM Z cs) where
  okI := g
  okS := fun _ _ h _ _ => h
  good := fun _ h => h
  len := fun _ _ => rfl
  ok := fun _ _ _ _ h => h.1
  frame := fun H H' p s F ⟨g, dx, l, h1, h2, e⟩ k => ⟨g, dx, l, k p (by rw [e]; simp) _ h1, k l (by rw [e]; simp) _ h2, e⟩
  own := fun H p s F ⟨g, dx, l, h1, h2, e⟩ b hb => by
    rw [e] at hb
    rcases List.mem_cons.mp hb with rfl | hb
    · exact ⟨_, h1⟩
    · rcases List.mem_cons.mp hb with rfl | hb
      · exact ⟨_, h2⟩
      · cases hb
  ins := fun H p s F ⟨g, dx, l, h1, h2, e⟩ => ⟨dx, _, h1, lookPlain_many, noPlain (by decide +kernel), noPlain (by decide +kernel), noPlain (by decide +kernel)⟩
/-! Learner -/
def seeL (step : Int) (t : List Int) (n : Int) : List Int :=
  let u := t.set n.toNat (t.getD n.toNat 0 + step)
  if 999 < u.getD n.toNat 0 then u.map (fun c => (c + 1) / 2) else u
structure LOk (many step : Int) (t : List Int) : Prop where
  len : t.length = many
  m0 : 1 ≤ many
  m1 : many ≤ 100
  s0 : 1 ≤ step
  s1 : step ≤ 9
  lo : ∀ c ∈ t, 1 ≤ c
  hi : ∀ c ∈ t, c ≤ 999
theorem LOk.good {many step : Int} {t : List Int} (o : LOk many step t) : Good t := by
  have l := o.len
  have m0 := o.m0
  have m1 := o.m1
  refine ⟨by omega, by omega, fun c hc => by have := o.lo c hc; omega, o.hi, ?_⟩
  have hm := at_mem (ns := t) (i := 0) (by omega)
  have h1 := o.lo _ hm
  have h2 := mem_le_sum (fun c hc => by have := o.lo c hc; omega) hm
  omega
theorem LOk.init {many step : Int} (m0 : 1 ≤ many) (m1 : many ≤ 100) (s0 : 1 ≤ step) (s1 : step ≤ 9) : LOk many step (List.replicate many.toNat 1) :=
  ⟨by rw [List.length_replicate]; omega, m0, m1, s0, s1, fun c hc => by rw [(List.mem_replicate.mp hc).2]; omega, fun c hc => by rw [(List.mem_replicate.mp hc).2]; omega⟩
theorem seeL_at {t : List Int} {n : Int} {z : Int} (h : n.toNat < t.length) : (t.set n.toNat z).getD n.toNat 0 = z := by
  rw [List.getD_eq_getElem?_getD, List.getElem?_set_self h]
  rfl
theorem LOk.see {many step : Int} {t : List Int} (o : LOk many step t) {n : Int} (h0 : 0 ≤ n) (h1 : n < many) : LOk many step (seeL step t n) := by
  have l := o.len
  have hn : n.toNat < t.length := by omega
  have hm := at_mem hn
  have g0 := o.lo _ hm
  have g1 := o.hi _ hm
  have s0 := o.s0
  have s1 := o.s1
  have hin : ∀ c ∈ t.set n.toNat (t.getD n.toNat 0 + step), 1 ≤ c ∧ c ≤ 1008 := fun c hc => by
    rcases List.mem_or_eq_of_mem_set hc with hc | rfl
    · have := o.lo c hc; have := o.hi c hc; omega
    · omega
  unfold seeL
  dsimp only
  rw [seeL_at hn]
  split
  · rename_i hb
    refine ⟨by rw [List.length_map, List.length_set]; exact l, o.m0, o.m1, s0, s1, fun c hc => ?_, fun c hc => ?_⟩
    · obtain ⟨d, hd, rfl⟩ := List.mem_map.mp hc
      have := hin d hd
      omega
    · obtain ⟨d, hd, rfl⟩ := List.mem_map.mp hc
      have := hin d hd
      omega
  · rename_i hb
    refine ⟨by rw [List.length_set]; exact l, o.m0, o.m1, s0, s1, fun c hc => (hin c hc).1, fun c hc => ?_⟩
    rcases List.mem_or_eq_of_mem_set hc with hc | rfl
    · exact o.hi c hc
    · omega
def LrAt (Z : Zs) (many step : Int) (H : Hp) (p : Addr) (t : List Int) (F : List Addr) : Prop := LOk many step t ∧ ∃ dx l, H p = some (.ins Z.learner dx (fsLearner many step l)) ∧ H l = some (.lst (iL t)) ∧ F = [p, l]
def learnerM (Z : Zs) (many step : Int) : Mdl where
  C := Z.learner
  many := many
  S := List Int
  init := List.replicate many.toNat 1
  counts := fun t => t
  see := seeL step
  ok := LOk many step
  rep := LrAt Z many step
theorem learnerOk {Z : Zs} {many step : Int} (m0 : 1 ≤ many) (m1 : many ≤ 100) (s0 : 1 ≤ step) (s1 : step ≤ 9) : MdlOk (learnerM Z many step) where
  okI := LOk.init m0 m1 s0 s1
  okS := fun _ _ h h0 h1 => h.see h0 h1
  good := fun _ h => h.good
  len := fun _ h => h.len
  ok := fun _ _ _ _ h => h.1
  frame := fun H H' p s F ⟨g, dx, l, h1, h2, e⟩ k => ⟨g, dx, l, k p (by rw [e]; simp) _ h1, k l (by rw [e]; simp) _ h2, e⟩
  own := fun H p s F ⟨g, dx, l, h1, h2, e⟩ b hb => by
    rw [e] at hb
    rcases List.mem_cons.mp hb with rfl | hb
    · exact ⟨_, h1⟩
    · rcases List.mem_cons.mp hb with rfl | hb
      · exact ⟨_, h2⟩
      · cases hb
  ins := fun H p s F ⟨g, dx, l, h1, h2, e⟩ => ⟨dx, _, h1, lookLearner_many, noLearner (by decide +kernel), noLearner (by decide +kernel), noLearner (by decide +kernel)⟩
/-! ### lists again -/
section
variable {K : PySem.W.Frag} {H : Hp} {Q : VK} {a b : Addr} {xs ys : List V} {v : V} {i : Int} {R : Hp → Prop}
theorem w_rep (h : H a = some (.lst xs)) (h0 : 0 ≤ i) (h1 : i ≤ 1000) (hz : xs.length ≤ 1000) (q : ∀ p H1, H p = none → Ex H H1 → H1 p = some (.lst (List.replicate i.toNat xs).flatten) → Q (.ref p) H1) : rRep (.ref a) (.int i) H Q :=
  ⟨a, i, xs, rfl, rfl, h, Int.le_trans (by decide) h0, Int.lt_of_le_of_lt h1 (by decide), Nat.le_trans (Nat.mul_le_mul hz (show i.toNat ≤ 1000 by omega)) (by decide), fun p hp => q p _ hp (Evl.Ex.new hp) upd_same⟩
theorem w_rep1 {z : V} (h : H a = some (.lst [z])) (h0 : 0 ≤ i) (h1 : i ≤ 1000000) (q : ∀ p H1, H p = none → Ex H H1 → H1 p = some (.lst (List.replicate i.toNat [z]).flatten) → Q (.ref p) H1) : rRep (.ref a) (.int i) H Q :=
  ⟨a, i, [z], rfl, rfl, h, Int.le_trans (by decide) h0, Int.lt_of_le_of_lt h1 (by decide), Nat.le_trans (Nat.mul_le_mul (show [z].length ≤ 1 from Nat.le_refl _) (show i.toNat ≤ 1000000 by omega)) (by decide), fun p hp => q p _ hp (Evl.Ex.new hp) upd_same⟩
theorem rep_one (n : Nat) (z : Int) : (List.replicate n [V.int z]).flatten = iL (List.replicate n z) := by
  induction n with
  | zero => rfl
  | succ n ih =>
    rw [List.replicate_succ, List.flatten_cons, ih, List.replicate_succ]
    rfl
theorem w_cat (h : H a = some (.lst xs)) (h' : H b = some (.lst ys)) (hx : xs.length ≤ 1000) (hy : ys.length ≤ 1000) (q : ∀ p H1, H p = none → Ex H H1 → H1 p = some (.lst (xs ++ ys)) → Q (.ref p) H1) : rCat (.ref a) (.ref b) H Q :=
  ⟨a, b, xs, ys, rfl, rfl, h, h', Nat.le_trans (Nat.add_le_add hx hy) (by decide), fun p hp => q p _ hp (Evl.Ex.new hp) upd_same⟩
theorem w_setLK {k : Nat} (h : H a = some (.lst xs)) (e : i = (k : Int)) (hk : k < xs.length) (q : ∀ H1, Keep [a] H H1 → H1 a = some (.lst (xs.set k v)) → (∀ b, H1 b = none → H b = none) → R H1) : rSetL (.ref a) (.int i) v H R :=
  w_setL h e hk (q _ (fun b o hb hh => by rw [upd_ne (fun z => hb (by rw [z]; simp))]; exact hh) upd_same fun b hb => by
    by_cases z : b = a
    · rw [z, upd_same] at hb
      cases hb
    · rw [upd_ne z] at hb
      exact hb)
theorem w_appendK {y : V} (h : H a = some (.lst xs)) (hz : xs.length < 100000) (q : ∀ H1, Keep [a] H H1 → H1 a = some (.lst (xs ++ [y])) → (∀ b, H1 b = none → H b = none) → Q .non H1) : rAppend (.ref a) [y] H Q :=
  w_append h hz (q _ (fun b o hb hh => by rw [upd_ne (fun z => hb (by rw [z]; simp))]; exact hh) upd_same fun b hb => by
    by_cases z : b = a
    · rw [z, upd_same] at hb
      cases hb
    · rw [upd_ne z] at hb
      exact hb)
/-- a change of what is new -/
theorem ex_keep {H0 H1 : Hp} {F : List Addr} (e : Ex H0 H) (k : Keep F H H1) (n : New F H0) : Ex H0 H1 := Keep.ex e k n
theorem new1 (h : H a = none) : New [a] H := fun b hb => by rw [List.mem_singleton.mp hb]; exact h
end
/-! ### what a law knows of each kind -/
structure MI (P : Program) (w : World) (K : PySem.W.Frag) (mg : Str → Option Value) (base : Heap) (k : Nat) (Z : Zs) (M : Mdl) : Prop where
  mo : MdlOk M
  is : IsF K M.C
  kit : PySem.W.kitOne K (.ref M.C) (.ref Z.model) = some true
  nm : NoAttr K M.C "many"
  counts : Met P w K mg base k M.C "counts" (sp_counts M) []
  see : Met P w K mg base k M.C "see" (sp_see M) []
  fresh : Met P w K mg base k M.C "fresh" (sp_fresh M) []
theorem Met.up {P : Program} {w : World} {K : PySem.W.Frag} {mg : Str → Option Value} {base : Heap} {C : Addr} {m : Str} {j k : Nat} {sp : Sp} {dvs : List V} (M : Met P w K mg base j C m sp dvs) (h : j ≤ k) : Met P w K mg base k C m sp dvs := by
  obtain ⟨f, fd, ps, ds, c, me, F, b, d⟩ := M.ex
  exact ⟨f, fd, ps, ds, c, me, F.mono h, b, d⟩
end Np

set_option Elab.async false
set_option linter.all false
set_option maxRecDepth 100000
set_option maxHeartbeats 4000000
/-! Followers; rows pressed and read by models. -/
namespace Np
open PySem PySem.Spec PyProof.Rows L2
open Evl (Ex)
def flat (ls : List (Addr × Addr)) : List Addr := ls.flatMap fun x => [x.1, x.2]
theorem mem_flat {ls : List (Addr × Addr)} {b : Addr} : b ∈ flat ls ↔ ∃ x ∈ ls, b = x.1 ∨ b = x.2 := by
  unfold flat
  rw [List.mem_flatMap]
  constructor
  · rintro ⟨x, hx, hb⟩
    refine ⟨x, hx, ?_⟩
    simpa using hb
  · rintro ⟨x, hx, hb⟩
    exact ⟨x, hx, by simpa using hb⟩
structure FoIs (Z : Zs) (many step : Int) (H : Hp) (p : Addr) (s : List (List Int) × Int) (F : List Addr) (dx q : Addr) (ls : List (Addr × Addr)) : Prop where
  m0 : 1 ≤ many
  m1 : many ≤ 100
  s0 : 1 ≤ step
  s1 : step ≤ 9
  hp : H p = some (.ins Z.follower dx (fsFollower many step q s.2))
  hq : H q = some (.lst (ls.map fun x => V.ref x.1))
  ll : (ls.length : Int) = many + 1
  tl : s.1.length = ls.length
  a0 : 0 ≤ s.2
  a1 : s.2 ≤ many
  lr : ∀ (i : Nat) (x : Addr × Addr) (t : List Int), ls[i]? = some x → s.1[i]? = some t → LOk many step t ∧ (∃ dy, H x.1 = some (.ins Z.learner dy (fsLearner many step x.2))) ∧ H x.2 = some (.lst (iL t))
  d1 : ∀ (i j : Nat) (x y : Addr × Addr), ls[i]? = some x → ls[j]? = some y → i ≠ j → x.1 ≠ y.1 ∧ x.2 ≠ y.2
  fe : F = p :: q :: flat ls
def FoAt (Z : Zs) (many step : Int) (H : Hp) (p : Addr) (s : List (List Int) × Int) (F : List Addr) : Prop := ∃ dx q ls, FoIs Z many step H p s F dx q ls
section
variable {Z : Zs} {many step : Int} {H H' : Hp} {p dx q : Addr} {s : List (List Int) × Int} {F : List Addr} {ls : List (Addr × Addr)}
theorem FoIs.at_ (f : FoIs Z many step H p s F dx q ls) {i : Nat} (h : i < ls.length) : ∃ x t, ls[i]? = some x ∧ s.1[i]? = some t := ⟨ls[i], s.1[i]'(by rw [f.tl]; exact h), List.getElem?_eq_getElem h, List.getElem?_eq_getElem _⟩
theorem FoIs.ok (f : FoIs Z many step H p s F dx q ls) : ∀ t ∈ s.1, LOk many step t := fun t ht => by
  obtain ⟨i, hi, e⟩ := List.getElem_of_mem ht
  obtain ⟨x, t', e1, e2⟩ := f.at_ (i := i) (by rw [← f.tl]; exact hi)
  have e3 : s.1[i]? = some t := by rw [List.getElem?_eq_getElem hi, e]
  exact (f.lr i x t e1 e3).1
theorem FoIs.frame (f : FoIs Z many step H p s F dx q ls) (k : ∀ b ∈ F, ∀ o, H b = some o → H' b = some o) : FoIs Z many step H' p s F dx q ls :=
  { f with
    hp := k p (by rw [f.fe]; simp) _ f.hp
    hq := k q (by rw [f.fe]; simp) _ f.hq
    lr := fun i x t h1 h2 => by
      obtain ⟨a, ⟨dy, b⟩, c⟩ := f.lr i x t h1 h2
      have hx := List.mem_of_getElem? h1
      exact ⟨a, ⟨dy, k _ (by rw [f.fe]; exact List.mem_cons_of_mem _ (List.mem_cons_of_mem _ (mem_flat.mpr ⟨x, hx, .inl rfl⟩))) _ b⟩, k _ (by rw [f.fe]; exact List.mem_cons_of_mem _ (List.mem_cons_of_mem _ (mem_flat.mpr ⟨x, hx, .inr rfl⟩))) _ c⟩ }
theorem FoIs.own (f : FoIs Z many step H p s F dx q ls) : Own F H := fun b hb => by
  rw [f.fe] at hb
  rcases List.mem_cons.mp hb with rfl | hb
  · exact ⟨_, f.hp⟩
  rcases List.mem_cons.mp hb with rfl | hb
  · exact ⟨_, f.hq⟩
  obtain ⟨x, hx, hb⟩ := mem_flat.mp hb
  obtain ⟨i, hi, e⟩ := List.getElem_of_mem hx
  obtain ⟨x', t, e1, e2⟩ := f.at_ hi
  have e3 : x' = x := by rw [List.getElem?_eq_getElem hi, e] at e1; exact (Option.some.inj e1).symm
  subst e3
  obtain ⟨_, ⟨dy, b1⟩, b2⟩ := f.lr i x' t e1 e2
  rcases hb with rfl | rfl
  · exact ⟨_, b1⟩
  · exact ⟨_, b2⟩
/-- the learner at turn has seen n, then the place is stored -/
theorem FoIs.see {H1 H2 : Hp} {F1 : List Addr} {x : Addr × Addr} {t : List Int} {n : Int} (f : FoIs Z many step H p s F dx q ls) (hx : ls[s.2.toNat]? = some x) (ht : s.1[s.2.toNat]? = some t) (n0 : 0 ≤ n) (n1 : n < many)
    (r : LrAt Z many step H1 x.1 (seeL step t n) F1) (k1 : Keep [x.1, x.2] H H1) (g1 : Grow [x.1, x.2] F1 H) (k2 : Keep [p] H1 H2) (h2 : H2 p = some (.ins Z.follower dx (fsFollower many step q n))) :
    ∃ F', FoAt Z many step H2 p (s.1.set s.2.toNat (seeL step t n), n) F' ∧ Keep F H H2 ∧ Grow F F' H := by
  obtain ⟨ok, dy, l', b1, b2, eF⟩ := r
  obtain ⟨okt, ⟨dz, c1⟩, c2⟩ := f.lr _ x t hx ht
  have hxm := List.mem_of_getElem? hx
  have il : s.2.toNat < ls.length := (List.getElem?_eq_some_iff.mp hx).1
  have px : p ≠ x.1 := ne_of f.hp c1 (by
    intro z
    injection z with z1 z2 z3
    have := congrArg List.length z3
    simp [fsFollower, fsLearner] at this)
  have pl : p ≠ l' := fun z => by
    rcases g1 l' (by rw [eF]; simp) with h | h
    · rcases List.mem_cons.mp h with h | h
      · exact px (z.trans h)
      · have e := f.hp
        rw [z, List.mem_singleton.mp h, c2] at e
        cases e
    · have e := f.hp
      rw [z, h] at e
      cases e
  have qx1 : q ≠ x.1 := ne_of f.hq c1 (by intro z; cases z)
  have qx2 : q ≠ x.2 := ne_of f.hq c2 (by
    intro z
    injection z with z
    have l1 : 0 < ls.length := by omega
    obtain ⟨y, r', e⟩ : ∃ y r', ls = y :: r' := by
      cases hls : ls with
      | nil => rw [hls] at l1; cases l1
      | cons y r' => exact ⟨y, r', rfl⟩
    rw [e] at z
    cases t with
    | nil => cases z
    | cons c u => cases z)
  have hq1 : H1 q = some (.lst (ls.map fun x => V.ref x.1)) := k1 _ _ (by simp [qx1, qx2]) f.hq
  have qp : q ≠ p := ne_of f.hq f.hp (by intro z; cases z)
  have lfr : l' = x.2 ∨ H l' = none := by
    rcases g1 l' (by rw [eF]; simp) with h | h
    · rcases List.mem_cons.mp h with h | h
      · exact absurd h (ne_of b2 b1 (by intro z; cases z))
      · exact .inl (List.mem_singleton.mp h)
    · exact .inr h
  refine ⟨p :: q :: flat (ls.set s.2.toNat (x.1, l')), ⟨dx, q, ls.set s.2.toNat (x.1, l'), { f with hp := h2, hq := ?_, ll := ?_, tl := ?_, a0 := n0, a1 := by show n ≤ many; omega, lr := ?_, d1 := ?_, fe := rfl }⟩, ?_, ?_⟩
  · rw [k2 _ _ (by simp [qp]) hq1]
    congr 2
    refine List.ext_getElem? fun i => ?_
    rw [List.getElem?_map, List.getElem?_map, List.getElem?_set]
    by_cases hi : s.2.toNat = i
    · subst hi
      rw [if_pos rfl, if_pos il, hx]
      rfl
    · rw [if_neg hi]
  · rw [List.length_set]
    exact f.ll
  · show (s.1.set s.2.toNat (seeL step t n)).length = _
    rw [List.length_set, List.length_set]
    exact f.tl
  · intro i y u h1 h3
    have h3 : (s.1.set s.2.toNat (seeL step t n))[i]? = some u := h3
    rw [List.getElem?_set] at h1 h3
    by_cases hi : s.2.toNat = i
    · rw [if_pos hi, if_pos il] at h1
      rw [if_pos hi, if_pos (by rw [f.tl]; exact il)] at h3
      cases h1
      cases h3
      exact ⟨ok, ⟨dy, k2 _ _ (by simp [px.symm]) b1⟩, k2 _ _ (by simp [pl.symm]) b2⟩
    · rw [if_neg hi] at h1 h3
      obtain ⟨a, ⟨dw, b⟩, c⟩ := f.lr i y u h1 h3
      obtain ⟨n1, n2⟩ := f.d1 _ _ _ _ h1 hx (fun z => hi z.symm)
      have y1 : y.1 ≠ x.2 := ne_of b c2 (by intro z; cases z)
      have y2 : y.2 ≠ x.1 := ne_of c c1 (by intro z; cases z)
      have p1 : y.1 ≠ p := (ne_of f.hp b (by
        intro z
        injection z with z1 z2 z3
        have := congrArg List.length z3
        simp [fsFollower, fsLearner] at this)).symm
      have p2 : y.2 ≠ p := ne_of c f.hp (by intro z; cases z)
      exact ⟨a, ⟨dw, k2 _ _ (by simp [p1]) (k1 _ _ (by simp [n1, y1]) b)⟩, k2 _ _ (by simp [p2]) (k1 _ _ (by simp [n2, y2]) c)⟩
  · have key : ∀ i y, ls[i]? = some y → i ≠ s.2.toNat → y.1 ≠ x.1 ∧ y.2 ≠ l' := fun i y h1 hi => by
      obtain ⟨n1, n2⟩ := f.d1 _ _ _ _ h1 hx hi
      refine ⟨n1, fun z => ?_⟩
      rcases lfr with h | h
      · exact n2 (z.trans h)
      · obtain ⟨t', e⟩ : ∃ t', s.1[i]? = some t' := ⟨s.1[i]'(by rw [f.tl]; exact (List.getElem?_eq_some_iff.mp h1).1), List.getElem?_eq_getElem _⟩
        obtain ⟨_, _, c⟩ := f.lr i y t' h1 e
        rw [z, h] at c
        cases c
    intro i j y z h1 h3 hij
    rw [List.getElem?_set] at h1 h3
    by_cases hi : s.2.toNat = i
    · rw [if_pos hi, if_pos il] at h1
      rw [if_neg (fun w => hij (hi.symm.trans w))] at h3
      cases h1
      obtain ⟨a, b⟩ := key j z h3 (fun w => hij (hi.symm.trans w.symm))
      exact ⟨a.symm, b.symm⟩
    · rw [if_neg hi] at h1
      by_cases hj : s.2.toNat = j
      · rw [if_pos hj, if_pos il] at h3
        cases h3
        exact key i y h1 (fun w => hi w.symm)
      · rw [if_neg hj] at h3
        exact f.d1 i j y z h1 h3 hij
  · rw [f.fe]
    refine Keep.trans (k1.mono fun b hb => ?_) (k2.mono fun b hb => ?_)
    · refine List.mem_cons_of_mem _ (List.mem_cons_of_mem _ (mem_flat.mpr ⟨x, hxm, ?_⟩))
      simpa using hb
    · rw [List.mem_singleton.mp hb]
      simp
  · intro b hb
    rw [f.fe]
    rcases List.mem_cons.mp hb with rfl | hb
    · exact .inl (by simp)
    rcases List.mem_cons.mp hb with rfl | hb
    · exact .inl (by simp)
    obtain ⟨y, hy, hb⟩ := mem_flat.mp hb
    rcases List.mem_or_eq_of_mem_set hy with hy | rfl
    · exact .inl (List.mem_cons_of_mem _ (List.mem_cons_of_mem _ (mem_flat.mpr ⟨y, hy, hb⟩)))
    · rcases hb with rfl | rfl
      · exact .inl (List.mem_cons_of_mem _ (List.mem_cons_of_mem _ (mem_flat.mpr ⟨x, hxm, .inl rfl⟩)))
      · rcases lfr with h | h
        · exact .inl (List.mem_cons_of_mem _ (List.mem_cons_of_mem _ (mem_flat.mpr ⟨x, hxm, .inr h⟩)))
        · exact .inr h
end
def seeF (step : Int) (s : List (List Int) × Int) (n : Int) : List (List Int) × Int := (s.1.set s.2.toNat (seeL step (s.1.getD s.2.toNat []) n), n)
structure FOk (many step : Int) (s : List (List Int) × Int) : Prop where
  len : (s.1.length : Int) = many + 1
  a0 : 0 ≤ s.2
  a1 : s.2 ≤ many
  all : ∀ t ∈ s.1, LOk many step t
theorem FOk.at_ {many step : Int} {s : List (List Int) × Int} (o : FOk many step s) : s.1[s.2.toNat]? = some (s.1.getD s.2.toNat []) ∧ LOk many step (s.1.getD s.2.toNat []) := by
  have h : s.2.toNat < s.1.length := by have := o.len; have := o.a0; have := o.a1; omega
  have e : s.1.getD s.2.toNat [] = s.1[s.2.toNat] := by rw [List.getD_eq_getElem?_getD, List.getElem?_eq_getElem h]; rfl
  rw [e]
  exact ⟨List.getElem?_eq_getElem h, o.all _ (List.getElem_mem h)⟩
theorem FOk.see {many step : Int} {s : List (List Int) × Int} (o : FOk many step s) {n : Int} (n0 : 0 ≤ n) (n1 : n < many) : FOk many step (seeF step s n) := by
  refine ⟨?_, n0, by show n ≤ many; omega, fun t ht => ?_⟩
  · show ((s.1.set _ _).length : Int) = _
    rw [List.length_set]
    exact o.len
  · rcases List.mem_or_eq_of_mem_set ht with ht | rfl
    · exact o.all t ht
    · exact o.at_.2.see n0 n1
theorem FoIs.fok {Z : Zs} {many step : Int} {H : Hp} {p dx q : Addr} {s : List (List Int) × Int} {F : List Addr} {ls : List (Addr × Addr)} (f : FoIs Z many step H p s F dx q ls) : FOk many step s := ⟨by rw [f.tl]; exact f.ll, f.a0, f.a1, f.ok⟩
def followerM (Z : Zs) (many step : Int) : Mdl where
  C := Z.follower
  many := many
  S := List (List Int) × Int
  init := (List.replicate (many + 1).toNat (List.replicate many.toNat 1), many)
  counts := fun s => s.1.getD s.2.toNat []
  see := seeF step
  ok := FOk many step
  rep := FoAt Z many step
theorem FOk.init {many step : Int} (m0 : 1 ≤ many) (m1 : many ≤ 100) (s0 : 1 ≤ step) (s1 : step ≤ 9) : FOk many step (List.replicate (many + 1).toNat (List.replicate many.toNat 1), many) :=
  ⟨by rw [List.length_replicate]; omega, by show 0 ≤ many; omega, Int.le_refl _, fun t ht => by rw [(List.mem_replicate.mp ht).2]; exact LOk.init m0 m1 s0 s1⟩
theorem followerOk {Z : Zs} {many step : Int} (m0 : 1 ≤ many) (m1 : many ≤ 100) (s0 : 1 ≤ step) (s1 : step ≤ 9) : MdlOk (followerM Z many step) where
  okI := FOk.init m0 m1 s0 s1
  okS := fun _ _ h h0 h1 => h.see h0 h1
  good := fun _ h => h.at_.2.good
  len := fun _ h => h.at_.2.len
  ok := fun _ _ _ _ ⟨_, _, _, f⟩ => f.fok
  frame := fun _ _ _ _ _ ⟨dx, q, ls, f⟩ k => ⟨dx, q, ls, f.frame k⟩
  own := fun _ _ _ _ ⟨_, _, _, f⟩ => f.own
  ins := fun H p s F ⟨dx, q, ls, f⟩ => ⟨dx, _, f.hp, lookFollower_many, noFollower (by decide +kernel), noFollower (by decide +kernel), noFollower (by decide +kernel)⟩
/-! ### rows pressed, rows read: plain -/
section
variable (M : Mdl)
/-- each sign of the row can be laid when it comes -/
def Valid : M.S → List Int → Prop
  | _, [] => True
  | s, x :: r => Sign (M.counts s) x ∧ Valid (M.see s x) r
def pressed : M.S → List Int → Int → Int
  | _, [], p => p
  | s, x :: r, p => put (pressed (M.see s x) r p) (M.counts s) x
def readS (s : M.S) (p : Int) : Nat → M.S × Int
  | 0 => (s, p)
  | i + 1 => (M.see (readS s p i).1 (offS (readS s p i).2 (M.counts (readS s p i).1)), offP (readS s p i).2 (M.counts (readS s p i).1))
def readX (s : M.S) (p : Int) (i : Nat) : Int := offS (readS M s p i).2 (M.counts (readS M s p i).1)
def readRow (s : M.S) (p : Int) (n : Nat) : List Int := (List.range n).map (readX M s p)
end
section
variable {M : Mdl}
theorem readRow_len (s : M.S) (p : Int) (n : Nat) : (readRow M s p n).length = n := by simp [readRow]
theorem readRow_succ (s : M.S) (p : Int) (n : Nat) : readRow M s p (n + 1) = readRow M s p n ++ [readX M s p n] := by
  unfold readRow
  rw [List.range_succ, List.map_append]
  rfl
theorem readS_shift (s : M.S) (p : Int) : ∀ i, readS M s p (i + 1) = readS M (readS M s p 1).1 (readS M s p 1).2 i
  | 0 => rfl
  | i + 1 => by
    have ih := readS_shift s p i
    show (M.see (readS M s p (i + 1)).1 _, _) = (M.see (readS M _ _ i).1 _, _)
    rw [ih]
theorem readRow_cons (s : M.S) (p : Int) (n : Nat) : readRow M s p (n + 1) = readX M s p 0 :: readRow M (readS M s p 1).1 (readS M s p 1).2 n := by
  unfold readRow
  rw [List.range_succ_eq_map, List.map_cons, List.map_map]
  congr 1
  refine List.map_congr_left fun i _ => ?_
  show offS (readS M s p (i + 1)).2 _ = offS (readS M _ _ i).2 _
  rw [readS_shift]
theorem ok_sign (o : MdlOk M) {s : M.S} (h : M.ok s) {x : Int} (hx : Sign (M.counts s) x) : M.ok (M.see s x) := o.okS s x h hx.nn (by have := hx.lt; have := o.len s h; omega)
theorem readS_ok (o : MdlOk M) {s : M.S} {p : Int} (h : M.ok s) : ∀ i, M.ok (readS M s p i).1
  | 0 => h
  | i + 1 => ok_sign o (readS_ok o h i) (off_sign (o.good _ (readS_ok o h i)) _).1
theorem readS_nn (o : MdlOk M) {s : M.S} {p : Int} (h : M.ok s) (hp : 0 ≤ p) : ∀ i, 0 ≤ (readS M s p i).2
  | 0 => hp
  | i + 1 => offP_nn (o.good _ (readS_ok o h i)) (readS_nn o h hp i)
theorem pressed_nn (o : MdlOk M) {p : Int} (hp : 0 ≤ p) : ∀ {row : List Int} {s : M.S}, M.ok s → Valid M s row → 0 ≤ pressed M s row p
  | [], _, _, _ => hp
  | x :: r, s, h, ⟨hx, hr⟩ => put_nn (o.good s h) (pressed_nn o hp (ok_sign o h hx) hr) hx
/-- what was pressed is read -/
theorem read_pressed (o : MdlOk M) {p : Int} : ∀ {row : List Int} {s : M.S}, M.ok s → Valid M s row → readRow M s (pressed M s row p) row.length = row ∧ (readS M s (pressed M s row p) row.length).2 = p
  | [], _, _, _ => ⟨rfl, rfl⟩
  | x :: r, s, h, ⟨hx, hr⟩ => by
    obtain ⟨e1, e2⟩ := off_put (p := pressed M (M.see s x) r p) (o.good s h) hx
    have e3 : readX M s (pressed M s (x :: r) p) 0 = x := e1
    have e4 : readS M s (pressed M s (x :: r) p) 1 = (M.see s x, pressed M (M.see s x) r p) := by
      show (M.see s (offS (put (pressed M (M.see s x) r p) (M.counts s) x) (M.counts s)), offP (put (pressed M (M.see s x) r p) (M.counts s) x) (M.counts s)) = _
      rw [e1, e2]
    obtain ⟨i1, i2⟩ := read_pressed o (p := p) (ok_sign o h hx) hr
    refine ⟨?_, ?_⟩
    · rw [List.length_cons, readRow_cons, e3, e4]
      exact congrArg _ i1
    · rw [List.length_cons, readS_shift, e4]
      exact i2
/-- what is read can be pressed again -/
theorem pressed_read (o : MdlOk M) : ∀ (n : Nat) {s : M.S} {p : Int}, M.ok s → Valid M s (readRow M s p n) ∧ pressed M s (readRow M s p n) (readS M s p n).2 = p
  | 0, _, _, _ => ⟨trivial, rfl⟩
  | n + 1, s, p, h => by
    have x := off_sign (o.good s h) p
    obtain ⟨i1, i2⟩ := pressed_read o n (s := (readS M s p 1).1) (p := (readS M s p 1).2) (ok_sign o h x.1)
    rw [readRow_cons, readS_shift s p n]
    refine ⟨⟨x.1, i1⟩, ?_⟩
    show put (pressed M (readS M s p 1).1 _ _) _ _ = p
    rw [i2]
    exact put_off (o.good s h) p
/-- the state behind i signs, what was told then -/
def stAt (M : Mdl) (s : M.S) (row : List Int) (i : Nat) : M.S := (row.take i).foldl M.see s
theorem stAt_succ {s : M.S} {row : List Int} {i : Nat} {x : Int} (h : row[i]? = some x) : stAt M s row (i + 1) = M.see (stAt M s row i) x := by
  obtain ⟨hi, e⟩ := List.getElem?_eq_some_iff.mp h
  unfold stAt
  rw [List.take_succ_eq_append_getElem hi, e, List.foldl_append]
  rfl
theorem valid_at (o : MdlOk M) : ∀ {row : List Int} {s : M.S} {i : Nat} {x : Int}, M.ok s → Valid M s row → row[i]? = some x → M.ok (stAt M s row i) ∧ Sign (M.counts (stAt M s row i)) x
  | [], _, _, _, _, _, e => by simp at e
  | y :: r, s, 0, x, h, ⟨hy, _⟩, e => by
    have e : y = x := by simpa using e
    subst e
    exact ⟨h, hy⟩
  | y :: r, s, i + 1, x, h, ⟨hy, hr⟩, e => valid_at o (row := r) (s := M.see s y) (i := i) (ok_sign o h hy) hr (by simpa using e)
theorem pressed_drop {row : List Int} {s : M.S} {i : Nat} {x p : Int} (h : row[i]? = some x) : pressed M (stAt M s row i) (row.drop i) p = put (pressed M (stAt M s row (i + 1)) (row.drop (i + 1)) p) (M.counts (stAt M s row i)) x := by
  obtain ⟨hi, e⟩ := List.getElem?_eq_some_iff.mp h
  rw [List.drop_eq_getElem_cons hi, e, stAt_succ h]
  rfl
end
def wayM (Z : Zs) (way many step : Int) (cs : List Int) : Mdl := if way = 0 then plainM Z cs else if way = 1 then learnerM Z many step else followerM Z many step
theorem wayMany {Z : Zs} {way many step : Int} {cs : List Int} (h : (cs.length : Int) = many) : (wayM Z way many step cs).many = many := by
  unfold wayM
  split
  · exact h
  · split <;> rfl
theorem valid_of {M : Mdl} (o : MdlOk M) : ∀ {row : List Int} {s : M.S}, M.ok s → (∀ s, M.ok s → ∀ z ∈ row, Sign (M.counts s) z) → Valid M s row
  | [], _, _, _ => trivial
  | x :: r, s, hs, h => ⟨h s hs x List.mem_cons_self, valid_of o (ok_sign o hs (h s hs x List.mem_cons_self)) fun s hs z hz => h s hs z (List.mem_cons_of_mem _ hz)⟩
theorem LOk.sign {many step z : Int} {t : List Int} (o : LOk many step t) (h0 : 0 ≤ z) (h1 : z < many) : Sign t z :=
  have l := o.len
  ⟨h0, by omega, by have := o.lo _ (cnt_mem (ns := t) h0 (by omega)); omega⟩
theorem way0 {Z : Zs} {way many step : Int} {cs : List Int} (h : way = 0) : wayM Z way many step cs = plainM Z cs := if_pos h
theorem way1 {Z : Zs} {way many step : Int} {cs : List Int} (h : way = 1) : wayM Z way many step cs = learnerM Z many step := (if_neg (by omega)).trans (if_pos h)
theorem way2 {Z : Zs} {way many step : Int} {cs : List Int} (h : ¬ way = 0) (h1 : ¬ way = 1) : wayM Z way many step cs = followerM Z many step := (if_neg h).trans (if_neg h1)
theorem wayValid {Z : Zs} {way many step : Int} {cs row : List Int} (o : MdlOk (wayM Z way many step cs)) (h0 : way = 0 → ∀ z ∈ row, Sign cs z) (h1 : way ≠ 0 → ∀ z ∈ row, 0 ≤ z ∧ z < many) : Valid (wayM Z way many step cs) (wayM Z way many step cs).init row := by
  refine valid_of o o.okI ?_
  by_cases h : way = 0
  · rw [way0 h]
    exact fun _ _ z hz => h0 h z hz
  · by_cases h' : way = 1
    · rw [way1 h']
      exact fun s hs z hz => LOk.sign hs (h1 h z hz).1 (h1 h z hz).2
    · rw [way2 h h']
      exact fun s hs z hz => LOk.sign (FOk.at_ hs).2 (h1 h z hz).1 (h1 h z hz).2
def tallyAt (many step : Int) (row : List Int) (j : Nat) : List Int := (row.take j).foldl (seeL step) (List.replicate many.toNat 1)
def toldAt (way many step : Int) (cs row : List Int) (j : Nat) : List Int := if way = 0 then cs else tallyAt many step row j
theorem tally_succ {many step s : Int} {row : List Int} {i : Nat} (hn : row[i]? = some s) : tallyAt many step row (i + 1) = seeL step (tallyAt many step row i) s := by
  obtain ⟨h, e⟩ := List.getElem?_eq_some_iff.mp hn
  unfold tallyAt
  rw [List.take_succ_eq_append_getElem h, e, List.foldl_append]
  rfl
theorem tally_ok {many step : Int} {row : List Int} (m0 : 1 ≤ many) (m1 : many ≤ 100) (s0 : 1 ≤ step) (s1 : step ≤ 9) (hr : ∀ z ∈ row, 0 ≤ z ∧ z < many) : ∀ i, i ≤ row.length → LOk many step (tallyAt many step row i)
  | 0, _ => LOk.init m0 m1 s0 s1
  | i + 1, hi => by
    have h := hr _ (List.getElem_mem (l := row) (n := i) (by omega))
    rw [tally_succ (List.getElem?_eq_getElem (l := row) (i := i) (by omega))]
    exact (tally_ok m0 m1 s0 s1 hr i (by omega)).see h.1 h.2
theorem way_told {Z : Zs} {way many step : Int} {cs row : List Int} (h : way < 2) (h' : 0 ≤ way) (j : Nat) : (wayM Z way many step cs).counts (stAt (wayM Z way many step cs) (wayM Z way many step cs).init row j) = toldAt way many step cs row j := by
  by_cases e : way = 0
  · rw [way0 e]
    exact (if_pos e).symm
  · rw [way1 (show way = 1 by omega)]
    exact (if_neg e).symm
end Np

/-! Raise: exceptions of own classes: raised in a method, caught by a clause without a name. -/
namespace Np
open PySem PySem.Spec PyProof.Rows L2
/-- what the text says of an own exception class -/
structure ExcF (K : PySem.W.Frag) (mg : Str → Option Value) (n : Str) (C : Addr) : Prop where
  gP : mg n = some (.ref C)
  xP : PySem.W.excIn K C [.type "ValueError", .type "Exception", .type "BaseException", .type "object"] "ValueError.__new__" = true
  kP : PySem.W.keepIn K (.ref C) = true
  bP : PySem.W.subIn K (.ref C) (.type "BaseException") = some true
  tP : PySem.W.typeIn K (.ref C) = some (.type "type")
  iP : PySem.W.isClsIn K C = true
  sP : PySem.W.subIn K (.ref C) (.ref C) = some true
theorem ExcF.te {K : PySem.W.Frag} {mg : Str → Option Value} {n : Str} {C : Addr} (x : ExcF K mg n C) : PySem.W.exmOne K (.ref C) (.ref C) = some true := by
  have e1 : (PySem.W.subIn K (.ref C) (.type "BaseException") == some true) = true := by rw [x.bP] <;> rfl
  have e2 : ((PySem.W.clsIn K C).isSome && PySem.W.typeIn K (.ref C) == some (.type "type")) = true := by
    have h2' : (PySem.W.clsIn K C).isSome = true := x.iP
    rw [h2', x.tP] <;> rfl
  show (if (PySem.W.subIn K (.ref C) (.type "BaseException") == some true) = true then (if ((PySem.W.clsIn K C).isSome && PySem.W.typeIn K (.ref C) == some (.type "type")) = true then PySem.W.subIn K (.ref C) (.ref C) else none) else none) = some true
  rw [if_pos e1, if_pos e2]
  exact x.sP
/-- a method that may raise -/
structure MetX (P : Program) (w : World) (K : PySem.W.Frag) (mg : Str → Option Value) (base : Heap) (k : Nat) (C : Addr) (m : Str) (sp : Sp) : Prop where
  ex : ∃ (f : Addr) (fd : FuncData) (ps : List Str), Cls K C ∧ Meth K C m f ∧ FnOk P w K mg base (L2.CX P w) k f fd ps sp ∧ Binds K fd ps []
def tMethX (C : Addr) (m : Str) (sp : Sp) (W : WX) (ta : TE) (t : TA) : TE := fun σ H Q => ta σ H fun x H1 => ∃ a dx fs, x = .ref a ∧ H1 a = some (.ins C dx fs) ∧ fs.lookup m = none ∧ t σ H1 fun vs H2 => sp (x :: vs) H2 Q (WE W σ)
section
variable {X : Cx} {k j : Nat} {C : Addr} {x m : Str} {sp : Sp} {W : WX} {p pos apos : Pos} {e o : Expr} {es : List Expr} {ta : TE} {t : TA}
theorem pe_mtX {pl : Sem Bool} (c : MetX X.prog X.w X.K X.mg X.base k C m sp) (hr : Room j X.A) (hk : k ≤ j) (tk : Takes X W) (he : PE X o ta) (ha : PA X (e :: es) t)
    (hst : starEach (e :: es) X.env = (false, eval e X.env) :: starEach es X.env := by rfl) (hpl : (backTo pos (starEach es X.env)).any (·.1) = false := by rfl)
    (ht : eval (.Call (.Attribute o m apos) (e :: es) [] pos) X.env = (do
      let ov ← eval o X.env
      standAt apos.atName
      let (f, first) ← holding [ov] (getMethod ov m pl)
      callWith pos f first (backTo pos (starEach (e :: es) X.env)) (backToKw pos (keywordEach [] X.env))) := by rfl) :
    PE X (.Call (.Attribute o m apos) (e :: es) [] pos) (tMethX C m sp W ta t) := by
  obtain ⟨f, fd, ps, hc, hm, F, hb⟩ := c.ex
  refine ⟨fun pins s σ H Q I h => ?_⟩
  refine PySem.W.methodCall_KW (pl := pl) (thn (he.run pins s σ H _ I h) fun u s1 ⟨x, H1, I1, rx, a, dx, fs, ex, ea, l, q⟩ => ?_) ht
  subst ex
  obtain rfl : u = Value.ref a := rx
  refine getmeth_ok I1 ea hc hm l ?_
  refine PySem.W.callWith_K (first := [.ref a]) (h₀ := X.base) I.ok.mod.kin hm.kp (thn (ha.run pos pins s1 σ H1 _ I1 q) fun us s2 ⟨vs, H2, I2, r, q2⟩ => ⟨I2.kIn, ?_⟩) hst hpl
  exact run_fnS (E := WE W) (us := .ref a :: us) (vs := .ref a :: vs) F (hr.mono hk) hb (passAt tk σ) I2 (.cons rfl r) q2
theorem pe_mtX0 {pl : Sem Bool} (c : MetX X.prog X.w X.K X.mg X.base k C m sp) (hr : Room j X.A) (hk : k ≤ j) (tk : Takes X W) (he : PE X o ta)
    (ht : eval (.Call (.Attribute o m apos) [] [] pos) X.env = (do
      let ov ← eval o X.env
      standAt apos.atName
      let (f, first) ← holding [ov] (getMethod ov m pl)
      callWith pos f first (backTo pos (starEach [] X.env)) (backToKw pos (keywordEach [] X.env))) := by rfl) :
    PE X (.Call (.Attribute o m apos) [] [] pos) (tMethX C m sp W ta tNil) := by
  obtain ⟨f, fd, ps, hc, hm, F, hb⟩ := c.ex
  refine ⟨fun pins s σ H Q I h => ?_⟩
  refine PySem.W.methodCall_KW (pl := pl) (thn (he.run pins s σ H _ I h) fun u s1 ⟨x, H1, I1, rx, a, dx, fs, ex, ea, l, q⟩ => ?_) ht
  subst ex
  obtain rfl : u = Value.ref a := rx
  refine getmeth_ok I1 ea hc hm l ?_
  exact PySem.W.callWith_K0 (first := [.ref a]) I1.kIn hm.kp (run_fnS (E := WE W) (us := [.ref a]) (vs := [.ref a]) F (hr.mono hk) hb (passAt tk σ) I1 (.cons rfl .nil) q)
/-- .. called where it lets nothing out -/
theorem pe_mtL {pl : Sem Bool} (c : MetX X.prog X.w X.K X.mg X.base k C m sp) (hr : Room j X.A) (hk : k ≤ j) (he : PE X o ta) (ha : PA X (e :: es) t)
    (hst : starEach (e :: es) X.env = (false, eval e X.env) :: starEach es X.env := by rfl) (hpl : (backTo pos (starEach es X.env)).any (·.1) = false := by rfl)
    (ht : eval (.Call (.Attribute o m apos) (e :: es) [] pos) X.env = (do
      let ov ← eval o X.env
      standAt apos.atName
      let (f, first) ← holding [ov] (getMethod ov m pl)
      callWith pos f first (backTo pos (starEach (e :: es) X.env)) (backToKw pos (keywordEach [] X.env))) := by rfl) :
    PE X (.Call (.Attribute o m apos) (e :: es) [] pos) (tMeth C m sp [] C8.E0 ta t) := by
  obtain ⟨f, fd, ps, hc, hm, F, hb⟩ := c.ex
  exact pe_meth (pl := pl) he hc hm F (hr.mono hk) hb .nil passL ha hst hpl ht
theorem pe_mtL0 {pl : Sem Bool} (c : MetX X.prog X.w X.K X.mg X.base k C m sp) (hr : Room j X.A) (hk : k ≤ j) (he : PE X o ta)
    (ht : eval (.Call (.Attribute o m apos) [] [] pos) X.env = (do
      let ov ← eval o X.env
      standAt apos.atName
      let (f, first) ← holding [ov] (getMethod ov m pl)
      callWith pos f first (backTo pos (starEach [] X.env)) (backToKw pos (keywordEach [] X.env))) := by rfl) :
    PE X (.Call (.Attribute o m apos) [] [] pos) (tMeth C m sp [] C8.E0 ta tNil) := by
  obtain ⟨f, fd, ps, hc, hm, F, hb⟩ := c.ex
  exact pe_meth0 (pl := pl) he hc hm F (hr.mono hk) hb .nil passL ht
end
section
variable {K : PySem.W.Frag} {σ : L2.St} {H : Hp} {D : Ends} {Q : VK} {C a dx : Addr} {m : Str} {sp : Sp} {W : WX} {ta : TE} {t : TA} {fs : List (Str × V)}
def kMethX (C : Addr) (m : Str) (sp : Sp) (W : WX) (t : TA) (σ : L2.St) (Q : VK) : VK := fun x H1 => ∃ a dx fs, x = .ref a ∧ H1 a = some (.ins C dx fs) ∧ fs.lookup m = none ∧ t σ H1 fun vs H2 => sp (x :: vs) H2 Q (WE W σ)
theorem w_methX (q : ta σ H (kMethX C m sp W t σ Q)) : tMethX C m sp W ta t σ H Q := q
theorem w_kMethX (h : H a = some (.ins C dx fs)) (n : fs.lookup m = none) (q : t σ H fun vs H2 => sp (.ref a :: vs) H2 Q (WE W σ)) : kMethX C m sp W t σ Q (.ref a) H := ⟨a, dx, fs, rfl, h, n, q⟩
/-- raise X('..') -/
def tRaise (C : Addr) (W : WX) : TS := fun _ σ H => W (.ref C) none σ H
theorem w_raise (q : W (.ref C) none σ H) : tRaise C W D σ H := q
/-- try: .. except X: .. -/
def tTry (K : PySem.W.Frag) (c : Value) (ts : Addr → Value → Option Addr → TS) (tb : WX → TS) : TS := fun D σ H => tb (wOnly K c ts (fun _ _ _ _ => False) D) D σ H
theorem w_try {c : Value} {ts : Addr → Value → Option Addr → TS} {tb : WX → TS} (q : tb (wOnly K c ts (fun _ _ _ _ => False) D) D σ H) : tTry K c ts tb D σ H := q
theorem w_caught {cls c : Value} {d : Option Addr} {ts : Addr → Value → Option Addr → TS} {Wout : WX} (h : PySem.W.exmOne K cls c = some true) (q : ∀ a, H a = none → ts a cls d D σ H) : wOnly K c ts Wout D cls d σ H :=
  ⟨true, h, fun _ => q, fun z => nomatch z⟩
end
section
variable {X : Cx} {K : PySem.W.Frag} {x : Str} {body suite : List Stmt} {b₀ : Stmt} {np pos pos' : Pos} {tb : WX → TS} {ts : Addr → Value → Option Addr → TS} {C : Addr}
theorem ps_tryO (eK : X.K = K) (hs : X.stack = X.env :: X.outer) (hf : X.env.frame = some X.env.locals) (hg : Gl X x) (hd : (x == ("__debug__" : Str)) = false) (T : ExcF K X.mg x C)
    (hb : ∀ (W : WX) (pn : List (Addr × Obj)) (xe : Value → Shared → Prop), Takes (X.tr pn xe) W → PassesOwn (model X.prog X.w) X.A X.env xe → PSs (X.tr pn xe) body (tb W))
    (hsu : ∀ (a : Addr) (oe : Obj) (cls : Value) (d : Option Addr) (pn : List (Addr × Obj)), Zc cls d oe → (∃ vs, oe.data = .fields vs) → PSs (X.suite a ((a, oe) :: pn)) (b₀ :: suite) (ts a cls d)) :
    PS X (.Try body [.ExceptHandler (some (.Name x np)) none (b₀ :: suite) pos'] [] [] pos) (tTry K (.ref C) ts tb) := by
  subst eK
  exact ps_try_only hs hf ⟨hg, hd, .inl T.gP⟩ takes0 hb hsu
theorem ps_raiseO {mm : Str} {j : Nat} {p p2 pos2 : Pos} {W : WX} (hc : X.calm = true) (tk : Takes X W) (T : ExcF X.K X.mg x C) (hg : Gl X x) (hd : (x == ("__debug__" : Str)) = false) :
    PS X (.Raise (some (.Call (.Name x p) [.Constant (.str mm) j p2] [] pos)) none pos2) (tRaise C W) :=
  ps_raise hc tk (pmk_own PySem.F.excBase_ValueError T.xP T.gP T.kP (raises_own T.bP T.tP) hg hd)
end
end Np

/-! Stream: a number within bounds, out of which words flow. -/
namespace Np
open PySem PySem.Spec PyProof.Rows L2
theorem div_less {n b : Int} (h : 2 ≤ b) (h1 : 1 ≤ n) : 0 ≤ n / b ∧ n / b < n := by
  have h0 : 0 ≤ n / b := Int.ediv_nonneg (by omega) (by omega)
  refine ⟨h0, ?_⟩
  have e := div_back n b
  have m := Int.emod_nonneg n (show b ≠ 0 by omega)
  have : 2 * (n / b) ≤ n / b * b := by
    rw [Int.mul_comm (n / b) b]
    exact Int.mul_le_mul_of_nonneg_right h h0
  omega
/-- words flow out, as long as the number is not below lim -/
def flowOut (lim base n : Int) (w : List Int) : Int × List Int :=
  if h : 2 ≤ base ∧ 1 ≤ lim ∧ lim ≤ n then flowOut lim base (n / base) (w ++ [n % base]) else (n, w)
termination_by n.toNat
decreasing_by
  have := div_less (n := n) h.1 (by omega)
  omega
theorem flowOut_go {lim base n : Int} {w : List Int} (h1 : 2 ≤ base) (h2 : 1 ≤ lim) (h : lim ≤ n) : flowOut lim base n w = flowOut lim base (n / base) (w ++ [n % base]) := by
  rw [flowOut, dif_pos ⟨h1, h2, h⟩]
theorem flowOut_end {lim base n : Int} {w : List Int} (h : n < lim) : flowOut lim base n w = (n, w) := by
  rw [flowOut, dif_neg (by omega)]
/-- words flow back, the last first, as long as the number is below low; w: the words turned round -/
def flowR (low base : Int) : Int → List Int → Option (Int × List Int)
  | n, [] => if low ≤ n then some (n, []) else none
  | n, x :: r => if low ≤ n then some (n, x :: r) else flowR low base (n * base + x) r
def flowIn (low base n : Int) (w : List Int) : Option (Int × List Int) := (flowR low base n w.reverse).map fun x => (x.1, x.2.reverse)
theorem flowIn_end {low base n : Int} {w : List Int} (h : low ≤ n) : flowIn low base n w = some (n, w) := by
  unfold flowIn
  cases e : w.reverse with
  | nil =>
    have : w = [] := by simpa using e
    subst this
    simp [flowR, h]
  | cons x r =>
    have : w = r.reverse ++ [x] := by
      have := congrArg List.reverse e
      simpa using this
    subst this
    simp [flowR, h]
theorem flowIn_go {low base n x : Int} {v : List Int} (h : n < low) : flowIn low base n (v ++ [x]) = flowIn low base (n * base + x) v := by
  unfold flowIn
  have e : (v ++ [x]).reverse = x :: v.reverse := by simp
  rw [e]
  show Option.map _ (if low ≤ n then _ else _) = _
  rw [if_neg (by omega)]
theorem flowIn_none {low base n : Int} (h : n < low) : flowIn low base n [] = none := by
  show Option.map _ (if low ≤ n then some (n, ([] : List Int)) else none) = none
  rw [if_neg (by omega)]
  rfl
/-- what stream and words may be -/
structure StOk (cs : List Int) (base grain : Int) (st : Int × List Int) : Prop where
  g : Good cs
  b0 : 2 ≤ base
  b1 : base ≤ 1000
  g0 : 1 ≤ grain
  g1 : grain ≤ 100
  lo : grain * cs.sum ≤ st.1
  hi : st.1 < grain * cs.sum * base
  ws : ∀ x ∈ st.2, 0 ≤ x ∧ x < base
def streamed (cs : List Int) (base grain : Int) (st : Int × List Int) (s : Int) : Int × List Int :=
  (put (flowOut (grain * base * cnt cs s) base st.1 st.2).1 cs s, (flowOut (grain * base * cnt cs s) base st.1 st.2).2)
def flowed (cs : List Int) (base grain : Int) (st : Int × List Int) : Option (Int × List Int) := flowIn (grain * cs.sum) base (offP st.1 cs) st.2
/-- what law_k11 keeps of a taking: the sign, or -1, and the state -/
def flowedC (cs : List Int) (base grain : Int) (st : Int × List Int) : Int × (Int × List Int) := match flowed cs base grain st with
  | none => (-1, st)
  | some r => (offS st.1 cs, r)
theorem flowedC_none {cs : List Int} {base grain : Int} {st : Int × List Int} (h : flowed cs base grain st = none) : flowedC cs base grain st = (-1, st) := by
  unfold flowedC
  rw [h]
theorem flowedC_some {cs : List Int} {base grain : Int} {st r : Int × List Int} (h : flowed cs base grain st = some r) : flowedC cs base grain st = (offS st.1 cs, r) := by
  unfold flowedC
  rw [h]
theorem mul_mono {a b c : Int} (h : a ≤ b) (h0 : 0 ≤ c) : a * c ≤ b * c := Int.mul_le_mul_of_nonneg_right h h0
section
variable {cs : List Int} {base grain s : Int} {st : Int × List Int}
/-- the number stays at grain * count at least while words flow out -/
theorem out_ok (b0 : 2 ≤ base) {c : Int} (c1 : 1 ≤ c) (g0 : 1 ≤ grain) : ∀ (k : Nat) (n : Int) (w : List Int), n.toNat ≤ k → grain * c ≤ n → n < 2 ^ 40 → (∀ x ∈ w, 0 ≤ x ∧ x < base) →
    let r := flowOut (grain * base * c) base n w
    grain * c ≤ r.1 ∧ r.1 < grain * base * c ∧ (∀ x ∈ r.2, 0 ≤ x ∧ x < base)
  | 0, n, w, hk, h1, _, hw => by
    have : 1 * 1 ≤ grain * c := Int.mul_le_mul g0 c1 (by omega) (by omega)
    omega
  | k + 1, n, w, hk, h1, h2, hw => by
    have gc : 1 * 1 ≤ grain * c := Int.mul_le_mul g0 c1 (by omega) (by omega)
    have e : grain * base * c = grain * c * base := by rw [Int.mul_assoc, Int.mul_comm base c, ← Int.mul_assoc]
    have l1 : 1 ≤ grain * base * c := by
      rw [e]
      have := Int.mul_le_mul gc b0 (by omega) (by omega)
      omega
    by_cases h : grain * base * c ≤ n
    · rw [flowOut_go b0 l1 h]
      have d := div_less (n := n) b0 (by omega)
      refine out_ok b0 c1 g0 k (n / base) _ (by omega) ?_ (by omega) ?_
      · rw [e] at h
        exact Int.le_ediv_of_mul_le (by omega) h
      · intro x hx
        rcases List.mem_append.mp hx with hx | hx
        · exact hw x hx
        · rw [List.mem_singleton.mp hx]
          exact ⟨Int.emod_nonneg _ (by omega), Int.emod_lt_of_pos _ (by omega)⟩
    · rw [flowOut_end (by omega)]
      exact ⟨h1, by omega, hw⟩
theorem out_len (b0 : 2 ≤ base) {lim : Int} (l1 : 1 ≤ lim) : ∀ (k : Nat) (n : Int) (w : List Int), n < 2 ^ k → (flowOut lim base n w).2.length ≤ w.length + k
  | 0, n, w, h => by
    rw [flowOut_end (by simp at h; omega)]
    exact Nat.le_refl _
  | k + 1, n, w, h => by
    by_cases hl : lim ≤ n
    · rw [flowOut_go b0 l1 hl]
      have e := div_back n base
      have m := Int.emod_nonneg n (show base ≠ 0 by omega)
      have d := div_less (n := n) b0 (by omega)
      have : 2 * (n / base) ≤ n / base * base := by
        rw [Int.mul_comm (n / base) base]
        exact Int.mul_le_mul_of_nonneg_right b0 d.1
      rw [Int.pow_succ] at h
      have := out_len b0 l1 k (n / base) (w ++ [n % base]) (by omega)
      rw [List.length_append] at this
      simp at this
      omega
    · rw [flowOut_end (by omega)]
      exact Nat.le_add_right _ _
theorem StOk.small (o : StOk cs base grain st) : st.1 < 2 ^ 40 := by
  have h1 := o.hi
  have h2 := o.g.sumle
  have h3 : grain * cs.sum ≤ 100 * 99900 := Int.mul_le_mul o.g1 h2 (by have := o.g.sum; omega) (by decide)
  have h4 : grain * cs.sum * base ≤ 100 * 99900 * 1000 := Int.mul_le_mul h3 o.b1 (by have := o.b0; omega) (by decide)
  omega
theorem StOk.sum1 (o : StOk cs base grain st) : 1 ≤ grain * cs.sum := by
  have := Int.mul_le_mul o.g0 (show (1 : Int) ≤ cs.sum from o.g.sum) (by decide) (by have := o.g0; omega)
  omega
theorem StOk.lay (o : StOk cs base grain st) (x : Sign cs s) : StOk cs base grain (streamed cs base grain st s) := by
  have c1 : 1 ≤ cnt cs s := x.cp
  have ct := first_top o.g x.nn x.lt
  have fn := first_nn o.g s
  have low : grain * cnt cs s ≤ st.1 := Int.le_trans (Int.mul_le_mul_of_nonneg_left (by omega) (by have := o.g0; omega)) o.lo
  obtain ⟨r1, r2, r3⟩ := out_ok (grain := grain) o.b0 c1 o.g0 st.1.toNat st.1 st.2 (Nat.le_refl _) low o.small o.ws
  obtain ⟨p1, p2⟩ := put_level o.g x (flowOut (grain * base * cnt cs s) base st.1 st.2).1
  have q1 : grain ≤ (flowOut (grain * base * cnt cs s) base st.1 st.2).1 / cnt cs s := Int.le_ediv_of_mul_le (by omega) r1
  have q2 : (flowOut (grain * base * cnt cs s) base st.1 st.2).1 / cnt cs s < grain * base := Int.ediv_lt_of_lt_mul (by omega) r2
  have sp := o.g.sum
  refine ⟨o.g, o.b0, o.b1, o.g0, o.g1, ?_, ?_, r3⟩
  · refine Int.le_trans ?_ p1
    rw [Int.mul_comm grain]
    exact Int.mul_le_mul_of_nonneg_left q1 (by omega)
  · refine Int.lt_of_lt_of_le p2 ?_
    have : cs.sum * ((flowOut (grain * base * cnt cs s) base st.1 st.2).1 / cnt cs s + 1) ≤ cs.sum * (grain * base) := Int.mul_le_mul_of_nonneg_left (by omega) (by omega)
    rw [show grain * cs.sum * base = cs.sum * (grain * base) from by rw [Int.mul_comm grain, Int.mul_assoc]]
    exact this
theorem StOk.grown (o : StOk cs base grain st) (x : Sign cs s) : (streamed cs base grain st s).2.length ≤ st.2.length + 40 := by
  have l1 : 1 ≤ grain * base * cnt cs s := by
    have h1 : 1 * 1 ≤ grain * base := Int.mul_le_mul o.g0 (by have := o.b0; omega) (by decide) (by have := o.g0; omega)
    have h2 := Int.mul_le_mul h1 (show (1 : Int) ≤ cnt cs s from x.cp) (by decide) (by omega)
    omega
  exact out_len o.b0 l1 40 st.1 st.2 o.small
theorem in_ok (b0 : 2 ≤ base) {low : Int} (l0 : 1 ≤ low) : ∀ (w : List Int) (n : Int) (r : Int × List Int), 0 ≤ n → n < low * base → (∀ x ∈ w, 0 ≤ x ∧ x < base) → flowR low base n w = some r → low ≤ r.1 ∧ r.1 < low * base ∧ (∀ x ∈ r.2, 0 ≤ x ∧ x < base) ∧ r.2.length ≤ w.length
  | [], n, r, h0, h1, hw, e => by
    unfold flowR at e
    split at e
    · cases e
      exact ⟨by assumption, h1, hw, Nat.le_refl _⟩
    · cases e
  | x :: u, n, r, h0, h1, hw, e => by
    unfold flowR at e
    split at e
    · cases e
      exact ⟨by assumption, h1, hw, Nat.le_refl _⟩
    · rename_i hn
      have hx := hw x List.mem_cons_self
      have h2 : n * base ≤ (low - 1) * base := Int.mul_le_mul_of_nonneg_right (by omega) (by omega)
      rw [Int.sub_mul, Int.one_mul] at h2
      have h3 : 0 ≤ n * base := Int.mul_nonneg h0 (by omega)
      obtain ⟨a1, a2, a3, a4⟩ := in_ok b0 l0 u (n * base + x) r (by omega) (by omega) (fun y hy => hw y (List.mem_cons_of_mem _ hy)) e
      exact ⟨a1, a2, a3, Nat.le_succ_of_le a4⟩
theorem off_low (o : StOk cs base grain st) : 0 ≤ offP st.1 cs ∧ offP st.1 cs < grain * cs.sum * base := by
  have h0 := offP_nn o.g (p := st.1) (by have := o.lo; have := o.sum1; omega)
  refine ⟨h0, ?_⟩
  obtain ⟨x, f1, f2⟩ := off_sign o.g st.1
  have ct := first_top o.g x.nn x.lt
  have fn := first_nn o.g (offS st.1 cs)
  have sp := o.g.sum
  have hb := div_back st.1 cs.sum
  have q0 : 0 ≤ st.1 / cs.sum := Int.ediv_nonneg (by have := o.lo; have := o.sum1; omega) (by omega)
  have : st.1 / cs.sum * cnt cs (offS st.1 cs) ≤ st.1 / cs.sum * cs.sum := Int.mul_le_mul_of_nonneg_left (by omega) q0
  have := o.hi
  unfold offP
  omega
theorem StOk.take (o : StOk cs base grain st) {r : Int × List Int} (h : flowed cs base grain st = some r) : StOk cs base grain r ∧ r.2.length ≤ st.2.length := by
  unfold flowed flowIn at h
  obtain ⟨r', h1, rfl⟩ := Option.map_eq_some_iff.mp h
  obtain ⟨z0, z1⟩ := off_low o
  obtain ⟨a1, a2, a3, a4⟩ := in_ok o.b0 o.sum1 _ _ _ z0 z1 (fun x hx => o.ws x (List.mem_reverse.mp hx)) h1
  refine ⟨⟨o.g, o.b0, o.b1, o.g0, o.g1, a1, a2, fun x hx => a3 x (List.mem_reverse.mp hx)⟩, ?_⟩
  rw [List.length_reverse] at a4
  show r'.2.reverse.length ≤ _
  rw [List.length_reverse]
  exact a4
end
/-- a stream on the heap -/
def StrAt (Z : Zs) (cs : List Int) (base grain : Int) (H : Hp) (p : Addr) (st : Int × List Int) (F : List Addr) : Prop :=
  StOk cs base grain st ∧ ∃ (dx lc lw : Addr), H p = some (.ins Z.stream dx (fsStream lc base grain (grain * cs.sum) st.1 lw)) ∧ H lc = some (.lst (iL cs)) ∧ H lw = some (.lst (iL st.2)) ∧ lc ≠ lw ∧ F = [p, lc, lw]
theorem StrAt.frame {Z : Zs} {cs : List Int} {base grain : Int} {H H' : Hp} {p : Addr} {st : Int × List Int} {F : List Addr} (r : StrAt Z cs base grain H p st F) (k : ∀ b ∈ F, ∀ o, H b = some o → H' b = some o) : StrAt Z cs base grain H' p st F := by
  obtain ⟨o, dx, lc, lw, h1, h2, h3, h4, rfl⟩ := r
  exact ⟨o, dx, lc, lw, k p (by simp) _ h1, k lc (by simp) _ h2, k lw (by simp) _ h3, h4, rfl⟩
theorem StrAt.up {Z : Zs} {cs : List Int} {base grain : Int} {H H' : Hp} {p : Addr} {st : Int × List Int} {F : List Addr} (r : StrAt Z cs base grain H p st F) (e : Evl.Ex H H') : StrAt Z cs base grain H' p st F := r.frame fun b _ o h => e b o h
theorem StrAt.keep {Z : Zs} {cs : List Int} {base grain : Int} {H H' : Hp} {p : Addr} {st : Int × List Int} {F G : List Addr} (r : StrAt Z cs base grain H p st F) (k : Keep G H H') (d : ∀ b ∈ F, b ∉ G) : StrAt Z cs base grain H' p st F := r.frame fun b hb o h => k b o (d b hb) h
theorem StrAt.own {Z : Zs} {cs : List Int} {base grain : Int} {H : Hp} {p : Addr} {st : Int × List Int} {F : List Addr} (r : StrAt Z cs base grain H p st F) : Own F H := by
  obtain ⟨o, dx, lc, lw, h1, h2, h3, h4, rfl⟩ := r
  intro b hb
  rcases List.mem_cons.mp hb with rfl | hb
  · exact ⟨_, h1⟩
  rcases List.mem_cons.mp hb with rfl | hb
  · exact ⟨_, h2⟩
  · rw [List.mem_singleton.mp hb]
    exact ⟨_, h3⟩
section
variable {H : Hp} {Q : VK} {a : Addr} {xs : List V} {y : V}
theorem w_popK (h : H a = some (.lst (xs ++ [y]))) (q : ∀ H1, Keep [a] H H1 → H1 a = some (.lst xs) → (∀ b, H1 b = none → H b = none) → Q y H1) : rPop (.ref a) [] H Q :=
  w_pop h (q _ (fun b o n e => (upd_ne (fun z => n (by rw [z]; simp))).trans e) upd_same fun b e => by
    by_cases z : b = a
    · rw [z, upd_same] at e
      cases e
    · rw [← upd_ne (H := H) (o := .lst xs) z]
      exact e)
end
/-! ### flowing out, and back -/
theorem flow_back0 {low lim base : Int} (b0 : 2 ≤ base) (l1 : 1 ≤ lim) : ∀ (k : Nat) (n : Int) (w : List Int), n.toNat ≤ k → n < low → flowIn low base (flowOut lim base n w).1 (flowOut lim base n w).2 = flowIn low base n w
  | 0, n, w, hk, _ => by
    rw [flowOut_end (by omega)]
  | k + 1, n, w, hk, hn => by
    by_cases h : lim ≤ n
    · have d := div_less (n := n) b0 (by omega)
      rw [flowOut_go b0 l1 h, flow_back0 b0 l1 k (n / base) _ (by omega) (by omega), flowIn_go (by omega), div_back]
    · rw [flowOut_end (by omega)]
theorem flow_back {low lim base n : Int} {w : List Int} (b0 : 2 ≤ base) (l1 : 1 ≤ lim) (h0 : low ≤ n) (h1 : n < low * base) (hp : 0 < n) : flowIn low base (flowOut lim base n w).1 (flowOut lim base n w).2 = some (n, w) := by
  by_cases h : lim ≤ n
  · have d := div_less (n := n) b0 (by omega)
    have hq : n / base < low := Int.ediv_lt_of_lt_mul (by omega) h1
    rw [flowOut_go b0 l1 h, flow_back0 b0 l1 (n / base).toNat (n / base) _ (Nat.le_refl _) hq, flowIn_go hq, div_back]
    exact flowIn_end h0
  · rw [flowOut_end (by omega)]
    exact flowIn_end h0
/-- words that lie ahead -/
theorem flowOut_pre {lim base : Int} (b0 : 2 ≤ base) (l1 : 1 ≤ lim) (u : List Int) : ∀ (k : Nat) (n : Int) (w : List Int), n.toNat ≤ k → flowOut lim base n (u ++ w) = ((flowOut lim base n w).1, u ++ (flowOut lim base n w).2)
  | 0, n, w, hk => by
    rw [flowOut_end (by omega), flowOut_end (by omega)]
  | k + 1, n, w, hk => by
    by_cases h : lim ≤ n
    · have d := div_less (n := n) b0 (by omega)
      rw [flowOut_go b0 l1 h, flowOut_go b0 l1 h, List.append_assoc, flowOut_pre b0 l1 u k (n / base) _ (by omega)]
    · rw [flowOut_end (by omega), flowOut_end (by omega)]
theorem flowR_pre {low base : Int} (u : List Int) : ∀ (w : List Int) (n : Int) (r : Int × List Int), flowR low base n w = some r → flowR low base n (w ++ u) = some (r.1, r.2 ++ u)
  | [], n, r, h => by
    unfold flowR at h
    split at h
    · rename_i hl
      cases h
      cases u with
      | nil => simp [flowR, hl]
      | cons x u => simp [flowR, hl]
    · cases h
  | x :: w, n, r, h => by
    unfold flowR at h
    split at h
    · rename_i hl
      cases h
      simp [flowR, hl]
    · rename_i hl
      rw [List.cons_append]
      unfold flowR
      rw [if_neg hl]
      exact flowR_pre u w _ r h
theorem flowIn_pre {low base n : Int} {w : List Int} {r : Int × List Int} (u : List Int) (h : flowIn low base n w = some r) : flowIn low base n (u ++ w) = some (r.1, u ++ r.2) := by
  unfold flowIn at h ⊢
  obtain ⟨r', h1, rfl⟩ := Option.map_eq_some_iff.mp h
  rw [List.reverse_append, flowR_pre u.reverse _ _ _ h1]
  simp
end Np

set_option Elab.async false
set_option linter.all false
set_option maxRecDepth 100000
set_option maxHeartbeats 4000000
/-! Hot: walks, sums and calls where an exception is handled; exceptions whose context is None. -/
namespace Np
open PySem PySem.Spec PyProof.Rows L2 HotX
open L2H (HotC Hot1 FnH RoomH PIH PIEH TurnH cxH fn_ofH roomH_of run_fnH)
section
variable {prog : Program} {w : World} {A : Around} {E : Value → Shared → Prop} {s : Shared}
theorem pyNext_list_end_hot {it l x1 : Addr} {i : Nat} {items : Array Value} {Q : Option Value → Shared → Prop} (hot : HotAt A x1 s.heap) (hne : it ≠ x1)
    (hit : s.heap.IsListIter it l i) (hl : s.heap.IsList l items) (hx : items[i]? = none)
    (hQ : ∀ h', (∀ b o, b ≠ it → s.heap.get? b = some o → h'.get? b = some o) → Q none { s with heap := h' }) : wpAny (model prog w) A (pyNext (.ref it)) Q E s := by
  obtain ⟨o, ho, hc, hd⟩ := id hit
  obtain ⟨ol, hol, _, nl, hdl⟩ := hl
  obtain ⟨hh, o1, vs1, h1, d1, c1⟩ := hot
  unfold pyNext
  refine wpAny_bind (wpAny_attempt (wpAny_callSpecial?_slot (name := Str.ofString "__next__") hit.typeIs slot_listiter_next
    (wpAny_call_entry slot_listiter_next hit.typeIs entry_listiter_next ?_ (args_listiter_next _))))
  show wpAny _ _ (field (.ref it) 0 >>= _) _ _ s
  refine wpAny_bind (wpAny_field ho hd (x := .ref l) rfl ?_)
  show wpAny _ _ (if (Value.ref l == Value.none) = true then _ else _) _ _ s
  rw [if_neg (show ¬ ((Value.ref l == Value.none) = true) from Bool.false_ne_true)]
  show wpAny _ _ (field (.ref it) 1 >>= _) _ _ s
  refine wpAny_bind (wpAny_field ho hd (x := .int i 0) rfl ?_)
  show wpAny _ _ (seqItems? (.ref l) >>= _) _ _ s
  refine wpAny_bind (wpAny_seqItems hol hdl ?_)
  simp only [Int.toNat_natCast, hx]
  refine wpAny_bind (wpAny_rule (wpAny_bind (wpAny_setField ho hd (by simp) ?_)))
  show wpAny _ _ (newExc (.type "StopIteration") [] >>= _) _ _ _
  refine wpAny_bind ?_
  simp only [newExc, newTuple]
  refine wpAny_bind (wpAny_newObj_type ?_ (by size_fits))
  refine wpAny_bind (m := firstArgMember _ _) (wpAny_of_eq (a := Value.none) (by first | rfl | (simp only [firstArgMember]; rfl)) ?_)
  refine wpAny_newObj_type ?_ (by size_fits)
  have up := fun (b : Addr) (u : Obj) (nb : b ≠ it) (e : s.heap.get? b = some u) => (Heap.get?_update_other s.heap (Obj.mapFields (·.setIfInBounds 0 Value.none)) (Ne.symm nb)).trans e
  refine raiseNew_hot ⟨hh, o1, vs1, Heap.get?_push_of_some _ (Heap.get?_push_of_some _ (up _ _ (Ne.symm hne) h1)), d1, c1⟩ (Nat.ne_of_lt (Heap.lt_size (Heap.get?_push_of_some _ (up _ _ (Ne.symm hne) h1)))) (Heap.get?_push_size _ rfl) rfl (by first | (simp; done) | (simp; omega) | (simp only [Array.size_append]; simp; omega)) ?_
  refine wpAny_bind (wpAny_isInstance (T := "StopIteration") (b := true) ⟨_, Heap.get?_update_self _ (Heap.get?_push_size _ rfl) rfl, rfl⟩ isSubtype_stop ?_)
  refine wpAny_pure (hQ _ fun b o nb e => ?_)
  have e' := up b o nb e
  rw [Heap.get?_update_other _ _ (Nat.ne_of_gt (Heap.lt_size (Heap.get?_push_of_some _ e')))]
  exact Heap.get?_push_of_some _ (Heap.get?_push_of_some _ e')
/-- a walk over a list where x1 is handled -/
theorem walks_listH {A : Around} {x1 : Addr} (hh : A.handled = some (.ref x1)) (I ax : Addr) (hne : ax ≠ I) (hx : I ≠ x1) (items : Array Value) :
    Walks prog w A I [I, ax, x1] [I] items.size (fun i v => items[i]? = some v) (fun i h => h.IsListIter I ax i ∧ h.IsList ax items ∧ ∃ (o : Obj) (vs : Array Value), h.get? x1 = some o ∧ o.data = .fields vs ∧ vs[2]? = some .none) where
  sub := fun b hb => by simp at hb; simp [hb]
  frame := fun _ _ _ st hk => by
    obtain ⟨o, vs, h1, h2, h3⟩ := st.2.2
    exact ⟨st.1.at fun o e => hk I (by simp) o e, st.2.1.at fun o e => hk ax (by simp) o e, o, vs, hk x1 (by simp) o h1, h2, h3⟩
  item := fun i s Q E hi st hQ => by
    refine wpAny_pyNext_list_item st.1 st.2.1 (x := items[i]) (by simp [hi]) fun h' hit' hs' => ?_
    obtain ⟨o, vs, h1, h2, h3⟩ := st.2.2
    exact hQ _ h' s.toks (by simp [hi]) ⟨hit', st.2.1.extBut hs'.extBut hne, o, vs, hs'.extBut x1 o (Ne.symm hx) h1, h2, h3⟩ fun b o hb e => hs'.extBut b o (fun h => hb (by simp [h])) e
  done := fun s Q E st hQ => pyNext_list_end_hot ⟨hh, st.2.2⟩ hx st.1 st.2.1 (by simp) fun h' he' => hQ h' s.toks fun b o hb e => he' b o (fun h => hb (by simp [h])) e
  self := fun _ _ _ _ st hQ => wpAny_pyIter_listiter st.1 hQ
theorem sum_rawH {l x1 : Addr} {its : List Value} {ns : List Int} {Q : Value → Shared → Prop} (hot : HotAt A x1 s.heap) (hl : s.heap.IsList l its.toArray) (hi : IntsAre its ns)
    (h : ∀ h' tk t', (∀ b o, s.heap.get? b = some o → h'.get? b = some o) → Q (.int ns.sum t') { s with heap := h', toks := tk }) : wpAny (model prog w) A (call (.builtin "sum") [.ref l]) Q E s := by
  obtain ⟨xs, e⟩ := hi.allInts.items
  have hn : numsOf (intItems xs).toList = ns := by rw [← e]; exact hi.numsOf
  rw [nums_intItems] at hn
  rw [e] at hl
  obtain ⟨hh, o, vs, h1, h2, h3⟩ := hot
  refine call_sum_walkG (iter_intList hl fun s₂ e st hfp hlI => ?_)
  subst e
  have n1 : s.heap.objs.size ≠ x1 := Nat.ne_of_gt (Heap.lt_size h1)
  refine ⟨_, _, _, _, _, _, numAt xs, rfl, walks_listH (A := A.in1) hh _ l hlI n1 (intItems xs), ⟨st.1, st.2, o, vs, Heap.get?_push_of_some _ h1, h2, h3⟩, fun b hb => ?_, (fun _ _ => intItems_at), fun h' tk t' hk => ?_⟩
  · rcases List.mem_cons.mp hb with rfl | hb
    · exact hfp _ (by simp)
    · rcases List.mem_cons.mp hb with rfl | hb
      · exact hfp _ (by simp)
      · rw [List.mem_singleton.mp hb]
        exact Heap.lt_size (Heap.get?_push_of_some _ h1)
  · have := h h' tk t' (old_kept hk)
    rw [← hn, ← List.take_of_length_le (l := xs.toList.map (·.1)) (i := xs.size) (by simp), ← preSum_eq] at this
    simpa [intItems] using this
end
theorem turn_listH {P : Program} {w : World} {K : PySem.W.Frag} {tg : Expr} (a it : Addr) : TurnH P w K tg (Itl K a) [it] it (fun i h => h.IsListIter it a i) where
  mem := by simp
  obj := fun i h st b hb => by
    have e : b = it := by simpa using hb
    subst e
    obtain ⟨o, e, c, d⟩ := st
    exact ⟨o, e, fun v z => by rw [d] at z; cases z⟩
  keep := fun i h h' st k => st.at fun o e => k it (by simp) o e
  item := by
    intro X hP hw hK hc i pins s σ H E I hf st hg
    subst hP hw hK
    obtain ⟨xs, x, hq, hx⟩ := hg
    obtain ⟨its, rv, p, hz⟩ := I.list hq
    obtain ⟨u, hu, ru⟩ := rv.get hx
    obtain ⟨f0, f1, f2, f3, f4, f5⟩ := hf it (by simp)
    refine wpAny_pyNext_list_item st p.isList (x := u) (by simpa using hu) fun h' st' sb => ?_
    have I1 : Inv X pins σ H { s with heap := h' } := I.turned (t' := s.toks) (fun b o hb e => (sb.2 b hb).trans e) f0 f1 f3 f4 f5
    obtain ⟨o, e, c, d⟩ := id st'
    exact ⟨u, rfl, go_of (s := { s with heap := h' }) e c d (by decide) ⟨x, H, I1, ru, ⟨rfl, fun ys hy => by rw [I.list_inj hy hq]; exact hx⟩, st', fun b hb => (hf b hb).1⟩⟩
  done := by
    intro X hP hw hK hc i pins s σ H E I hf st hg
    subst hP hw hK
    obtain ⟨xs, hq, hx⟩ := hg
    obtain ⟨its, rv, p, hz⟩ := I.list hq
    obtain ⟨f0, f1, f2, f3, f4, f5⟩ := hf it (by simp)
    have hl := rv.length
    obtain ⟨q, ⟨hh, v1, e1, c1⟩, hp⟩ := hc
    exact pyNext_list_end_hot ⟨hh, q.2, v1, (I.pin q (List.mem_append_left _ hp)).1, e1, c1⟩ (Ne.symm (f5 q (List.mem_append_left _ hp))) st p.isList (by simp; omega) fun h' eb => ⟨rfl, I.turned (t' := s.toks) (fun b o hb e => eb b o hb e) f0 f1 f3 f4 f5⟩
  self := fun _ _ _ _ _ st h => wpAny_pyIter_listiter st h
section
variable {X : Cx} {K : PySem.W.Frag} {tg : Expr}
theorem pi_listH {l : Expr} {tl : TE} (ek : X.K = K) (hl : PE X l tl) : PIH X tg l (iList K tl) := by
  subst ek
  refine ⟨fun pins s σ H R I h => ?_⟩
  refine thn (hl.run pins s σ H _ I h) fun v s1 ⟨x, H1, I1, r1, q1⟩ => ?_
  obtain ⟨a, e, ⟨xs, hq⟩, q⟩ := q1
  subst e
  cases r1
  obtain ⟨its, rv, p, hz⟩ := I1.list hq
  refine wpAny_pyIter_list p.isList ?_
  refine ⟨s1.heap.objs.size, [s1.heap.objs.size], _, _, H1, rfl, I1.kept (t' := s1.toks) fun b o e => Heap.get?_push_of_some _ e, turn_listH a _, ⟨_, Heap.get?_push_size _ rfl, rfl, rfl⟩, fun b hb => ?_, q⟩
  have e : b = s1.heap.objs.size := by simpa using hb
  subst e
  exact I1.fpOk (Nat.le_refl _) (I1.hok.fresh (Nat.le_refl _))
theorem n_sumH (e : X.K = K) (hc : HotC X) : CallR X (.builtin "sum") (rSum K) := by
  subst e
  intro pins s σ H vs us Q I r h
  obtain ⟨a, ns, rfl, hs, q⟩ := h
  obtain ⟨its, rv, hl, _⟩ := I.list hs
  rw [Vals.ref1 r]
  obtain ⟨x1, hot⟩ := hc.at I
  exact sum_rawH hot hl.isList rv.ints fun h' tk t' hk => ⟨.int _, H, I.kept hk, ⟨_, rfl⟩, q⟩
end
/-- a def, a method, as they may be called there -/
structure CalH (P : Program) (w : World) (K : PySem.W.Frag) (mg : Str → Option Value) (base : Heap) (k : Nat) (x : Str) (sp : Sp) : Prop where
  ex : ∃ (f : Addr) (fd : FuncData) (ps : List Str), FnH P w K mg base CX0 k f fd ps sp ∧ mg x = some (.ref f) ∧ PySem.W.keepIn K (.ref f) = true ∧ Binds K fd ps []
structure MetH (P : Program) (w : World) (K : PySem.W.Frag) (mg : Str → Option Value) (base : Heap) (k : Nat) (C : Addr) (m : Str) (sp : Sp) : Prop where
  ex : ∃ (f : Addr) (fd : FuncData) (ps : List Str), Cls K C ∧ Meth K C m f ∧ FnH P w K mg base CX0 k f fd ps sp ∧ Binds K fd ps []
theorem CalH.imp {P : Program} {w : World} {K : PySem.W.Frag} {mg : Str → Option Value} {base : Heap} {k : Nat} {x : Str} {sp sp' : Sp} (c : CalH P w K mg base k x sp) (h : ∀ vs H Q E, sp' vs H Q E → sp vs H Q E) : CalH P w K mg base k x sp' := by
  obtain ⟨f, fd, ps, F, a, b, d⟩ := c.ex
  exact ⟨f, fd, ps, ⟨fun vs H Q E q => F.len vs H Q E (h _ _ _ _ q), fun A outer s H args us vs Q E p hr ht hp e0 hb r q => F.run A outer s H args us vs Q E p hr ht hp e0 hb r (h _ _ _ _ q)⟩, a, b, d⟩
section
variable {X : Cx} {k j : Nat} {C : Addr} {x m : Str} {sp : Sp} {p pos apos : Pos} {e o : Expr} {es : List Expr} {ta : TE} {t : TA}
theorem passH {σ : L2.St} : L2.PassesAt CX0 X σ C8.E0 := fun _ _ _ _ _ _ h => h.elim
theorem pe_cH (c : CalH X.prog X.w X.K X.mg X.base k x sp) (hr : RoomH j X.A) (hk : k ≤ j) (hc : HotC X) (hg : Gl X x) (ha : PA X (e :: es) t)
    (hdb : (x == ("__debug__" : Str)) = false := by decide) (he : starEach (e :: es) X.env = (false, eval e X.env) :: starEach es X.env := by rfl) (hpl : (backTo pos (starEach es X.env)).any (·.1) = false := by rfl) :
    PE X (.Call (.Name x p) (e :: es) [] pos) (tCall sp [] C8.E0 t) := by
  obtain ⟨f, fd, ps, F, hm, kp, b⟩ := c.ex
  have E1 := L2H.pe_callH (q := p) (E := fun _ => C8.E0) F (hr.mono hk) hc hg hm kp b (fun _ => passH) ha hdb he hpl
  have e0 : tCallS sp (fun _ => C8.E0) t = tCall sp [] C8.E0 t := by
    funext σ H Q
    show (t σ H fun vs H1 => sp vs H1 Q C8.E0) = t σ H fun vs H1 => sp (vs ++ []) H1 Q C8.E0
    congr 1
    funext vs H1
    rw [List.append_nil]
  rw [← e0]
  exact E1
theorem tMeth_H : L2H.tMethH C m sp (fun _ => C8.E0) ta t = tMeth C m sp [] C8.E0 ta t := by
  funext σ H Q
  show (ta σ H fun x H1 => ∃ a dx fs, x = .ref a ∧ H1 a = some (.ins C dx fs) ∧ fs.lookup m = none ∧ t σ H1 fun vs H2 => sp (x :: vs) H2 Q C8.E0) = ta σ H fun x H1 => ∃ a dx fs, x = .ref a ∧ H1 a = some (.ins C dx fs) ∧ fs.lookup m = none ∧ t σ H1 fun vs H2 => sp (x :: (vs ++ [])) H2 Q C8.E0
  congr 1
  funext x H1
  congr 1
  funext a
  congr 1
  funext dx
  congr 1
  funext fs
  congr 1
  congr 1
  congr 1
  congr 1
  funext vs H2
  rw [List.append_nil]
theorem pe_mtH {pl : Sem Bool} (c : MetH X.prog X.w X.K X.mg X.base k C m sp) (hr : RoomH j X.A) (hk : k ≤ j) (hc : HotC X) (he : PE X o ta) (ha : PA X (e :: es) t)
    (hst : starEach (e :: es) X.env = (false, eval e X.env) :: starEach es X.env := by rfl) (hpl : (backTo pos (starEach es X.env)).any (·.1) = false := by rfl)
    (ht : eval (.Call (.Attribute o m apos) (e :: es) [] pos) X.env = (do
      let ov ← eval o X.env
      standAt apos.atName
      let (f, first) ← holding [ov] (getMethod ov m pl)
      callWith pos f first (backTo pos (starEach (e :: es) X.env)) (backToKw pos (keywordEach [] X.env))) := by rfl) :
    PE X (.Call (.Attribute o m apos) (e :: es) [] pos) (tMeth C m sp [] C8.E0 ta t) := by
  obtain ⟨f, fd, ps, hC, hm, F, hb⟩ := c.ex
  rw [← tMeth_H]
  exact L2H.pe_methH (pl := pl) (E := fun _ => C8.E0) he hC hm F (hr.mono hk) hc hb (fun _ => passH) ha hst hpl ht
theorem pe_mtH0 {pl : Sem Bool} (c : MetH X.prog X.w X.K X.mg X.base k C m sp) (hr : RoomH j X.A) (hk : k ≤ j) (hc : HotC X) (he : PE X o ta)
    (ht : eval (.Call (.Attribute o m apos) [] [] pos) X.env = (do
      let ov ← eval o X.env
      standAt apos.atName
      let (f, first) ← holding [ov] (getMethod ov m pl)
      callWith pos f first (backTo pos (starEach [] X.env)) (backToKw pos (keywordEach [] X.env))) := by rfl) :
    PE X (.Call (.Attribute o m apos) [] [] pos) (tMeth C m sp [] C8.E0 ta tNil) := by
  obtain ⟨f, fd, ps, hC, hm, F, hb⟩ := c.ex
  rw [← tMeth_H]
  refine ⟨fun pins s σ H Q I h => ?_⟩
  refine PySem.W.methodCall_KW (pl := pl) (thn (he.run pins s σ H _ I h) fun u s1 ⟨x, H1, I1, rx, a, dx, fs, ex, ea, l, q⟩ => ?_) ht
  subst ex
  obtain rfl : u = Value.ref a := rx
  refine getmeth_ok I1 ea hC hm l ?_
  exact PySem.W.callWith_K0 (first := [.ref a]) I1.kIn hm.kp (run_fnH (E := fun _ => C8.E0) (σ := σ) (us := [.ref a]) (vs := [.ref a]) F (hr.mono hk) hc hb passH I1 (.cons rfl .nil) (show sp [V.ref a] H1 Q C8.E0 from q))
end
theorem _root_.L2H.RoomH.units {k : Nat} {A : Around} (r : RoomH k A) : A.units + 64 < cLine := by have := r.un; omega
theorem roomH_mark {k : Nat} {A : Around} {h : Option Value} (r : Room k A) : RoomH k (A.mark h) := ⟨r.dp, r.un⟩
section
variable {P : Program} {w : World} {K : PySem.W.Frag} {mg : Str → Option Value} {base : Heap}
/-- a def's promise there, by its body -/
theorem _root_.L2.Fun.okH {x qual : Str} {st : Stmt} {f : Addr} {fd : FuncData} {N ps : List Str} {k : Nat} {sp : Sp} (F : Fun K x qual st f fd) (S : FnScope N ps (defScope st)) (len : ∀ vs H Q E, sp vs H Q E → vs.length = ps.length)
    (hbody : ∀ (cdv : Value) (A : Around) (outer : List Env) (s : Shared) (H : Hp) (vs : List V) (Q : VK) (E : XK) (p : Addr × Obj), HotC (cxH CX0 P w K mg base N qual (defScope st) f cdv A outer s H E p) → RoomH k (A.deeper (envOfC qual (defScope st) s.heap.objs.size f cdv)) → sp vs H Q E →
      ∃ t, PSs (cxH CX0 P w K mg base N qual (defScope st) f cdv A outer s H E p) (defBody st) t ∧ t { nx := fun _ H' => Q .non H', rt := Q } (start N vs) H) : FnH P w K mg base CX0 (k + 1) f fd ps sp := by
  obtain ⟨oc, od, kV, doc, pm, an, cdv, ct, osl, rfl, lk, hcd⟩ := F.ex
  exact fn_ofH lk hcd S len fun A outer s H vs Q E p hot hr hsp => hbody cdv A outer s H vs Q E p ⟨p, hot, List.mem_cons_self⟩ hr hsp
/-- as Fun.ok, for a def that may raise exceptions whose context is None -/
theorem _root_.L2.Fun.okN {x qual : Str} {st : Stmt} {f : Addr} {fd : FuncData} {N ps : List Str} {k : Nat} {sp : Sp} (F : Fun K x qual st f fd) (S : FnScope N ps (defScope st)) (len : ∀ vs H Q E, sp vs H Q E → vs.length = ps.length)
    (hbody : ∀ (cdv : Value) (A : Around) (outer : List Env) (s : Shared) (H : Hp) (vs : List V) (Q : VK) (E : XK), Room k (A.deeper (envOfC qual (defScope st) s.heap.objs.size f cdv)) → sp vs H Q E →
      ∃ t, PSs (cxOf (L2N.CX P w) P w K mg base N qual (defScope st) f cdv A outer s H E) (defBody st) t ∧ t { nx := fun _ H' => Q .non H', rt := Q } (start N vs) H) : FnOk P w K mg base (L2N.CX P w) (k + 1) f fd ps sp := by
  obtain ⟨oc, od, kV, doc, pm, an, cdv, ct, osl, rfl, lk, hcd⟩ := F.ex
  exact fn_of lk hcd S len fun A outer s H vs Q E hr hsp => hbody cdv A outer s H vs Q E hr hsp
end
/-! ### exceptions whose context is None -/
/-- a method that may raise such -/
structure MetN (P : Program) (w : World) (K : PySem.W.Frag) (mg : Str → Option Value) (base : Heap) (k : Nat) (C : Addr) (m : Str) (sp : Sp) : Prop where
  ex : ∃ (f : Addr) (fd : FuncData) (ps : List Str), Cls K C ∧ Meth K C m f ∧ FnOk P w K mg base (L2N.CX P w) k f fd ps sp ∧ Binds K fd ps []
theorem passLN {X : Cx} : Passes (L2N.CX X.prog X.w) X C8.E0 := fun _ _ _ _ _ _ _ h => by
  obtain ⟨_, _, _, _, _, _, _, _, _, _, _, _, z⟩ := h
  exact z.elim
section
variable {X : Cx} {k j : Nat} {C : Addr} {x m : Str} {sp : Sp} {W : WX} {p pos apos : Pos} {e o : Expr} {es : List Expr} {ta : TE} {t : TA}
theorem pe_mtN {pl : Sem Bool} (c : MetN X.prog X.w X.K X.mg X.base k C m sp) (hr : Room j X.A) (hk : k ≤ j) (tk : L2N.Takes X W) (he : PE X o ta) (ha : PA X (e :: es) t)
    (hst : starEach (e :: es) X.env = (false, eval e X.env) :: starEach es X.env := by rfl) (hpl : (backTo pos (starEach es X.env)).any (·.1) = false := by rfl)
    (ht : eval (.Call (.Attribute o m apos) (e :: es) [] pos) X.env = (do
      let ov ← eval o X.env
      standAt apos.atName
      let (f, first) ← holding [ov] (getMethod ov m pl)
      callWith pos f first (backTo pos (starEach (e :: es) X.env)) (backToKw pos (keywordEach [] X.env))) := by rfl) :
    PE X (.Call (.Attribute o m apos) (e :: es) [] pos) (tMethX C m sp W ta t) := by
  obtain ⟨f, fd, ps, hc, hm, F, hb⟩ := c.ex
  refine ⟨fun pins s σ H Q I h => ?_⟩
  refine PySem.W.methodCall_KW (pl := pl) (thn (he.run pins s σ H _ I h) fun u s1 ⟨x, H1, I1, rx, a, dx, fs, ex, ea, l, q⟩ => ?_) ht
  subst ex
  obtain rfl : u = Value.ref a := rx
  refine getmeth_ok I1 ea hc hm l ?_
  refine PySem.W.callWith_K (first := [.ref a]) (h₀ := X.base) I.ok.mod.kin hm.kp (thn (ha.run pos pins s1 σ H1 _ I1 q) fun us s2 ⟨vs, H2, I2, r, q2⟩ => ⟨I2.kIn, ?_⟩) hst hpl
  exact run_fnS (E := WE W) (us := .ref a :: us) (vs := .ref a :: vs) F (hr.mono hk) hb (L2N.passAt tk σ) I2 (.cons rfl r) q2
theorem pe_mtN0 {pl : Sem Bool} (c : MetN X.prog X.w X.K X.mg X.base k C m sp) (hr : Room j X.A) (hk : k ≤ j) (tk : L2N.Takes X W) (he : PE X o ta)
    (ht : eval (.Call (.Attribute o m apos) [] [] pos) X.env = (do
      let ov ← eval o X.env
      standAt apos.atName
      let (f, first) ← holding [ov] (getMethod ov m pl)
      callWith pos f first (backTo pos (starEach [] X.env)) (backToKw pos (keywordEach [] X.env))) := by rfl) :
    PE X (.Call (.Attribute o m apos) [] [] pos) (tMethX C m sp W ta tNil) := by
  obtain ⟨f, fd, ps, hc, hm, F, hb⟩ := c.ex
  refine ⟨fun pins s σ H Q I h => ?_⟩
  refine PySem.W.methodCall_KW (pl := pl) (thn (he.run pins s σ H _ I h) fun u s1 ⟨x, H1, I1, rx, a, dx, fs, ex, ea, l, q⟩ => ?_) ht
  subst ex
  obtain rfl : u = Value.ref a := rx
  refine getmeth_ok I1 ea hc hm l ?_
  exact PySem.W.callWith_K0 (first := [.ref a]) I1.kIn hm.kp (run_fnS (E := WE W) (us := [.ref a]) (vs := [.ref a]) F (hr.mono hk) hb (L2N.passAt tk σ) I1 (.cons rfl .nil) q)
/-- .. called where it lets nothing out -/
theorem pe_mtM {pl : Sem Bool} (c : MetN X.prog X.w X.K X.mg X.base k C m sp) (hr : Room j X.A) (hk : k ≤ j) (he : PE X o ta) (ha : PA X (e :: es) t)
    (hst : starEach (e :: es) X.env = (false, eval e X.env) :: starEach es X.env := by rfl) (hpl : (backTo pos (starEach es X.env)).any (·.1) = false := by rfl)
    (ht : eval (.Call (.Attribute o m apos) (e :: es) [] pos) X.env = (do
      let ov ← eval o X.env
      standAt apos.atName
      let (f, first) ← holding [ov] (getMethod ov m pl)
      callWith pos f first (backTo pos (starEach (e :: es) X.env)) (backToKw pos (keywordEach [] X.env))) := by rfl) :
    PE X (.Call (.Attribute o m apos) (e :: es) [] pos) (tMeth C m sp [] C8.E0 ta t) := by
  obtain ⟨f, fd, ps, hc, hm, F, hb⟩ := c.ex
  exact pe_meth (pl := pl) he hc hm F (hr.mono hk) hb .nil passLN ha hst hpl ht
theorem pe_mtM0 {pl : Sem Bool} (c : MetN X.prog X.w X.K X.mg X.base k C m sp) (hr : Room j X.A) (hk : k ≤ j) (he : PE X o ta)
    (ht : eval (.Call (.Attribute o m apos) [] [] pos) X.env = (do
      let ov ← eval o X.env
      standAt apos.atName
      let (f, first) ← holding [ov] (getMethod ov m pl)
      callWith pos f first (backTo pos (starEach [] X.env)) (backToKw pos (keywordEach [] X.env))) := by rfl) :
    PE X (.Call (.Attribute o m apos) [] [] pos) (tMeth C m sp [] C8.E0 ta tNil) := by
  obtain ⟨f, fd, ps, hc, hm, F, hb⟩ := c.ex
  exact pe_meth0 (pl := pl) he hc hm F (hr.mono hk) hb .nil passLN ht
end
section
variable {X : Cx} {K : PySem.W.Frag} {x : Str} {body suite : List Stmt} {b₀ : Stmt} {np pos pos' : Pos} {tb : WX → TS} {ts : Addr → Value → Option Addr → TS} {C : Addr}
/-- try: .. except X: a suite that calls -/
theorem ps_tryN (eK : X.K = K) (hs : X.stack = X.env :: X.outer) (hf : X.env.frame = some X.env.locals) (hpa : ∀ hd : Option Value, PassesOwnAt (model X.prog X.w) (X.A.mark hd) X.A X.env X.xe) (hg : Gl X x) (hd : (x == ("__debug__" : Str)) = false) (T : ExcF K X.mg x C)
    (hb : ∀ (W : WX) (pn : List (Addr × Obj)) (xe : Value → Shared → Prop), L2N.Takes (X.tr pn xe) W → PassesOwn (model X.prog X.w) X.A X.env xe → PSs (X.tr pn xe) body (tb W))
    (hsu : ∀ (a : Addr) (oe : Obj) (cls : Value) (d : Option Addr) (pn : List (Addr × Obj)), HotC (L2H.suiteX X a ((a, oe) :: pn)) → PSs (L2H.suiteX X a ((a, oe) :: pn)) (b₀ :: suite) (ts a cls d)) :
    PS X (.Try body [.ExceptHandler (some (.Name x np)) none (b₀ :: suite) pos'] [] [] pos) (tTry K (.ref C) ts tb) := by
  subst eK
  exact L2H.ps_try_onlyX hs hf ⟨hg, hd, .inl T.gP⟩ hpa takes0 (fun W pn xe tk _ po => hb W pn xe tk po) fun a oe cls d pn _ _ _ hot => hsu a oe cls d pn hot
theorem ps_raiseN {mm : Str} {j : Nat} {p p2 pos2 : Pos} {W : WX} (hc : X.calm = true) (tk : L2N.Takes X W) (T : ExcF X.K X.mg x C) (hg : Gl X x) (hd : (x == ("__debug__" : Str)) = false) :
    PS X (.Raise (some (.Call (.Name x p) [.Constant (.str mm) j p2] [] pos)) none pos2) (tRaise C W) :=
  L2N.ps_raise hc tk (L2N.pmk_own PySem.F.excBase_ValueError T.xP T.gP T.kP (raises_own T.bP T.tP) hg hd)
end
end Np

set_option Elab.async false
set_option linter.all false
set_option maxRecDepth 100000
set_option maxHeartbeats 4000000
/-! Undone: a stream's states, and what is kept of them (law_k12). -/
namespace Np
open PySem PySem.Spec PyProof.Rows L2
open Evl (Ex)
section
variable {cs : List Int} {base grain s : Int} {st : Int × List Int}
theorem streamed_back (o : StOk cs base grain st) (sg : Sign cs s) : offS (streamed cs base grain st s).1 cs = s ∧ flowed cs base grain (streamed cs base grain st s) = some st := by
  obtain ⟨e1, e2⟩ := off_put (p := (flowOut (grain * base * cnt cs s) base st.1 st.2).1) o.g sg
  refine ⟨e1, ?_⟩
  have c1 := sg.cp
  have g0 := o.g0
  have b0 := o.b0
  have s1 := o.sum1
  have gb : 1 * 1 ≤ grain * base := Int.mul_le_mul g0 (by omega) (by decide) (by omega)
  have l1 : 1 * 1 ≤ grain * base * cnt cs s := Int.mul_le_mul (by omega) (by omega) (by decide) (by omega)
  have fb := flow_back (low := grain * cs.sum) (lim := grain * base * cnt cs s) (base := base) (n := st.1) (w := st.2) b0 (by omega) o.lo o.hi (by have := o.lo; omega)
  unfold flowed
  show flowIn (grain * cs.sum) base (offP (put _ cs s) cs) _ = _
  rw [e2]
  exact fb
/-- the states on the way -/
def wsAt (cs : List Int) (base grain : Int) (row : List Int) (i : Nat) : Int × List Int := (row.take i).foldl (streamed cs base grain) (grain * cs.sum, [])
theorem wsAt_zero (row : List Int) : wsAt cs base grain row 0 = (grain * cs.sum, []) := rfl
theorem wsAt_succ {row : List Int} {i : Nat} (e : row[i]? = some s) : wsAt cs base grain row (i + 1) = streamed cs base grain (wsAt cs base grain row i) s := by
  obtain ⟨h, e⟩ := List.getElem?_eq_some_iff.mp e
  unfold wsAt
  rw [List.take_succ_eq_append_getElem h, e, List.foldl_append]
  rfl
theorem st0_ok (g : Good cs) (b0 : 2 ≤ base) (b1 : base ≤ 1000) (g0 : 1 ≤ grain) (g1 : grain ≤ 100) : StOk cs base grain (grain * cs.sum, []) := by
  have gs : 1 * 1 ≤ grain * cs.sum := Int.mul_le_mul g0 g.sum (by decide) (by omega)
  have gt : grain * cs.sum * 2 ≤ grain * cs.sum * base := Int.mul_le_mul_of_nonneg_left b0 (by omega)
  exact ⟨g, b0, b1, g0, g1, Int.le_refl _, by show grain * cs.sum < _; omega, fun x hx => by cases hx⟩
theorem wsAt_ok {row : List Int} (o : StOk cs base grain (grain * cs.sum, [])) (hr : ∀ s ∈ row, Sign cs s) : ∀ i, i ≤ row.length → StOk cs base grain (wsAt cs base grain row i) ∧ (wsAt cs base grain row i).2.length ≤ 40 * i
  | 0, _ => ⟨o, Nat.le_refl _⟩
  | i + 1, h => by
    have e : row[i]? = some row[i] := List.getElem?_eq_getElem (by omega)
    obtain ⟨h1, h2⟩ := wsAt_ok o hr i (by omega)
    rw [wsAt_succ e]
    have sg := hr _ (List.getElem_mem (show i < row.length by omega))
    exact ⟨h1.lay sg, Nat.le_trans (h1.grown sg) (by omega)⟩
/-! at low, with no word -/
theorem held_nodup (cs : List Int) : (held cs).Nodup := by
  unfold held
  exact List.pairwise_map.mpr ((List.nodup_range.filter _).imp fun {a b} ne e => ne (by omega))
theorem two_signs (g : Good cs) {t : Int} (x : Sign cs s) (y : Sign cs t) (h : s ≠ t) : cnt cs s < cs.sum := by
  have go : ∀ {a b : Int}, Sign cs a → Sign cs b → a < b → cnt cs a + cnt cs b ≤ cs.sum := fun {a b} x y h => by
    have h1 := first_top g y.nn y.lt
    have h2 := sum_mono g.nn (i := a.toNat + 1) (j := b.toNat) (by have := x.nn; omega)
    rw [sum_take1 (cnt_at x.nn x.lt)] at h2
    have h3 := sum_nn (take_nn g.nn a.toNat)
    unfold first at h1
    omega
  have := x.cp
  have := y.cp
  rcases Int.lt_or_lt_of_ne h with h | h
  · have := go x y h
    omega
  · have := go y x h
    omega
theorem low_off (g : Good cs) (g0 : 1 ≤ grain) : offP (grain * cs.sum) cs = grain * cnt cs (offS (grain * cs.sum) cs) ∧ first cs (offS (grain * cs.sum) cs) = 0 ∧ Sign cs (offS (grain * cs.sum) cs) := by
  have sp := g.sum
  obtain ⟨x, f1, f2⟩ := off_sign g (grain * cs.sum)
  rw [Int.mul_emod_left] at f1 f2
  have f0 := first_nn g (offS (grain * cs.sum) cs)
  refine ⟨?_, by omega, x⟩
  unfold offP
  rw [Int.mul_emod_left, Int.mul_ediv_cancel _ (by omega)]
  omega
theorem low_one (g : Good cs) (g0 : 1 ≤ grain) (h : (held cs).length = 1) : cnt cs (offS (grain * cs.sum) cs) = cs.sum := by
  obtain ⟨_, f0, x⟩ := low_off g g0
  obtain ⟨y, h1, h2⟩ := off_sign g (cs.sum - 1)
  have sp := g.sum
  have e : offS (cs.sum - 1) cs = offS (grain * cs.sum) cs := by
    have m1 := mem_held.mpr y
    have m2 := mem_held.mpr x
    obtain ⟨z, hz⟩ := List.length_eq_one_iff.mp h
    rw [hz] at m1 m2
    rw [List.mem_singleton.mp m1, List.mem_singleton.mp m2]
  rw [e, Int.emod_eq_of_lt (by omega) (by omega)] at h2
  have := first_top g x.nn x.lt
  omega
theorem low_more (g : Good cs) (h : cnt cs s = cs.sum) (x : Sign cs s) : (held cs).length = 1 := by
  have hp := held_pos g
  refine Classical.byContradiction fun hn => ?_
  have h0 : 0 < (held cs).length := by omega
  have h1 : 1 < (held cs).length := by omega
  have nd := held_nodup cs
  have ne : (held cs)[0] ≠ (held cs)[1] := fun e => by
    have := (List.getElem_inj nd).mp e
    omega
  have y0 := mem_held.mp (List.getElem_mem h0)
  have y1 := mem_held.mp (List.getElem_mem h1)
  by_cases e : s = (held cs)[0]
  · have := two_signs g x y1 (by rw [e]; exact ne)
    omega
  · have := two_signs g x y0 e
    omega
theorem low_none (g : Good cs) (g0 : 1 ≤ grain) (h : ¬ cnt cs (offS (grain * cs.sum) cs) = cs.sum) : flowed cs base grain (grain * cs.sum, []) = none := by
  obtain ⟨e, _, x⟩ := low_off g g0
  have ct := first_top g x.nn x.lt
  have fn := first_nn g (offS (grain * cs.sum) cs)
  have lt : grain * cnt cs (offS (grain * cs.sum) cs) < grain * cs.sum := Int.mul_lt_mul_of_pos_left (by omega) (by omega)
  unfold flowed
  rw [e]
  exact flowIn_none lt
theorem low_some (g : Good cs) (g0 : 1 ≤ grain) (h : cnt cs (offS (grain * cs.sum) cs) = cs.sum) : flowed cs base grain (grain * cs.sum, []) = some (grain * cs.sum, []) := by
  obtain ⟨e, _, x⟩ := low_off g g0
  unfold flowed
  rw [e, h]
  exact flowIn_end (Int.le_refl _)
theorem low_again (o : StOk cs base grain (grain * cs.sum, [])) (h : cnt cs (offS (grain * cs.sum) cs) = cs.sum) : streamed cs base grain (grain * cs.sum, []) (offS (grain * cs.sum) cs) = (grain * cs.sum, []) := by
  have g0 := o.g0
  have b0 := o.b0
  have s1 := o.sum1
  obtain ⟨e, f0, x⟩ := low_off o.g g0
  have sp := o.g.sum
  have lt : grain * cs.sum < grain * base * cs.sum := by
    have e : grain * base * cs.sum = grain * cs.sum * base := by rw [Int.mul_assoc, Int.mul_comm base, ← Int.mul_assoc]
    have := Int.mul_le_mul_of_nonneg_left b0 (show 0 ≤ grain * cs.sum by omega)
    omega
  unfold streamed
  rw [h, flowOut_end lt]
  unfold put
  rw [h, f0, Int.mul_emod_left, Int.mul_ediv_cancel _ (by omega)]
  simp
end
/-! what is kept of the states -/
def PaAt (H : Hp) (pl : Addr) (qs : List (Addr × Addr)) (sts : List (Int × List Int)) : Prop := H pl = some (.lst (qs.map fun q => V.ref q.1)) ∧ qs.length = sts.length ∧
  ∀ (i : Nat) (q : Addr × Addr) (st : Int × List Int), qs[i]? = some q → sts[i]? = some st → H q.1 = some (.tup [.int st.1, .ref q.2]) ∧ H q.2 = some (.lst (iL st.2)) ∧ q.2 ≠ pl
section
variable {H H' : Hp} {pl : Addr} {qs : List (Addr × Addr)} {sts : List (Int × List Int)} {F : List Addr}
theorem PaAt.keep (h : PaAt H pl qs sts) (k : Keep F H H') (n : pl ∉ F) (m : ∀ b ∈ flat qs, b ∉ F) : PaAt H' pl qs sts :=
  ⟨k.at h.1 n, h.2.1, fun i q st a b => by
    have hq := List.mem_of_getElem? a
    obtain ⟨h1, h2, h3⟩ := h.2.2 i q st a b
    exact ⟨k.at h1 (m _ (mem_flat.mpr ⟨q, hq, .inl rfl⟩)), k.at h2 (m _ (mem_flat.mpr ⟨q, hq, .inr rfl⟩)), h3⟩⟩
theorem PaAt.up (h : PaAt H pl qs sts) (e : Ex H H') : PaAt H' pl qs sts := ⟨e _ _ h.1, h.2.1, fun i q st a b => by
    obtain ⟨h1, h2, h3⟩ := h.2.2 i q st a b
    exact ⟨e _ _ h1, e _ _ h2, h3⟩⟩
theorem PaAt.own (h : PaAt H pl qs sts) : ∀ b ∈ flat qs, ∃ o, H b = some o := fun b hb => by
  obtain ⟨q, hq, hb⟩ := mem_flat.mp hb
  obtain ⟨i, hi, e⟩ := List.getElem_of_mem hq
  have hs : i < sts.length := by rw [← h.2.1]; exact hi
  obtain ⟨h1, h2, _⟩ := h.2.2 i q _ (by rw [← e]; exact List.getElem?_eq_getElem hi) (List.getElem?_eq_getElem hs)
  rcases hb with rfl | rfl
  · exact ⟨_, h1⟩
  · exact ⟨_, h2⟩
theorem PaAt.get (h : PaAt H pl qs sts) {i : Nat} {st : Int × List Int} (e : sts[i]? = some st) : ∃ q, qs[i]? = some q ∧ atI (qs.map fun q => V.ref q.1) (i : Int) = some (V.ref q.1) ∧ H q.1 = some (.tup [.int st.1, .ref q.2]) ∧ H q.2 = some (.lst (iL st.2)) := by
  have hi : i < qs.length := by rw [h.2.1]; exact (List.getElem?_eq_some_iff.mp e).1
  have hx := List.getElem?_eq_getElem hi
  obtain ⟨h1, h2, _⟩ := h.2.2 i _ st hx e
  exact ⟨qs[i], hx, atI_nat (by rw [List.getElem?_map, hx]; rfl), h1, h2⟩
theorem PaAt.add (h : PaAt H pl qs sts) {t l : Addr} {st : Int × List Int} (ht : H t = some (.tup [.int st.1, .ref l])) (hl : H l = some (.lst (iL st.2))) (nl : l ≠ pl) (k : Keep [pl] H H') (h' : H' pl = some (.lst ((qs.map fun q => V.ref q.1) ++ [.ref t]))) :
    PaAt H' pl (qs ++ [(t, l)]) (sts ++ [st]) := by
  have nt : t ≠ pl := fun z => by rw [z, h.1] at ht; cases ht
  have hp := h.1
  refine ⟨by rw [h', List.map_append]; rfl, by rw [List.length_append, List.length_append, h.2.1]; rfl, fun i q u a b => ?_⟩
  rw [List.getElem?_append] at a b
  by_cases hi : i < qs.length
  · rw [if_pos hi] at a
    rw [if_pos (by rw [← h.2.1]; exact hi)] at b
    obtain ⟨h1, h2, h3⟩ := h.2.2 i q u a b
    have n1 : q.1 ≠ pl := fun z => by rw [z, hp] at h1; cases h1
    exact ⟨k.at h1 (by simp [n1]), k.at h2 (by simp [h3]), h3⟩
  · rw [if_neg hi] at a
    rw [if_neg (by rw [← h.2.1]; exact hi)] at b
    have e : i - qs.length = 0 := by
      have := (List.getElem?_eq_some_iff.mp a).1
      simp at this
      omega
    rw [e] at a
    rw [← h.2.1, e] at b
    cases a
    cases b
    exact ⟨k.at ht (by simp [nt]), k.at hl (by simp [nl]), nl⟩
theorem out_grow {F' O : List Addr} (h : ∀ b ∈ O, b ∉ F) (g : Grow F F' H) (o : ∀ b ∈ O, ∃ u, H b = some u) : ∀ b ∈ O, b ∉ F' := fun b hb => by
  obtain ⟨u, hu⟩ := o b hb
  exact g.out (h b hb) hu
end
end Np

namespace Pf
open PySem PySem.Spec PyProof.Rows L2 Np
open Evl (Ex)
open C8 (Cal Met Mak pe_c pe_mk pe_mt pe_mt0 pe_gc)
open L2H (FnH RoomH HotC)
-- "hp": a fact of the heap at hand out of older ones
local macro_rules | `(tactic| walk_at "hp") => `(tactic| first
  | assumption
  | exact upd_same
  | (apply sq; walk_at "hp1")
  | (apply sqt; walk_at "hp1")
  | (apply up_l; (· assumption); walk_at "hp")
  | (apply up_t; (· assumption); walk_at "hp")
  | walk_at "hp1")
local macro_rules | `(tactic| walk_at "hp1") => `(tactic| first
  | assumption
  | exact upd_same
  | (apply up_o; (· assumption); walk_at "hp1")
  | (apply dn_n; (· assumption); walk_at "hp1"))
-- "ar": a side fact of numbers
local macro_rules | `(tactic| walk_at "ar") => `(tactic| first
  | assumption
  | omega
  | (show CDiv _ _; exact ⟨by omega, by omega⟩)
  | (refine cmulR ?_ ?_ <;> omega)
  | (refine cmulL ?_ ?_ <;> omega)
  | (show CPow _ _; exact ⟨by decide, by decide, by decide⟩)
  | decide)
-- "st1": one step that needs no word; "st": as many as go
local macro_rules | `(tactic| walk_at "st1") => `(tactic| first
  | (with_reducible refine w_op ?_)
  | ((with_reducible apply w_var); · exact rfl)
  | (with_reducible refine w_c ?_)
  | (with_reducible refine w_I0 ?_)
  | ((with_reducible refine w_I ?_ ?_); · walk_at "ar")
  | (with_reducible refine w_seq ?_)
  | (with_reducible refine w_asg ?_)
  | (with_reducible refine w_cons ?_)
  | (with_reducible refine w_nil ?_)
  | (with_reducible refine w_call ?_)
  | (with_reducible refine w_cb ?_)
  | (with_reducible refine w_if ?_)
  | (with_reducible refine w_test ?_)
  | (with_reducible refine w_tB ?_)
  | (with_reducible refine w_kB ?_)
  | (with_reducible refine w_ret ?_)
  | (with_reducible refine w_iteT ?_)
  | (with_reducible refine w_iteF ?_)
  | (with_reducible refine w_iteNT ?_)
  | (with_reducible refine w_iteNF ?_)
  | (with_reducible refine w_drop ?_)
  | (with_reducible refine w_next ?_)
  | (with_reducible refine w_eqI ?_)
  | (with_reducible refine w_neI ?_)
  | (with_reducible refine w_and ?_)
  | (with_reducible refine w_or ?_)
  | (with_reducible refine w_not ?_)
  | (with_reducible refine w_andV ?_)
  | (with_reducible refine w_orV ?_)
  | (with_reducible refine w_notV ?_)
  | (with_reducible refine w_ifE ?_)
  | (with_reducible refine w_sl ?_)
  | (with_reducible refine w_part ?_)
  | (with_reducible refine w_kI ?_)
  | (with_reducible refine w_noPart ?_)
  | (with_reducible refine w_tup ?_)
  | (with_reducible refine w_lst ?_)
  | (with_reducible refine w_chain ?_)
  | (with_reducible refine w_un ?_)
  | (with_reducible refine w_U ?_)
  | (with_reducible refine w_isN ?_)
  | (with_reducible refine w_notN ?_)
  | (with_reducible refine w_eqS ?_)
  | (with_reducible refine w_neS ?_)
  | (with_reducible refine w_retN ?_)
  | ((with_reducible apply w_sum); · walk_at "hp")
  | ((with_reducible apply w_lenI); · walk_at "hp")
  | ((with_reducible apply w_len); · walk_at "hp")
  | ((with_reducible apply in_cell); (· walk_at "hp"); (· decide))
  | (with_reducible refine in_whole ?_)
  | ((with_reducible apply w_lenT); · walk_at "hp")
  | ((with_reducible apply w_ixT); (· walk_at "hp"); (· exact rfl))
  | (with_reducible refine w_gName ?_)
  | (with_reducible refine w_gSub ?_)
  | (with_reducible refine w_for ?_)
  | (with_reducible refine w_iList ?_)
  | ((with_reducible apply w_kItl); · walk_at "hp")
  | (with_reducible refine w_iR1 ?_)
  | ((with_reducible refine w_kIr1 ?_ ?_ ?_); (· omega); (· omega))
  | (with_reducible refine w_iR2 ?_)
  | ((with_reducible refine w_kIr2 ?_ ?_ ?_ ?_ ?_); (· omega); (· omega); (· omega); (· omega))
  | (with_reducible refine w_iRev ?_)
  | ((with_reducible apply w_kItv); · walk_at "hp")
  | (with_reducible refine w_lrg ?_)
  | (with_reducible refine w_iRv ?_)
  | ((with_reducible refine w_kRv ?_ ?_ ?_); (· omega); (· omega))
  | (with_reducible refine w_tYes ?_)
  | (with_reducible refine w_lc ?_)
  | (with_reducible refine w_bm ?_)
  | (with_reducible refine w_bm0 ?_)
  | ((with_reducible apply w_tyL); · walk_at "hp1")
  | (with_reducible refine w_isiII ?_)
  | (with_reducible refine w_isiIB ?_)
  | (with_reducible refine w_isiSS ?_)
  | ((with_reducible apply w_isiLL); · walk_at "hp1")
  | ((with_reducible apply w_isiUU); · walk_at "hp1")
  | ((with_reducible refine w_no ?_ ?_); · omega)
  | ((with_reducible refine w_yes ?_ ?_); · first | omega | exact rfl)
  | ((with_reducible refine w_noN ?_ ?_); · first | omega | exact rfl)
  | ((with_reducible refine w_yesN ?_ ?_); · omega))
local macro_rules | `(tactic| walk_at "st") => `(tactic| repeat walk_at "st1")
-- "both": the two ways of an open test
local macro_rules | `(tactic| walk_at "both") => `(tactic| first | (with_reducible refine w_both ?_ ?_) | (with_reducible refine w_bothN ?_ ?_))

-- "lk", "pf": a field read, a field stored
local macro_rules | `(tactic| walk_at "lk") => `(tactic| first
  | exact lookLearner_tally | exact lookLearner_step | exact lookLearner_many
  | exact lookPlain_fixed | exact lookPlain_many
  | exact lookFollower_at | exact lookFollower_learners | exact lookFollower_step | exact lookFollower_many
  | exact lookStream_number | exact lookStream_words | exact lookStream_shares | exact lookStream_base | exact lookStream_grain | exact lookStream_low
  | exact lookSlots_size | exact lookSlots_holders | exact lookSlots_places | exact lookSlots_numbers | exact lookSlots_shares
  | assumption)
local macro_rules | `(tactic| walk_at "no") => `(tactic| first
  | exact noLearner (by decide +kernel) | exact noPlain (by decide +kernel) | exact noFollower (by decide +kernel) | exact noStream (by decide +kernel) | exact noSlots (by decide +kernel) | assumption)
local macro_rules | `(tactic| walk_at "st1") => `(tactic| first
  | (with_reducible refine w_fld ?_)
  | (with_reducible refine w_setF ?_)
  | (with_reducible refine w_meth ?_)
  | (with_reducible refine w_make ?_)
  | ((with_reducible apply w_kFld); (· walk_at "hp1"); (· walk_at "lk"); (· assumption); (· assumption))
  | ((with_reducible apply w_kMeth); (· walk_at "hp1"); (· walk_at "no")))

-- exceptions
local macro_rules | `(tactic| walk_at "st1") => `(tactic| first
  | (with_reducible refine w_methX ?_)
  | ((with_reducible apply w_kMethX); (· walk_at "hp1"); (· walk_at "no"))
  | (with_reducible refine w_raise ?_)
  | (with_reducible refine w_try ?_))

def top (i : Nat) : Stmt := PySem.Challenge.pw_numberpile_k12_streams_undone.main.body.getD i (.Pass ⟨0, 0, 0, 0⟩)
abbrev s_ask_counts : Stmt := top 8
abbrev s_holder : Stmt := top 9
abbrev s_ask_sign : Stmt := top 11
abbrev s_put_on : Stmt := top 12
abbrev s_taken_off : Stmt := top 13
abbrev s_Stream_init : Stmt := inClass (top 15) 0
abbrev s_Stream_lay_sign : Stmt := inClass (top 15) 1
abbrev s_Stream_take_sign : Stmt := inClass (top 15) 2
abbrev s_Stream_told : Stmt := inClass (top 15) 3
abbrev s__law_cell_at : Stmt := top 17
abbrev s__law_whole : Stmt := top 18
abbrev s__law_draw : Stmt := top 19
abbrev s__law_counts : Stmt := top 20
abbrev s__law_held : Stmt := top 21
abbrev s__law_numbers : Stmt := top 22
abbrev s__law_tells : Stmt := top 23
abbrev s_law : Stmt := top 24
structure Txt (K : PySem.W.Frag) (mg : Str → Option Value) (Z : Zs) : Prop where
  b_bool : mg "bool" = none
  b_int : mg "int" = none
  b_isinstance : mg "isinstance" = none
  b_len : mg "len" = none
  b_list : mg "list" = none
  b_range : mg "range" = none
  b_reversed : mg "reversed" = none
  b_sum : mg "sum" = none
  b_tuple : mg "tuple" = none
  k_MOST_SIGNS : ∃ u, mg "MOST_SIGNS" = some u ∧ RelV (.int 100) u
  k_MOST_COUNT : ∃ u, mg "MOST_COUNT" = some u ∧ RelV (.int 999) u
  g_Stream : mg "Stream" = some (.ref Z.stream)
  is_Stream : IsF K Z.stream
  n_Stream_shares : NoAttr K Z.stream "shares"
  n_Stream_base : NoAttr K Z.stream "base"
  n_Stream_grain : NoAttr K Z.stream "grain"
  n_Stream_low : NoAttr K Z.stream "low"
  n_Stream_number : NoAttr K Z.stream "number"
  n_Stream_words : NoAttr K Z.stream "words"
  self_Stream : PySem.W.kitOne K (.ref Z.stream) (.ref Z.stream) = some true
  x_NoMore : ExcF K mg "NoMore" Z.nomore
section
variable {P : Program} {w : World} {K : PySem.W.Frag} {mg : Str → Option Value} {base : Heap} {Z : Zs}
theorem sc_ask_counts : FnScope ["counts", "count"] ["counts"] (defScope s_ask_counts) := ⟨rfl, rfl, rfl, by decide +kernel, rfl, by decide +kernel, by decide +kernel⟩
def sp_ask_counts (K : PySem.W.Frag) (_ : Zs) : Sp := fun vs H Q _ => ∃ (a : Addr) (ns : List Int), vs = [.ref a] ∧ SqL K H a (iL ns) ∧ Good ns ∧ Q .non H
theorem c_ask_counts {f : Addr} {fd : FuncData} (F : Fun K "ask_counts" "ask_counts" s_ask_counts f fd) (hm : mg "ask_counts" = some (.ref f)) (T : Txt K mg Z)   : Cal P w K mg base 1 "ask_counts" (sp_ask_counts K Z) [] := by
  refine cal_of F hm (F.binds (ps := ["counts"]) (fun _ _ _ _ _ _ us hl => match us, hl with | [_], _ => rfl)) sc_ask_counts (fun vs H Q E h => ?_) (fun cdv A outer s H vs Q E hr h => ?_)
  · obtain ⟨a, ns, rfl, hS, g, k⟩ := h
    rfl
  · obtain ⟨a, ns, rfl, hS, g, k⟩ := h
    refine ⟨_, (pss_cons (ps_if (PW.pt (pw_or (pt_cmpR op_lt (pe_callB (n_len (K := K) rfl) (by rfl) T.b_len (by decide +kernel) (pa_cons (pv 0) pa_nil)) pe_int (nomark _)) (pw_or1 (pt_cmpR op_gt (pe_callB (n_len (K := K) rfl) (by rfl) T.b_len (by decide +kernel) (pa_cons (pv 0) pa_nil)) (pe_gc rfl T.k_MOST_SIGNS) (nomark _))))) (pss_one ps_never) pss_nil)
      (pss_cons (ps_for PassesOwn.never rfl (n_pi (K := K) rfl (pv 0)) (pg_name (i := 1) sc_ask_counts.nd rfl (Or.inl rfl)) (pss_one (ps_if (PW.pt (pw_or (pt_cmpR op_lt (pv 1) pe_int (nomark _)) (pw_or1 (pt_cmpR op_gt (pv 1) (pe_gc rfl T.k_MOST_COUNT) (nomark _))))) (pss_one ps_never) pss_nil)))
      (pss_one (ps_if (pt_cmpR op_eq (pe_callB (n_sum (K := K) rfl rfl) (by rfl) T.b_sum (by decide +kernel) (pa_cons (pv 0) pa_nil)) pe_int (nomark _)) (pss_one ps_never) pss_nil)))), ?_⟩
    have g1 := g.pos
    have g2 := g.len
    have g3 := g.sum
    walk_at "st"
    refine w_loopI ns (fun i σ H' => H' = H ∧ ∃ v, σ = [some (.ref a), v]) ⟨rfl, _, rfl⟩ (fun i σ H' ⟨e, _⟩ => by rw [e]; exact hS) ?_ ?_
    · rintro i n σ H' hn hi ⟨rfl, v, rfl⟩
      have m0 := g.nn n (List.mem_of_getElem? hn)
      have m1 := g.le n (List.mem_of_getElem? hn)
      walk_at "st"
      exact ⟨rfl, _, rfl⟩
    · rintro σ H' ⟨rfl, v, rfl⟩
      walk_at "st"
      exact k
theorem sc_holder : FnScope ["counts", "slot", "sign"] ["counts", "slot"] (defScope s_holder) := ⟨rfl, rfl, rfl, by decide +kernel, rfl, by decide +kernel, by decide +kernel⟩
def sp_holder (K : PySem.W.Frag) (_ : Zs) : Sp := fun vs H Q _ => ∃ (a : Addr) (ns : List Int) (s : Int), vs = [.ref a, .int s] ∧ SqL K H a (iL ns) ∧ 0 ≤ s ∧ s < ns.sum ∧ Q (.int (holder ns s : Nat)) H
theorem c_holder {f : Addr} {fd : FuncData} (F : Fun K "holder" "holder" s_holder f fd) (hm : mg "holder" = some (.ref f)) (T : Txt K mg Z)   : Cal P w K mg base 1 "holder" (sp_holder K Z) [] := by
  refine cal_of F hm (F.binds (ps := ["counts", "slot"]) (fun _ _ _ _ _ _ us hl => match us, hl with | [_, _], _ => rfl)) sc_holder (fun vs H Q E h => ?_) (fun cdv A outer s H vs Q E hr h => ?_)
  · obtain ⟨a, ns, s0, rfl, hS, h0, h1, k⟩ := h
    rfl
  · obtain ⟨a, ns, s0, rfl, hS, h0, h1, k⟩ := h
    refine ⟨_, (pss_cons (ps_set (i := 2) sc_holder.nd rfl (Or.inl rfl) pe_int)
      (pss_cons (ps_while PassesOwn.never (pt_cmpR op_ge (pv 1) (pe_ix (n_ixL (K := K) rfl) (pv 0) (pv 2) (fun _ _ => rfl)) (nomark _)) (pss_cons (ps_set (i := 1) sc_holder.nd rfl (Or.inl rfl) (pe_op op_sub (pv 1) (pe_ix (n_ixL (K := K) rfl) (pv 0) (pv 2) (fun _ _ => rfl))))
      (pss_one (ps_set (i := 2) sc_holder.nd rfl (Or.inl rfl) (pe_op op_add (pv 2) pe_int)))))
      (pss_one (ps_ret (pv 2))))), ?_⟩
    walk_at "st"
    refine w_while (fun m σ H' => H' = H ∧ ∃ (j : Nat) (s : Int), σ = [some (.ref a), some (.int s), some (.int (j : Int))] ∧ m = ns.length - j ∧ 0 ≤ s ∧ s < (ns.drop j).sum ∧ holder ns s0 = j + holder (ns.drop j) s) ns.length ⟨rfl, 0, s0, rfl, rfl, h0, h1, by simp⟩ ?_
    rintro m σ H' ⟨rfl, j, s, rfl, rfl, b0, b1, e⟩
    have hj : j < ns.length := by
      refine Classical.byContradiction fun q => ?_
      rw [List.drop_eq_nil_of_le (by omega)] at b1
      simp at b1
      omega
    obtain ⟨c, ec⟩ : ∃ c, ns[j]? = some c := ⟨_, List.getElem?_eq_getElem hj⟩
    have st := holder_step (s := s) ec
    have sd := sum_drop ec
    walk_at "st"
    refine w_ixI hS rfl ec ?_
    walk_at "st"
    walk_at "both" <;> intro hc
    · refine w_turn ?_
      walk_at "st"
      refine w_ixI hS rfl ec ?_
      walk_at "st"
      refine ⟨ns.length - (j + 1), by omega, rfl, j + 1, s - c, ?_, rfl, by omega, by omega, ?_⟩
      · show [_, _, _] = _
        rw [Int.natCast_succ]
      · rw [if_pos hc] at st
        omega
    · walk_at "st"
      rw [if_neg hc] at st
      have e2 : (j : Int) = ((holder ns s0 : Nat) : Int) := by omega
      rw [e2]
      exact k
theorem sc_ask_sign : FnScope ["counts", "sign"] ["counts", "sign"] (defScope s_ask_sign) := ⟨rfl, rfl, rfl, by decide +kernel, rfl, by decide +kernel, by decide +kernel⟩
def sp_ask_sign (K : PySem.W.Frag) (_ : Zs) : Sp := fun vs H Q _ => ∃ (a : Addr) (ns : List Int) (s : Int), vs = [.ref a, .int s] ∧ SqL K H a (iL ns) ∧ Sign ns s ∧ Q .non H
theorem c_ask_sign {f : Addr} {fd : FuncData} (F : Fun K "ask_sign" "ask_sign" s_ask_sign f fd) (hm : mg "ask_sign" = some (.ref f)) (T : Txt K mg Z)   : Cal P w K mg base 1 "ask_sign" (sp_ask_sign K Z) [] := by
  refine cal_of F hm (F.binds (ps := ["counts", "sign"]) (fun _ _ _ _ _ _ us hl => match us, hl with | [_, _], _ => rfl)) sc_ask_sign (fun vs H Q E h => ?_) (fun cdv A outer s H vs Q E hr h => ?_)
  · obtain ⟨a, ns, s0, rfl, hS, x, k⟩ := h
    rfl
  · obtain ⟨a, ns, s0, rfl, hS, x, k⟩ := h
    refine ⟨_, (pss_one (ps_if (PW.pt (pw_or (pt_cmpR op_lt (pv 1) pe_int (nomark _)) (pw_or (pt_cmpR op_ge (pv 1) (pe_callB (n_len (K := K) rfl) (by rfl) T.b_len (by decide +kernel) (pa_cons (pv 0) pa_nil)) (nomark _)) (pw_or1 (pt_cmpR op_eq (pe_ix (n_ixL (K := K) rfl) (pv 0) (pv 1) (fun _ _ => rfl)) pe_int (nomark _)))))) (pss_one ps_never) pss_nil)), ?_⟩
    have x0 := x.nn
    have x1 := x.lt
    have x2 := x.cp
    walk_at "st"
    refine w_ixI hS (k := s0.toNat) (by omega) (cnt_at x0 x1) ?_
    walk_at "st"
    exact k
theorem sc_put_on : FnScope ["pile", "counts", "sign", "count"] ["pile", "counts", "sign"] (defScope s_put_on) := ⟨rfl, rfl, rfl, by decide +kernel, rfl, by decide +kernel, by decide +kernel⟩
def sp_put_on (K : PySem.W.Frag) (_ : Zs) : Sp := fun vs H Q _ => ∃ (p : Int) (a : Addr) (ns : List Int) (s : Int), vs = [.int p, .ref a, .int s] ∧ SqL K H a (iL ns) ∧ Good ns ∧ Sign ns s ∧ ∀ H', Ex H H' → Q (.int (put p ns s)) H'
theorem c_put_on {f : Addr} {fd : FuncData} (F : Fun K "put_on" "put_on" s_put_on f fd) (hm : mg "put_on" = some (.ref f)) (T : Txt K mg Z)   : Cal P w K mg base 1 "put_on" (sp_put_on K Z) [] := by
  refine cal_of F hm (F.binds (ps := ["pile", "counts", "sign"]) (fun _ _ _ _ _ _ us hl => match us, hl with | [_, _, _], _ => rfl)) sc_put_on (fun vs H Q E h => ?_) (fun cdv A outer s H vs Q E hr h => ?_)
  · obtain ⟨p, a, ns, s0, rfl, hS, g, x, k⟩ := h
    rfl
  · obtain ⟨p, a, ns, s0, rfl, hS, g, x, k⟩ := h
    refine ⟨_, (pss_cons (ps_set (i := 3) sc_put_on.nd rfl (Or.inl rfl) (pe_ix (n_ixL (K := K) rfl) (pv 1) (pv 2) (fun _ _ => rfl)))
      (pss_one (ps_ret (pe_op op_add (pe_op op_add (pe_op op_mul (pe_op op_fdiv (pv 0) (pv 3)) (pe_callB (n_sum (K := K) rfl rfl) (by rfl) T.b_sum (by decide +kernel) (pa_cons (pv 1) pa_nil))) (pe_callB (n_sum (K := K) rfl rfl) (by rfl) T.b_sum (by decide +kernel) (pa_cons (pe_slice (n_slL (K := K) rfl) (pv 1) po_none (po_some (pv 2))) pa_nil))) (pe_op op_mod (pv 0) (pv 3)))))), ?_⟩
    have x0 := x.nn
    have x1 := x.lt
    have x2 := x.cp
    have x3 := (cnt_le g x0 x1).2
    have g1 := g.sum
    have g2 := g.sumle
    walk_at "st"
    refine w_ixI hS (k := s0.toNat) (by omega) (cnt_at x0 x1) ?_
    walk_at "st"
    refine w_slTo hS x0 fun q H1 nq e1 hq => ?_
    walk_at "st"
    exact k _ e1
theorem sc_taken_off : FnScope ["pile", "counts", "slot", "sign"] ["pile", "counts"] (defScope s_taken_off) := ⟨rfl, rfl, rfl, by decide +kernel, rfl, by decide +kernel, by decide +kernel⟩
def sp_taken_off (K : PySem.W.Frag) (_ : Zs) : Sp := fun vs H Q _ => ∃ (p : Int) (a : Addr) (ns : List Int), vs = [.int p, .ref a] ∧ SqL K H a (iL ns) ∧ Good ns ∧ ∀ q H', H q = none → Ex H H' → H' q = some (.tup [.int (offS p ns), .int (offP p ns)]) → Q (.ref q) H'
theorem c_taken_off {f : Addr} {fd : FuncData} (F : Fun K "taken_off" "taken_off" s_taken_off f fd) (hm : mg "taken_off" = some (.ref f)) (T : Txt K mg Z) (c_holder : Cal P w K mg base 1 "holder" (sp_holder K Z) [])  : Cal P w K mg base 2 "taken_off" (sp_taken_off K Z) [] := by
  refine cal_of F hm (F.binds (ps := ["pile", "counts"]) (fun _ _ _ _ _ _ us hl => match us, hl with | [_, _], _ => rfl)) sc_taken_off (fun vs H Q E h => ?_) (fun cdv A outer s H vs Q E hr h => ?_)
  · obtain ⟨p, a, ns, rfl, hS, g, k⟩ := h
    rfl
  · obtain ⟨p, a, ns, rfl, hS, g, k⟩ := h
    refine ⟨_, (pss_cons (ps_set (i := 2) sc_taken_off.nd rfl (Or.inl rfl) (pe_op op_mod (pv 0) (pe_callB (n_sum (K := K) rfl rfl) (by rfl) T.b_sum (by decide +kernel) (pa_cons (pv 1) pa_nil))))
      (pss_cons (ps_set (i := 3) sc_taken_off.nd rfl (Or.inl rfl) (pe_c c_holder hr (by decide) rfl (pa_cons (pv 1) (pa_cons (pv 2) pa_nil))))
      (pss_one (ps_ret (pe_tup (pa_cons (pv 3) (pa_cons (pe_op op_sub (pe_op op_add (pe_op op_mul (pe_op op_fdiv (pv 0) (pe_callB (n_sum (K := K) rfl rfl) (by rfl) T.b_sum (by decide +kernel) (pa_cons (pv 1) pa_nil))) (pe_ix (n_ixL (K := K) rfl) (pv 1) (pv 3) (fun _ _ => rfl))) (pv 2)) (pe_callB (n_sum (K := K) rfl rfl) (by rfl) T.b_sum (by decide +kernel) (pa_cons (pe_slice (n_slL (K := K) rfl) (pv 1) po_none (po_some (pv 3))) pa_nil))) pa_nil))))))), ?_⟩
    have g1 := g.sum
    have g2 := g.sumle
    have m0 := Int.emod_nonneg p (show ns.sum ≠ 0 by omega)
    have m1 := Int.emod_lt_of_pos p g1
    obtain ⟨x, f1, f2⟩ := off_sign g p
    have x0 := x.nn
    have x1 := x.lt
    have x2 := x.cp
    have x3 := (cnt_le g x0 x1).2
    walk_at "st"
    refine ⟨a, ns, _, rfl, hS, m0, m1, ?_⟩
    walk_at "st"
    refine w_ixI hS (k := (offS p ns).toNat) (show offS p ns = _ by omega) (cnt_at x0 x1) ?_
    walk_at "st"
    refine w_slTo hS x0 fun q H1 nq e1 hq => ?_
    walk_at "st"
    refine w_newT (Nat.le_of_ble_eq_true rfl) fun q2 H2 nq2 e2 hq2 => ?_
    exact k _ _ (dn_n e1 nq2) (e1.trans e2) hq2
theorem sc_Stream_init : FnScope ["self", "counts", "base", "grain"] ["self", "counts", "base", "grain"] (defScope s_Stream_init) := ⟨rfl, rfl, rfl, by decide +kernel, rfl, by decide +kernel, by decide +kernel⟩
def sp_Stream_init (K : PySem.W.Frag) (Z : Zs) : Sp := fun vs H Q _ => ∃ (x dx a : Addr) (cs : List Int) (base grain : Int), vs = [.ref x, .ref a, .int base, .int grain] ∧ H x = some (.ins Z.stream dx []) ∧ SqL K H a (iL cs) ∧ Good cs ∧ 2 ≤ base ∧ base ≤ 1000 ∧ 1 ≤ grain ∧ grain ≤ 100 ∧
  ∀ H' F, StrAt Z cs base grain H' x (grain * cs.sum, []) F → Keep [x] H H' → Grow [x] F H → Q .non H'
theorem f_Stream_init {f : Addr} {fd : FuncData} (F : FunD K "__init__" "Stream.__init__" (defArgs s_Stream_init) (defBody s_Stream_init) (defScope s_Stream_init) [V.int 4] [] f fd) (T : Txt K mg Z) (c_ask_counts : Cal P w K mg base 1 "ask_counts" (sp_ask_counts K Z) [])  : FnOk P w K mg base CX0 2 f fd ["self", "counts", "base", "grain"] (sp_Stream_init K Z) := by
  refine F.ok0 sc_Stream_init (fun vs H Q E h => ?_) (fun cdv A outer s H vs Q E hr h => ?_)
  · obtain ⟨x, dx, a, cs, bas, grain, rfl, hx, ha, g, b0, b1, g0, g1, k⟩ := h
    rfl
  · obtain ⟨x, dx, a, cs, bas, grain, rfl, hx, ha, g, b0, b1, g0, g1, k⟩ := h
    have n_shares := T.n_Stream_shares
    have n_base := T.n_Stream_base
    have n_grain := T.n_Stream_grain
    have n_low := T.n_Stream_low
    have n_number := T.n_Stream_number
    have n_words := T.n_Stream_words
    have cls := T.is_Stream.cl
    refine ⟨_, (pss_cons (ps_expr (pe_c c_ask_counts hr (by decide) rfl (pa_cons (pv 1) pa_nil)))
      (pss_cons (ps_if (PW.pt (pw_or (pt_cmpR op_lt (pv 2) pe_int (nomark _)) (pw_or (pt_cmpR op_gt (pv 2) pe_int (nomark _)) (pw_or (pt_cmpR op_lt (pv 3) pe_int (nomark _)) (pw_or1 (pt_cmpR op_gt (pv 3) pe_int (nomark _))))))) (pss_one ps_never) pss_nil)
      (pss_cons (n_setF (K := K) rfl (pv 0) (pe_callTy (n_list (K := K) rfl) (by rfl) T.b_list (by decide +kernel) (pa_cons (pv 1) pa_nil)) rfl)
      (pss_cons (n_setF (K := K) rfl (pv 0) (pv 2) rfl)
      (pss_cons (n_setF (K := K) rfl (pv 0) (pv 3) rfl)
      (pss_cons (n_setF (K := K) rfl (pv 0) (pe_op op_mul (pv 3) (pe_callB (n_sum (K := K) rfl rfl) (by rfl) T.b_sum (by decide +kernel) (pa_cons (pv 1) pa_nil))) rfl)
      (pss_cons (n_setF (K := K) rfl (pv 0) (n_fld (K := K) rfl (pv 0) rfl) rfl)
      (pss_one (n_setF (K := K) rfl (pv 0) (pe_lst pa_nil) rfl))))))))), ?_⟩
    have sp := g.sum
    have sl := g.sumle
    have c0 : CMul grain cs.sum := cmulR (by omega) (by omega)
    walk_at "st"
    refine ⟨a, cs, rfl, ha, g, ?_⟩
    walk_at "st"
    refine w_list ha fun lc H1 nlc e1 hlc => ?_
    walk_at "st"
    refine w_kSetF (e1 _ _ hx) newStream_shares cls n_shares (Nat.le_of_ble_eq_true rfl) fun H2 k2 h2 f2 => ?_
    walk_at "st"
    refine w_kSetF h2 newStream_base cls n_base (Nat.le_of_ble_eq_true rfl) fun H3 k3 h3 f3 => ?_
    walk_at "st"
    refine w_kSetF h3 newStream_grain cls n_grain (Nat.le_of_ble_eq_true rfl) fun H4 k4 h4 f4 => ?_
    have k14 := (k2.trans k3).trans k4
    have ha4 := k14.seq (e1 _ _ hx) (up_l e1 ha)
    walk_at "st"
    refine w_kSetF h4 newStream_low cls n_low (Nat.le_of_ble_eq_true rfl) fun H5 k5 h5 f5 => ?_
    walk_at "st"
    refine w_kFld h5 (v := .int (grain * cs.sum)) (by first | rfl | simp [List.lookup] | decide) cls n_low ?_
    walk_at "st"
    refine w_kSetF h5 newStream_number cls n_number (Nat.le_of_ble_eq_true rfl) fun H6 k6 h6 f6 => ?_
    walk_at "st"
    refine w_newL (Nat.zero_le _) fun lw H7 nlw e7 hlw => ?_
    walk_at "st"
    refine w_kSetF (e7 _ _ h6) newStream_words cls n_words (Nat.le_of_ble_eq_true rfl) fun H8 k8 h8 f8 => ?_
    have lcx : lc ≠ x := ne_of hlc (e1 _ _ hx) (by intro z; cases z)
    have lwx : lw ≠ x := ne_of hlw (e7 _ _ h6) (by intro z; cases z)
    have k16 := (k14.trans k5).trans k6
    have hlc6 := k16.at hlc (by simp [lcx])
    have cw : lc ≠ lw := fun z => by rw [z, nlw] at hlc6; cases hlc6
    have gs : 1 ≤ grain * cs.sum := by
      have := Int.mul_le_mul g0 (show (1 : Int) ≤ cs.sum from g.sum) (by decide) (by omega)
      omega
    have gt : grain * cs.sum * 2 ≤ grain * cs.sum * bas := Int.mul_le_mul_of_nonneg_left b0 (by omega)
    refine k H8 [x, lc, lw] ⟨⟨g, b0, b1, g0, g1, Int.le_refl _, by omega, fun x hx => by cases hx⟩, dx, lc, lw, h8, k8 _ _ (by simp [lcx]) (e7 _ _ hlc6), k8 _ _ (by simp [lwx]) hlw, cw, rfl⟩ ((((Keep.of e1).trans k16).trans (Keep.of e7)).trans k8) fun c hc => ?_
    have back : ∀ b, H6 b = none → H1 b = none := fun b h => f2 _ (f3 _ (f4 _ (f5 _ (f6 _ h))))
    rcases List.mem_cons.mp hc with rfl | hc
    · exact .inl (by simp)
    rcases List.mem_cons.mp hc with rfl | hc
    · exact .inr nlc
    · rw [List.mem_singleton.mp hc]
      exact .inr (Evl.fresh_back e1 (back _ nlw))
theorem sc_Stream_lay_sign : FnScope ["self", "sign"] ["self", "sign"] (defScope s_Stream_lay_sign) := ⟨rfl, rfl, rfl, by decide +kernel, rfl, by decide +kernel, by decide +kernel⟩
def sp_Stream_lay_sign (K : PySem.W.Frag) (Z : Zs) : Sp := fun vs H Q _ => ∃ (cs : List Int) (base grain : Int) (st : Int × List Int) (p : Addr) (F : List Addr) (s : Int), vs = [.ref p, .int s] ∧ StrAt Z cs base grain H p st F ∧ Sign cs s ∧ st.2.length ≤ 50000 ∧
  ∀ H', StrAt Z cs base grain H' p (streamed cs base grain st s) F → Keep F H H' → (∀ b, H' b = none → H b = none) → Q .non H'
theorem f_Stream_lay_sign {f : Addr} {fd : FuncData} (F : Fun K "lay_sign" "Stream.lay_sign" s_Stream_lay_sign f fd) (T : Txt K mg Z) (c_ask_sign : Cal P w K mg base 1 "ask_sign" (sp_ask_sign K Z) []) (c_put_on : Cal P w K mg base 1 "put_on" (sp_put_on K Z) [])  : FnOk P w K mg base CX0 2 f fd ["self", "sign"] (sp_Stream_lay_sign K Z) := by
  refine F.ok sc_Stream_lay_sign (fun vs H Q E h => ?_) (fun cdv A outer s H vs Q E hr h => ?_)
  · obtain ⟨cs, bas, grain, st, p, F, s0, rfl, ⟨o, dx, lc, lw, h1, h2, h3, h4, eF⟩, sg, wl, k⟩ := h
    rfl
  · obtain ⟨cs, bas, grain, st, p, F, s0, rfl, ⟨o, dx, lc, lw, h1, h2, h3, h4, eF⟩, sg, wl, k⟩ := h
    have n_shares := T.n_Stream_shares
    have n_base := T.n_Stream_base
    have n_grain := T.n_Stream_grain
    have n_low := T.n_Stream_low
    have n_number := T.n_Stream_number
    have n_words := T.n_Stream_words
    have cls := T.is_Stream.cl
    refine ⟨_, (pss_cons (ps_expr (pe_c c_ask_sign hr (by decide) rfl (pa_cons (n_fld (K := K) rfl (pv 0) rfl) (pa_cons (pv 1) pa_nil))))
      (pss_cons (ps_while PassesOwn.never (pt_cmpR op_ge (n_fld (K := K) rfl (pv 0) rfl) (pe_op op_mul (pe_op op_mul (n_fld (K := K) rfl (pv 0) rfl) (n_fld (K := K) rfl (pv 0) rfl)) (pe_ix (n_ixL (K := K) rfl) (n_fld (K := K) rfl (pv 0) rfl) (pv 1) (fun _ _ => rfl))) (nomark _)) (pss_cons (ps_expr (pe_bm PySem.F.plainAttrs_list PySem.F.slot_list_append PySem.F.type_list_append mt_append (n_fld (K := K) rfl (pv 0) rfl) (pa_cons (pe_op op_mod (n_fld (K := K) rfl (pv 0) rfl) (n_fld (K := K) rfl (pv 0) rfl)) pa_nil)))
      (pss_one (n_setF (K := K) rfl (pv 0) (pe_op op_fdiv (n_fld (K := K) rfl (pv 0) rfl) (n_fld (K := K) rfl (pv 0) rfl)) rfl))))
      (pss_one (n_setF (K := K) rfl (pv 0) (pe_c c_put_on hr (by decide) rfl (pa_cons (n_fld (K := K) rfl (pv 0) rfl) (pa_cons (n_fld (K := K) rfl (pv 0) rfl) (pa_cons (pv 1) pa_nil)))) rfl)))), ?_⟩
    have osee := o.lay sg
    have ogr := o.grown sg
    have b0 := o.b0
    have b1 := o.b1
    have g0 := o.g0
    have g1 := o.g1
    have s0p := sg.nn
    have s1 := sg.lt
    have c1 : 1 ≤ cnt cs s0 := sg.cp
    have c2 := (cnt_le o.g sg.nn sg.lt).2
    have n0 : 0 ≤ st.1 := by have := o.lo; have := o.sum1; omega
    have q1 : CMul grain bas := cmulR (by omega) (by omega)
    have gb : 1 * 1 ≤ grain * bas := Int.mul_le_mul g0 (by omega) (by decide) (by omega)
    have gb2 : grain * bas ≤ 100 * 1000 := Int.mul_le_mul g1 b1 (by omega) (by decide)
    have q2 : CMul (grain * bas) (cnt cs s0) := cmulR (by omega) (by omega)
    have l1 : 1 ≤ grain * bas * cnt cs s0 := by
      have h2 := Int.mul_le_mul gb c1 (by decide) (by omega)
      omega
    walk_at "st"
    refine ⟨lc, cs, s0, rfl, SqL.of h2, sg, ?_⟩
    walk_at "st"
    refine w_while (fun m σ H' => ∃ (n : Int) (w : List Int), σ = [some (.ref p), some (.int s0)] ∧ m = n.toNat ∧ 0 ≤ n ∧ flowOut (grain * bas * cnt cs s0) bas n w = flowOut (grain * bas * cnt cs s0) bas st.1 st.2 ∧ (∃ kx : Nat, n < 2 ^ kx ∧ w.length + kx ≤ st.2.length + 40) ∧
      H' p = some (.ins Z.stream dx (fsStream lc bas grain (grain * cs.sum) n lw)) ∧ H' lc = some (.lst (iL cs)) ∧ H' lw = some (.lst (iL w)) ∧ Keep F H H' ∧ (∀ b, H' b = none → H b = none)) st.1.toNat ⟨st.1, st.2, rfl, rfl, n0, rfl, ⟨40, o.small, Nat.le_refl _⟩, h1, h2, h3, Keep.refl _ _, fun _ h => h⟩ ?_
    rintro m σ H1 ⟨n, w, rfl, rfl, n0', ef, ⟨kx, nk, hw⟩, p1, p2, p3, kk, ff⟩
    walk_at "st"
    refine w_ixI (SqL.of p2) (k := s0.toNat) (by omega) (cnt_at s0p s1) ?_
    walk_at "st"
    have pw : p ≠ lw := ne_of p1 p3 (by intro z; cases z)
    walk_at "both" <;> intro hc
    · refine w_turn ?_
      walk_at "st"
      refine w_appendK p3 (by rw [List.length_map]; omega) fun H2 k2 q3 f2 => ?_
      have q1' := k2.at p1 (by simp [pw])
      have q2' := k2.at p2 (by simp [h4])
      walk_at "st"
      refine w_kSetF q1' putStream_number cls n_number (Nat.le_of_ble_eq_true rfl) fun H3 k3 r1 f3 => ?_
      have dl := div_less (n := n) b0 (by omega)
      refine ⟨(n / bas).toNat, by omega, n / bas, w ++ [n % bas], rfl, rfl, dl.1, ?_, ?_, r1, k3.at q2' (by simp [ne_of p2 p1 (by intro z; cases z)]), ?_, kk.trans ((k2.mono (by rw [eF]; simp)).trans (k3.mono (by rw [eF]; simp))), fun b h => ff _ (f2 _ (f3 _ h))⟩
      · rw [← ef, flowOut_go b0 l1 hc]
      · cases kx with
        | zero => simp at nk; omega
        | succ kx =>
          refine ⟨kx, ?_, by rw [List.length_append]; simp; omega⟩
          have e := div_back n bas
          have m := Int.emod_nonneg n (show bas ≠ 0 by omega)
          have : 2 * (n / bas) ≤ n / bas * bas := by
            rw [Int.mul_comm (n / bas) bas]
            exact Int.mul_le_mul_of_nonneg_right b0 dl.1
          rw [Int.pow_succ] at nk
          omega
      · rw [k3.at q3 (by simp [pw.symm])]
        show some (HO.lst _) = some (HO.lst ((w ++ [n % bas]).map V.int))
        rw [List.map_append]
        rfl
    · have en : flowOut (grain * bas * cnt cs s0) bas st.1 st.2 = (n, w) := by
        rw [← ef]
        exact flowOut_end (by omega)
      walk_at "st"
      refine ⟨n, lc, cs, s0, rfl, SqL.of p2, o.g, sg, fun H2 e2 => ?_⟩
      have p12 := e2 _ _ p1
      walk_at "st"
      refine w_kSetF p12 putStream_number cls n_number (Nat.le_of_ble_eq_true rfl) fun H3 k3 r1 f3 => ?_
      have es : streamed cs bas grain st s0 = (put n cs s0, w) := by
        unfold streamed
        rw [en]
      rw [es] at osee
      rw [es] at k
      refine k H3 ⟨osee, dx, lc, lw, r1, k3.at (e2 _ _ p2) (by simp [ne_of p2 p1 (by intro z; cases z)]), k3.at (e2 _ _ p3) (by simp [pw.symm]), h4, eF⟩ ((kk.trans (Keep.of e2)).trans (k3.mono (by rw [eF]; simp))) fun b h => ff _ (Evl.fresh_back e2 (f3 _ h))
theorem sc_Stream_take_sign : FnScope ["self", "found", "number", "words"] ["self"] (defScope s_Stream_take_sign) := ⟨rfl, rfl, rfl, by decide +kernel, rfl, by decide +kernel, by decide +kernel⟩
def sp_Stream_take_sign (K : PySem.W.Frag) (Z : Zs) : Sp := fun vs H Q E => ∃ (cs : List Int) (base grain : Int) (st : Int × List Int) (p : Addr) (F : List Addr), vs = [.ref p] ∧ StrAt Z cs base grain H p st F ∧ st.2.length ≤ 50000 ∧
  (∀ r, flowed cs base grain st = some r → ∀ H' F', StrAt Z cs base grain H' p r F' → Keep F H H' → Grow F F' H → Q (.int (offS st.1 cs)) H') ∧ (flowed cs base grain st = none → ∀ H', Ex H H' → E (.ref Z.nomore) none H')
theorem f_Stream_take_sign {f : Addr} {fd : FuncData} (F : Fun K "take_sign" "Stream.take_sign" s_Stream_take_sign f fd) (T : Txt K mg Z) (c_taken_off : Cal P w K mg base 2 "taken_off" (sp_taken_off K Z) [])  : FnOk P w K mg base (L2.CX P w) 3 f fd ["self"] (sp_Stream_take_sign K Z) := by
  refine F.okX sc_Stream_take_sign (fun vs H Q E h => ?_) (fun cdv A outer s H vs Q E hr h => ?_)
  · obtain ⟨cs, bas, grain, st, p, F, rfl, ⟨o, dx, lc, lw, h1, h2, h3, h4, eF⟩, wl, kY, kN⟩ := h
    rfl
  · obtain ⟨cs, bas, grain, st, p, F, rfl, ⟨o, dx, lc, lw, h1, h2, h3, h4, eF⟩, wl, kY, kN⟩ := h
    have n_shares := T.n_Stream_shares
    have n_base := T.n_Stream_base
    have n_grain := T.n_Stream_grain
    have n_low := T.n_Stream_low
    have n_number := T.n_Stream_number
    have n_words := T.n_Stream_words
    have cls := T.is_Stream.cl
    refine ⟨_, (pss_cons (ps_set (i := 1) sc_Stream_take_sign.nd rfl (Or.inl rfl) (pe_c c_taken_off hr (by decide) rfl (pa_cons (n_fld (K := K) rfl (pv 0) rfl) (pa_cons (n_fld (K := K) rfl (pv 0) rfl) pa_nil))))
      (pss_cons (ps_set (i := 2) sc_Stream_take_sign.nd rfl (Or.inl rfl) (pe_ix (n_ixT (K := K) rfl) (pv 1) pe_int (fun _ _ => rfl)))
      (pss_cons (ps_set (i := 3) sc_Stream_take_sign.nd rfl (Or.inl rfl) (pe_callTy (n_list (K := K) rfl) (by rfl) T.b_list (by decide +kernel) (pa_cons (n_fld (K := K) rfl (pv 0) rfl) pa_nil)))
      (pss_cons (ps_while (passes_of rfl) (pt_cmpR op_lt (pv 2) (n_fld (K := K) rfl (pv 0) rfl) (nomark _)) (pss_cons (ps_if (pt_cmpR op_eq (pe_callB (n_len (K := K) rfl) (by rfl) T.b_len (by decide +kernel) (pa_cons (pv 3) pa_nil)) pe_int (nomark _)) (pss_one (ps_raiseO rfl (takes_of rfl rfl rfl rfl) T.x_NoMore (by rfl) (by decide))) pss_nil)
      (pss_one (ps_set (i := 2) sc_Stream_take_sign.nd rfl (Or.inl rfl) (pe_op op_add (pe_op op_mul (pv 2) (n_fld (K := K) rfl (pv 0) rfl)) (pe_bm0 PySem.F.plainAttrs_list PySem.F.slot_list_pop PySem.F.type_list_pop mt_pop (pv 3)))))))
      (pss_cons (n_setF (K := K) rfl (pv 0) (pv 2) rfl)
      (pss_cons (n_setF (K := K) rfl (pv 0) (pv 3) rfl)
      (pss_one (ps_ret (pe_ix (n_ixT (K := K) rfl) (pv 1) pe_int (fun _ _ => rfl)))))))))), ?_⟩
    have otk := fun r (e : flowed cs bas grain st = some r) => o.take e
    have b0 := o.b0
    have b1 := o.b1
    obtain ⟨z0, z1⟩ := off_low o
    walk_at "st"
    refine ⟨_, lc, cs, rfl, SqL.of h2, o.g, fun q H1 nq e1 hq => ?_⟩
    walk_at "st"
    refine w_list (SqL.of (e1 _ _ h3)) fun l H2 nl e2 hl => ?_
    walk_at "st"
    refine w_while (fun m σ H' => ∃ (n : Int) (v : List Int), σ = [some (.ref p), some (.ref q), some (.int n), some (.ref l)] ∧ m = v.length ∧ 0 ≤ n ∧ flowIn (grain * cs.sum) bas n v = flowed cs bas grain st ∧ Ex H1 H' ∧ H' l = some (.lst (iL v)) ∧ (∀ y ∈ v, 0 ≤ y ∧ y < bas)) st.2.length ⟨_, _, rfl, rfl, z0, rfl, e2, hl, o.ws⟩ ?_
    rintro m σ H3 ⟨n, v, rfl, rfl, n0, ef, e3, hl3, hvw⟩
    have e13 := e1.trans e3
    have h13 := e13 _ _ h1
    have h23 := e13 _ _ h2
    walk_at "st"
    walk_at "both" <;> intro hc
    · refine w_turn ?_
      walk_at "st"
      rcases List.eq_nil_or_concat v with ev | ⟨v', x, ev⟩
      · subst ev
        walk_at "st"
        refine kN (by rw [← ef]; exact flowIn_none hc) _ e13
      · rw [List.concat_eq_append] at ev
        subst ev
        have hx := hvw x (by simp)
        walk_at "both" <;> intro hd
        · simp at hd
          omega
        walk_at "st"
        have hl3' : H3 l = some (.lst (v'.map V.int ++ [.int x])) := by
          rw [hl3]
          show some (HO.lst ((v' ++ [x]).map V.int)) = _
          rw [List.map_append]
          rfl
        refine w_popK hl3' fun H4 k4 hl4 f4 => ?_
        have nl1 : H1 l = none := nl
        walk_at "st"
        have nb : 0 ≤ n * bas := Int.mul_nonneg n0 (by omega)
        refine ⟨v'.length, by simp, n * bas + x, v', rfl, rfl, by omega, ?_, ex_keep e3 k4 (new1 nl1), hl4, fun y hy => hvw y (by simp [hy])⟩
        rw [← ef, flowIn_go hc]
    · have er : flowed cs bas grain st = some (n, v) := by
        rw [← ef]
        exact flowIn_end (by omega)
      have lp : l ≠ p := ne_of hl3 h13 (by intro z; cases z)
      walk_at "st"
      refine w_kSetF h13 putStream_number cls n_number (Nat.le_of_ble_eq_true rfl) fun H4 k4 r4 f4 => ?_
      walk_at "st"
      refine w_kSetF r4 putStream_words cls n_words (Nat.le_of_ble_eq_true rfl) fun H5 k5 r5 f5 => ?_
      have hq5 : H5 q = some _ := k5.at (k4.at (e3 _ _ hq) (by simp [ne_of hq (e1 _ _ h1) (by intro z; cases z)])) (by simp [ne_of hq (e1 _ _ h1) (by intro z; cases z)])
      walk_at "st"
      have cp : lc ≠ p := ne_of h2 h1 (by intro z; cases z)
      have cl : lc ≠ l := fun z => by rw [← z, e1 _ _ h2] at nl; cases nl
      refine kY (n, v) er H5 [p, lc, l] ⟨(otk _ er).1, dx, lc, l, r5, k5.at (k4.at h23 (by simp [cp])) (by simp [cp]), k5.at (k4.at hl3 (by simp [lp])) (by simp [lp]), cl, rfl⟩ ((Keep.of e13).trans ((k4.mono (by rw [eF]; simp)).trans (k5.mono (by rw [eF]; simp)))) fun b hb => ?_
      rcases List.mem_cons.mp hb with rfl | hb
      · exact .inl (by rw [eF]; simp)
      rcases List.mem_cons.mp hb with rfl | hb
      · exact .inl (by rw [eF]; simp)
      · rw [List.mem_singleton.mp hb]
        exact .inr (Evl.fresh_back e1 nl)
theorem v_Stream_take_sign_N {f : Addr} {fd : FuncData} (F : Fun K "take_sign" "Stream.take_sign" s_Stream_take_sign f fd) (T : Txt K mg Z) (c_taken_off : Cal P w K mg base 2 "taken_off" (sp_taken_off K Z) [])  : FnOk P w K mg base (L2N.CX P w) 3 f fd ["self"] (sp_Stream_take_sign K Z) := by
  refine F.okN sc_Stream_take_sign (fun vs H Q E h => ?_) (fun cdv A outer s H vs Q E hr h => ?_)
  · obtain ⟨cs, bas, grain, st, p, F, rfl, ⟨o, dx, lc, lw, h1, h2, h3, h4, eF⟩, wl, kY, kN⟩ := h
    rfl
  · obtain ⟨cs, bas, grain, st, p, F, rfl, ⟨o, dx, lc, lw, h1, h2, h3, h4, eF⟩, wl, kY, kN⟩ := h
    have n_shares := T.n_Stream_shares
    have n_base := T.n_Stream_base
    have n_grain := T.n_Stream_grain
    have n_low := T.n_Stream_low
    have n_number := T.n_Stream_number
    have n_words := T.n_Stream_words
    have cls := T.is_Stream.cl
    refine ⟨_, (pss_cons (ps_set (i := 1) sc_Stream_take_sign.nd rfl (Or.inl rfl) (pe_c c_taken_off hr (by decide) rfl (pa_cons (n_fld (K := K) rfl (pv 0) rfl) (pa_cons (n_fld (K := K) rfl (pv 0) rfl) pa_nil))))
      (pss_cons (ps_set (i := 2) sc_Stream_take_sign.nd rfl (Or.inl rfl) (pe_ix (n_ixT (K := K) rfl) (pv 1) pe_int (fun _ _ => rfl)))
      (pss_cons (ps_set (i := 3) sc_Stream_take_sign.nd rfl (Or.inl rfl) (pe_callTy (n_list (K := K) rfl) (by rfl) T.b_list (by decide +kernel) (pa_cons (n_fld (K := K) rfl (pv 0) rfl) pa_nil)))
      (pss_cons (ps_while (passes_of rfl) (pt_cmpR op_lt (pv 2) (n_fld (K := K) rfl (pv 0) rfl) (nomark _)) (pss_cons (ps_if (pt_cmpR op_eq (pe_callB (n_len (K := K) rfl) (by rfl) T.b_len (by decide +kernel) (pa_cons (pv 3) pa_nil)) pe_int (nomark _)) (pss_one (ps_raiseN rfl (L2N.takes_of rfl rfl rfl rfl) T.x_NoMore (by rfl) (by decide))) pss_nil)
      (pss_one (ps_set (i := 2) sc_Stream_take_sign.nd rfl (Or.inl rfl) (pe_op op_add (pe_op op_mul (pv 2) (n_fld (K := K) rfl (pv 0) rfl)) (pe_bm0 PySem.F.plainAttrs_list PySem.F.slot_list_pop PySem.F.type_list_pop mt_pop (pv 3)))))))
      (pss_cons (n_setF (K := K) rfl (pv 0) (pv 2) rfl)
      (pss_cons (n_setF (K := K) rfl (pv 0) (pv 3) rfl)
      (pss_one (ps_ret (pe_ix (n_ixT (K := K) rfl) (pv 1) pe_int (fun _ _ => rfl)))))))))), ?_⟩
    have otk := fun r (e : flowed cs bas grain st = some r) => o.take e
    have b0 := o.b0
    have b1 := o.b1
    obtain ⟨z0, z1⟩ := off_low o
    walk_at "st"
    refine ⟨_, lc, cs, rfl, SqL.of h2, o.g, fun q H1 nq e1 hq => ?_⟩
    walk_at "st"
    refine w_list (SqL.of (e1 _ _ h3)) fun l H2 nl e2 hl => ?_
    walk_at "st"
    refine w_while (fun m σ H' => ∃ (n : Int) (v : List Int), σ = [some (.ref p), some (.ref q), some (.int n), some (.ref l)] ∧ m = v.length ∧ 0 ≤ n ∧ flowIn (grain * cs.sum) bas n v = flowed cs bas grain st ∧ Ex H1 H' ∧ H' l = some (.lst (iL v)) ∧ (∀ y ∈ v, 0 ≤ y ∧ y < bas)) st.2.length ⟨_, _, rfl, rfl, z0, rfl, e2, hl, o.ws⟩ ?_
    rintro m σ H3 ⟨n, v, rfl, rfl, n0, ef, e3, hl3, hvw⟩
    have e13 := e1.trans e3
    have h13 := e13 _ _ h1
    have h23 := e13 _ _ h2
    walk_at "st"
    walk_at "both" <;> intro hc
    · refine w_turn ?_
      walk_at "st"
      rcases List.eq_nil_or_concat v with ev | ⟨v', x, ev⟩
      · subst ev
        walk_at "st"
        refine kN (by rw [← ef]; exact flowIn_none hc) _ e13
      · rw [List.concat_eq_append] at ev
        subst ev
        have hx := hvw x (by simp)
        walk_at "both" <;> intro hd
        · simp at hd
          omega
        walk_at "st"
        have hl3' : H3 l = some (.lst (v'.map V.int ++ [.int x])) := by
          rw [hl3]
          show some (HO.lst ((v' ++ [x]).map V.int)) = _
          rw [List.map_append]
          rfl
        refine w_popK hl3' fun H4 k4 hl4 f4 => ?_
        have nl1 : H1 l = none := nl
        walk_at "st"
        have nb : 0 ≤ n * bas := Int.mul_nonneg n0 (by omega)
        refine ⟨v'.length, by simp, n * bas + x, v', rfl, rfl, by omega, ?_, ex_keep e3 k4 (new1 nl1), hl4, fun y hy => hvw y (by simp [hy])⟩
        rw [← ef, flowIn_go hc]
    · have er : flowed cs bas grain st = some (n, v) := by
        rw [← ef]
        exact flowIn_end (by omega)
      have lp : l ≠ p := ne_of hl3 h13 (by intro z; cases z)
      walk_at "st"
      refine w_kSetF h13 putStream_number cls n_number (Nat.le_of_ble_eq_true rfl) fun H4 k4 r4 f4 => ?_
      walk_at "st"
      refine w_kSetF r4 putStream_words cls n_words (Nat.le_of_ble_eq_true rfl) fun H5 k5 r5 f5 => ?_
      have hq5 : H5 q = some _ := k5.at (k4.at (e3 _ _ hq) (by simp [ne_of hq (e1 _ _ h1) (by intro z; cases z)])) (by simp [ne_of hq (e1 _ _ h1) (by intro z; cases z)])
      walk_at "st"
      have cp : lc ≠ p := ne_of h2 h1 (by intro z; cases z)
      have cl : lc ≠ l := fun z => by rw [← z, e1 _ _ h2] at nl; cases nl
      refine kY (n, v) er H5 [p, lc, l] ⟨(otk _ er).1, dx, lc, l, r5, k5.at (k4.at h23 (by simp [cp])) (by simp [cp]), k5.at (k4.at hl3 (by simp [lp])) (by simp [lp]), cl, rfl⟩ ((Keep.of e13).trans ((k4.mono (by rw [eF]; simp)).trans (k5.mono (by rw [eF]; simp)))) fun b hb => ?_
      rcases List.mem_cons.mp hb with rfl | hb
      · exact .inl (by rw [eF]; simp)
      rcases List.mem_cons.mp hb with rfl | hb
      · exact .inl (by rw [eF]; simp)
      · rw [List.mem_singleton.mp hb]
        exact .inr (Evl.fresh_back e1 nl)
theorem sc_Stream_told : FnScope ["self"] ["self"] (defScope s_Stream_told) := ⟨rfl, rfl, rfl, by decide +kernel, rfl, by decide +kernel, by decide +kernel⟩
def sp_Stream_told (K : PySem.W.Frag) (Z : Zs) : Sp := fun vs H Q _ => ∃ (cs : List Int) (base grain : Int) (st : Int × List Int) (p : Addr) (F : List Addr), vs = [.ref p] ∧ StrAt Z cs base grain H p st F ∧
  ∀ q l H', H q = none → H l = none → Ex H H' → H' q = some (.tup [.int st.1, .ref l]) → H' l = some (.lst (iL st.2)) → Q (.ref q) H'
theorem f_Stream_told {f : Addr} {fd : FuncData} (F : Fun K "told" "Stream.told" s_Stream_told f fd) (T : Txt K mg Z)   : FnOk P w K mg base CX0 1 f fd ["self"] (sp_Stream_told K Z) := by
  refine F.ok sc_Stream_told (fun vs H Q E h => ?_) (fun cdv A outer s H vs Q E hr h => ?_)
  · obtain ⟨cs, bas, grain, st, p, F, rfl, ⟨o, dx, lc, lw, h1, h2, h3, h4, eF⟩, k⟩ := h
    rfl
  · obtain ⟨cs, bas, grain, st, p, F, rfl, ⟨o, dx, lc, lw, h1, h2, h3, h4, eF⟩, k⟩ := h
    have n_shares := T.n_Stream_shares
    have n_base := T.n_Stream_base
    have n_grain := T.n_Stream_grain
    have n_low := T.n_Stream_low
    have n_number := T.n_Stream_number
    have n_words := T.n_Stream_words
    have cls := T.is_Stream.cl
    refine ⟨_, (pss_one (ps_ret (pe_tup (pa_cons (n_fld (K := K) rfl (pv 0) rfl) (pa_cons (pe_callTy (n_list (K := K) rfl) (by rfl) T.b_list (by decide +kernel) (pa_cons (n_fld (K := K) rfl (pv 0) rfl) pa_nil)) pa_nil))))), ?_⟩
    walk_at "st"
    refine w_list (SqL.of h3) fun l H1 nl e1 hl => ?_
    walk_at "st"
    refine w_newT (Nat.le_of_ble_eq_true rfl) fun q H2 nq e2 hq => ?_
    exact k _ _ _ (Evl.fresh_back e1 nq) nl (e1.trans e2) hq (e2 _ _ hl)
theorem v_Stream_told_H {f : Addr} {fd : FuncData} (F : Fun K "told" "Stream.told" s_Stream_told f fd) (T : Txt K mg Z)   : FnH P w K mg base CX0 1 f fd ["self"] (sp_Stream_told K Z) := by
  refine F.okH sc_Stream_told (fun vs H Q E h => ?_) (fun cdv A outer s H vs Q E pz hot hr h => ?_)
  · obtain ⟨cs, bas, grain, st, p, F, rfl, ⟨o, dx, lc, lw, h1, h2, h3, h4, eF⟩, k⟩ := h
    rfl
  · obtain ⟨cs, bas, grain, st, p, F, rfl, ⟨o, dx, lc, lw, h1, h2, h3, h4, eF⟩, k⟩ := h
    have n_shares := T.n_Stream_shares
    have n_base := T.n_Stream_base
    have n_grain := T.n_Stream_grain
    have n_low := T.n_Stream_low
    have n_number := T.n_Stream_number
    have n_words := T.n_Stream_words
    have cls := T.is_Stream.cl
    refine ⟨_, (pss_one (ps_ret (pe_tup (pa_cons (n_fld (K := K) rfl (pv 0) rfl) (pa_cons (pe_callTy (n_list (K := K) rfl) (by rfl) T.b_list (by decide +kernel) (pa_cons (n_fld (K := K) rfl (pv 0) rfl) pa_nil)) pa_nil))))), ?_⟩
    walk_at "st"
    refine w_list (SqL.of h3) fun l H1 nl e1 hl => ?_
    walk_at "st"
    refine w_newT (Nat.le_of_ble_eq_true rfl) fun q H2 nq e2 hq => ?_
    exact k _ _ _ (Evl.fresh_back e1 nq) nl (e1.trans e2) hq (e2 _ _ hl)
theorem sc__law_cell_at : FnScope ["script", "k"] ["script", "k"] (defScope s__law_cell_at) := ⟨rfl, rfl, rfl, by decide +kernel, rfl, by decide +kernel, by decide +kernel⟩

theorem c__law_cell_at {f : Addr} {fd : FuncData} (F : Fun K "_law_cell_at" "_law_cell_at" s__law_cell_at f fd) (hm : mg "_law_cell_at" = some (.ref f)) (T : Txt K mg Z)   : Cal P w K mg base 1 "_law_cell_at" (sp__law_cell_at K Z) [] := by
  refine cal_of F hm (F.binds (ps := ["script", "k"]) (fun _ _ _ _ _ _ us hl => match us, hl with | [_, _], _ => rfl)) sc__law_cell_at (fun vs H Q E h => ?_) (fun cdv A outer s H vs Q E hr h => ?_)
  · obtain ⟨a, ns, j, rfl, hS, h0, k⟩ := h
    rfl
  · obtain ⟨a, ns, j, rfl, hS, h0, k⟩ := h
    refine ⟨_, (pss_cons (ps_if (pt_cmpR op_lt (pv 1) (pe_callB (n_len (K := K) rfl) (by rfl) T.b_len (by decide +kernel) (pa_cons (pv 0) pa_nil)) (nomark _)) (pss_one (ps_ret (pe_ix (n_ixL (K := K) rfl) (pv 0) (pv 1) (fun _ _ => rfl)))) pss_nil)
      (pss_one (ps_ret pe_int))), ?_⟩
    walk_at "st"
    walk_at "both" <;> intro hc
    · walk_at "st"
      refine w_ixD hS h0 hc ?_
      exact k
    · walk_at "st"
      have e : cell ns j = 0 := by
        unfold cell
        rw [List.getD_eq_getElem?_getD, List.getElem?_eq_none (by omega)]
        rfl
      rw [e] at k
      exact k
theorem sc__law_whole : FnScope ["found"] ["found"] (defScope s__law_whole) := ⟨rfl, rfl, rfl, by decide +kernel, rfl, by decide +kernel, by decide +kernel⟩

theorem c__law_whole {f : Addr} {fd : FuncData} (F : Fun K "_law_whole" "_law_whole" s__law_whole f fd) (hm : mg "_law_whole" = some (.ref f)) (T : Txt K mg Z)   : Cal P w K mg base 1 "_law_whole" (sp__law_whole K Z) [] := by
  refine cal_of F hm (F.binds (ps := ["found"]) (fun _ _ _ _ _ _ us hl => match us, hl with | [_], _ => rfl)) sc__law_whole (fun vs H Q E h => ?_) (fun cdv A outer s H vs Q E hr h => ?_)
  · obtain ⟨i, rfl, k⟩ := h
    rfl
  · obtain ⟨i, rfl, k⟩ := h
    refine ⟨_, (pss_one (ps_ret (pe_and (pe_callB (n_isi (K := K) rfl) (by rfl) T.b_isinstance (by decide +kernel) (pa_cons (pv 0) (pa_cons (pe_bltn (v := .ty "int") (u := .type "int") (by rfl) T.b_int (by decide +kernel) rfl) pa_nil))) (pe_one (pe_not (pe_callB (n_isi (K := K) rfl) (by rfl) T.b_isinstance (by decide +kernel) (pa_cons (pv 0) (pa_cons (pe_bltn (v := .ty "bool") (u := .type "bool") (by rfl) T.b_bool (by decide +kernel) rfl) pa_nil)))))))), ?_⟩
    walk_at "st"
    exact k
theorem v__law_whole_H {f : Addr} {fd : FuncData} (F : Fun K "_law_whole" "_law_whole" s__law_whole f fd) (T : Txt K mg Z)   : FnH P w K mg base CX0 1 f fd ["found"] (sp__law_whole K Z) := by
  refine F.okH sc__law_whole (fun vs H Q E h => ?_) (fun cdv A outer s H vs Q E pz hot hr h => ?_)
  · obtain ⟨i, rfl, k⟩ := h
    rfl
  · obtain ⟨i, rfl, k⟩ := h
    refine ⟨_, (pss_one (ps_ret (pe_and (pe_callB (n_isi (K := K) rfl) (by rfl) T.b_isinstance (by decide +kernel) (pa_cons (pv 0) (pa_cons (pe_bltn (v := .ty "int") (u := .type "int") (by rfl) T.b_int (by decide +kernel) rfl) pa_nil))) (pe_one (pe_not (pe_callB (n_isi (K := K) rfl) (by rfl) T.b_isinstance (by decide +kernel) (pa_cons (pv 0) (pa_cons (pe_bltn (v := .ty "bool") (u := .type "bool") (by rfl) T.b_bool (by decide +kernel) rfl) pa_nil)))))))), ?_⟩
    walk_at "st"
    exact k
theorem sc__law_draw : FnScope ["cell", "k", "bound", "one", "two"] ["cell", "k", "bound"] (defScope s__law_draw) := ⟨rfl, rfl, rfl, by decide +kernel, rfl, by decide +kernel, by decide +kernel⟩
def sp__law_draw (_ : PySem.W.Frag) (_ : Zs) : Sp := fun vs H Q _ => ∃ (cell j bound : Int), vs = [.int cell, .int j, .int bound] ∧ 0 ≤ j ∧ j < 100000 ∧ 0 < bound ∧ Q (.int (draw cell j bound)) H
theorem c__law_draw {f : Addr} {fd : FuncData} (F : Fun K "_law_draw" "_law_draw" s__law_draw f fd) (hm : mg "_law_draw" = some (.ref f)) (T : Txt K mg Z)   : Cal P w K mg base 1 "_law_draw" (sp__law_draw K Z) [] := by
  refine cal_of F hm (F.binds (ps := ["cell", "k", "bound"]) (fun _ _ _ _ _ _ us hl => match us, hl with | [_, _, _], _ => rfl)) sc__law_draw (fun vs H Q E h => ?_) (fun cdv A outer s H vs Q E hr h => ?_)
  · obtain ⟨cell, j, bound, rfl, h0, h1, hb, k⟩ := h
    rfl
  · obtain ⟨cell, j, bound, rfl, h0, h1, hb, k⟩ := h
    refine ⟨_, (pss_cons (ps_set (i := 3) sc__law_draw.nd rfl (Or.inl rfl) (pe_op op_mod (pe_op op_add (pe_op op_add (pe_op op_mul (pe_op op_mod (pv 0) pe_int) pe_int) (pe_op op_mul (pv 1) pe_int)) pe_int) pe_int))
      (pss_cons (ps_set (i := 4) sc__law_draw.nd rfl (Or.inl rfl) (pe_op op_mod (pe_op op_mul (pe_op op_add (pe_op op_mod (pv 0) pe_int) pe_int) (pe_op op_add (pe_op op_add (pe_op op_mul (pv 1) (pv 1)) (pe_op op_mul pe_int (pv 1))) pe_int)) pe_int))
      (pss_one (ps_ret (pe_op op_mod (pe_op op_fdiv (pe_op op_mul (pv 3) (pe_op op_add (pv 4) pe_int)) pe_int) (pv 2)))))), ?_⟩
    walk_at "st"
    exact k
theorem sc__law_counts : FnScope ["cell", "many", "top", "counts", "k"] ["cell", "many"] (defScope s__law_counts) := ⟨rfl, rfl, rfl, by decide +kernel, rfl, by decide +kernel, by decide +kernel⟩
def sp__law_counts (_ : PySem.W.Frag) (_ : Zs) : Sp := fun vs H Q _ => ∃ (cell many : Int), vs = [.int cell, .int many] ∧ 1 ≤ many ∧ many ≤ 100 ∧ ∀ p H', H p = none → Ex H H' → H' p = some (.lst (iL (lawCounts cell many))) → Q (.ref p) H'
theorem c__law_counts {f : Addr} {fd : FuncData} (F : Fun K "_law_counts" "_law_counts" s__law_counts f fd) (hm : mg "_law_counts" = some (.ref f)) (T : Txt K mg Z) (c__law_draw : Cal P w K mg base 1 "_law_draw" (sp__law_draw K Z) [])  : Cal P w K mg base 2 "_law_counts" (sp__law_counts K Z) [] := by
  refine cal_of F hm (F.binds (ps := ["cell", "many"]) (fun _ _ _ _ _ _ us hl => match us, hl with | [_, _], _ => rfl)) sc__law_counts (fun vs H Q E h => ?_) (fun cdv A outer s H vs Q E hr h => ?_)
  · obtain ⟨cell, many, rfl, h1, h2, k⟩ := h
    rfl
  · obtain ⟨cell, many, rfl, h1, h2, k⟩ := h
    refine ⟨_, (pss_cons (ps_set (i := 2) sc__law_counts.nd rfl (Or.inr rfl) (pe_ix (n_ixL (K := K) rfl) (pe_lst (pa_cons pe_int (pa_cons pe_int (pa_cons pe_int (pa_cons pe_int pa_nil))))) (pe_op op_mod (pv 0) pe_int) (fun _ _ => rfl)))
      (pss_cons (ps_setLc (i := 3) (own := [("k", 4)]) (g := gName 4) (tt := tYes) rfl sc__law_counts.nd rfl rfl (sw_true rfl rfl rfl (by decide +kernel)) (pi_range1 rfl T.b_range (pa_cons (pv 1) pa_nil)) (blkOk_by (own := [("k", 4)]) (N := ["cell", "many", "top", "counts", "k"]) (sc := defScope s__law_counts) (by decide +kernel)) (fun _ _ _ _ _ => pg_name (i := 4) sc__law_counts.nd rfl (Or.inl rfl)) (fun _ _ _ _ _ => pts_nil) (fun _ _ _ _ _ => (pe_c c__law_draw hr (by decide) rfl (pa_cons (pe_op op_fdiv (pv 0) pe_int) (pa_cons (pv 4) (pa_cons (pv 2) pa_nil))))))
      (pss_cons (ps_if (pt_cmpR op_eq (pe_callB (n_sum (K := K) rfl rfl) (by rfl) T.b_sum (by decide +kernel) (pa_cons (pv 3) pa_nil)) pe_int (nomark _)) (pss_one (ps_asg pe_int (pg_sub (pv 3) (pe_op op_mod (pe_op op_fdiv (pv 0) pe_int) (pv 1)) set_list))) pss_nil)
      (pss_one (ps_ret (pv 3)))))), ?_⟩
    walk_at "st"
    refine w_newL (by decide) fun p0 H1 np0 e1 hp0 => ?_
    walk_at "st"
    have ht : atI [V.int 2, V.int 10, V.int 1000, V.int 4] (cell % 4) = some (.int (topOf cell)) := by
      unfold topOf
      have a0 : 0 ≤ cell % 4 := Int.emod_nonneg _ (by decide)
      have a1 : cell % 4 < 4 := Int.emod_lt_of_pos _ (by decide)
      have : cell % 4 = 0 ∨ cell % 4 = 1 ∨ cell % 4 = 2 ∨ cell % 4 = 3 := by omega
      rcases this with e | e | e | e <;> rw [e] <;> rfl
    refine w_ixL (SqL.of hp0) ht ?_
    walk_at "st"
    have tp := topOf_pos cell
    refine w_lcR (fun i => .int (draw (cell / 4) (i : Int) (topOf cell))) (by omega) (fun _ => rfl) (fun i H2 e2 hi => to_ev fun H3 e3 QQ qq => ?_) fun p1 H2 np1 e2 hp1 => ?_
    · walk_at "st"
      exact ⟨cell / 4, i, topOf cell, rfl, by omega, by omega, by omega, qq _ (Evl.Ex.refl _)⟩
    have e5 : (List.range many.toNat).map (fun (i : Nat) => V.int (draw (cell / 4) (i : Int) (topOf cell))) = iL (counts0 cell many) := by
      show _ = ((List.range many.toNat).map fun (k : Nat) => draw (cell / 4) (k : Int) (topOf cell)).map V.int
      rw [List.map_map]
      rfl
    rw [e5] at hp1
    walk_at "st"
    have np1' : H p1 = none := dn_n e1 np1
    walk_at "both" <;> intro hc
    · walk_at "st"
      have hk : (cell / 4 % many).toNat < (counts0 cell many).length := by
        rw [counts0_len]
        have := Int.emod_nonneg (cell / 4) (show many ≠ 0 by omega)
        have := Int.emod_lt_of_pos (cell / 4) (show 0 < many by omega)
        omega
      refine w_setL (k := (cell / 4 % many).toNat) hp1 (by have := Int.emod_nonneg (cell / 4) (show many ≠ 0 by omega); omega) (by rw [List.length_map]; exact hk) ?_
      walk_at "st"
      refine k _ _ np1' (Evl.Ex.mut (e1.trans e2) np1') ?_
      rw [upd_same]
      have e6 : lawCounts cell many = (counts0 cell many).set (cell / 4 % many).toNat 1 := if_pos hc
      rw [e6]
      show some (HO.lst _) = some (HO.lst (((counts0 cell many).set (cell / 4 % many).toNat 1).map V.int))
      rw [List.map_set]
    · walk_at "st"
      refine k _ _ np1' (e1.trans e2) ?_
      have e6 : lawCounts cell many = counts0 cell many := if_neg hc
      rw [e6]
      exact hp1
theorem sc__law_held : FnScope ["counts", "k"] ["counts"] (defScope s__law_held) := ⟨rfl, rfl, rfl, by decide +kernel, rfl, by decide +kernel, by decide +kernel⟩
def sp__law_held (K : PySem.W.Frag) (_ : Zs) : Sp := fun vs H Q _ => ∃ (a : Addr) (ns : List Int), vs = [.ref a] ∧ SqL K H a (iL ns) ∧ ns.length ≤ 100 ∧ ∀ p H', H p = none → Ex H H' → H' p = some (.lst (iL (held ns))) → Q (.ref p) H'
theorem c__law_held {f : Addr} {fd : FuncData} (F : Fun K "_law_held" "_law_held" s__law_held f fd) (hm : mg "_law_held" = some (.ref f)) (T : Txt K mg Z)   : Cal P w K mg base 1 "_law_held" (sp__law_held K Z) [] := by
  refine cal_of F hm (F.binds (ps := ["counts"]) (fun _ _ _ _ _ _ us hl => match us, hl with | [_], _ => rfl)) sc__law_held (fun vs H Q E h => ?_) (fun cdv A outer s H vs Q E hr h => ?_)
  · obtain ⟨a, ns, rfl, hS, hl, k⟩ := h
    rfl
  · obtain ⟨a, ns, rfl, hS, hl, k⟩ := h
    refine ⟨_, (pss_one (ps_ret (pe_lc (own := [("k", 1)]) (g := gName 1) rfl sc__law_held.nd (pi_range1 rfl T.b_range (pa_cons (pe_callB (n_len (K := K) rfl) (by rfl) T.b_len (by decide +kernel) (pa_cons (pv 0) pa_nil)) pa_nil)) (blkOk_by (own := [("k", 1)]) (N := ["counts", "k"]) (sc := defScope s__law_held) (by decide +kernel)) (fun _ _ _ _ _ => pg_name (i := 1) sc__law_held.nd rfl (Or.inl rfl)) (fun _ _ _ _ _ => (pts_one (pt_cmpR op_gt (pe_ix (n_ixL (K := K) rfl) (pv 0) (pv 1) (fun _ _ => rfl)) pe_int (nomark _)))) (fun _ _ _ _ _ => (pv 1))))), ?_⟩
    walk_at "st"
    refine w_lcF (fun i => decide (0 < ns.getD i 0)) (fun i => .int (i : Int)) (by omega) (fun _ => rfl) (fun i H2 e2 hi => to_evT fun H3 e3 QQ qq => ?_) (fun i H2 e2 hi hf => to_ev fun H3 e3 QQ qq => ?_) fun p1 H2 np1 e2 hp1 => ?_
    · walk_at "st"
      refine w_ixD (up_l e3 (up_l e2 hS)) (by omega) (by omega) ?_
      walk_at "st"
      exact qq _ (Evl.Ex.refl _)
    · walk_at "st"
      exact qq _ (Evl.Ex.refl _)
    · refine k _ _ np1 e2 ?_
      rw [hp1, Int.toNat_natCast]
      show some (HO.lst (((List.range ns.length).filter _).map _)) = some (HO.lst ((((List.range ns.length).filter _).map _).map V.int))
      rw [List.map_map]
      rfl
theorem sc__law_numbers : FnScope ["found", "due", "x"] ["found", "due"] (defScope s__law_numbers) := ⟨rfl, rfl, rfl, by decide +kernel, rfl, by decide +kernel, by decide +kernel⟩
def sp__law_numbers (K : PySem.W.Frag) (_ : Zs) : Sp := fun vs H Q _ => ∃ (a b : Addr) (ns : List Int), vs = [.ref a, .ref b] ∧ H a = some (.lst (iL ns)) ∧ SqL K H b (iL ns) ∧ Q (.bl true) H
theorem c__law_numbers {f : Addr} {fd : FuncData} (F : Fun K "_law_numbers" "_law_numbers" s__law_numbers f fd) (hm : mg "_law_numbers" = some (.ref f)) (T : Txt K mg Z) (c__law_whole : Cal P w K mg base 1 "_law_whole" (sp__law_whole K Z) [])  : Cal P w K mg base 2 "_law_numbers" (sp__law_numbers K Z) [] := by
  refine cal_of F hm (F.binds (ps := ["found", "due"]) (fun _ _ _ _ _ _ us hl => match us, hl with | [_, _], _ => rfl)) sc__law_numbers (fun vs H Q E h => ?_) (fun cdv A outer s H vs Q E hr h => ?_)
  · obtain ⟨a, b, ns, rfl, ha, hb, k⟩ := h
    rfl
  · obtain ⟨a, b, ns, rfl, ha, hb, k⟩ := h
    refine ⟨_, (pss_cons (ps_if (PW.pt (pw_or (pt_not (pt_val (pe_callB (n_isi (K := K) rfl) (by rfl) T.b_isinstance (by decide +kernel) (pa_cons (pv 0) (pa_cons (pe_bltn (v := .ty "list") (u := .type "list") (by rfl) T.b_list (by decide +kernel) rfl) pa_nil))))) (pw_or1 (pt_cmpR op_ne (pe_callB (n_len (K := K) rfl) (by rfl) T.b_len (by decide +kernel) (pa_cons (pv 0) pa_nil)) (pe_callB (n_len (K := K) rfl) (by rfl) T.b_len (by decide +kernel) (pa_cons (pv 1) pa_nil)) (nomark _))))) (pss_one (ps_ret pe_bl)) pss_nil)
      (pss_cons (ps_for PassesOwn.never rfl (n_pi (K := K) rfl (pv 0)) (pg_name (i := 2) sc__law_numbers.nd rfl (Or.inl rfl)) (pss_one (ps_if (pt_not (pt_val (pe_c c__law_whole hr (by decide) rfl (pa_cons (pv 2) pa_nil)))) (pss_one (ps_ret pe_bl)) pss_nil)))
      (pss_one (ps_ret (pe_cmpR (n_eqD (K := K) rfl hr.units) (pv 0) (pv 1) (nomark _)))))), ?_⟩
    walk_at "st"
    refine w_loopI ns (fun i σ H' => H' = H ∧ ∃ v, σ = [some (.ref a), some (.ref b), v]) ⟨rfl, _, rfl⟩ (fun i σ H' ⟨e, _⟩ => by rw [e]; exact SqL.of ha) ?_ ?_
    · rintro i s σ H' hn hi ⟨rfl, v, rfl⟩
      walk_at "st"
      exact ⟨rfl, _, rfl⟩
    rintro σ H' ⟨rfl, v, rfl⟩
    walk_at "st"
    refine w_eqL (SqL.of ha) hb (dT rfl ?_)
    exact k
theorem v__law_numbers_H {f : Addr} {fd : FuncData} (F : Fun K "_law_numbers" "_law_numbers" s__law_numbers f fd) (T : Txt K mg Z) (h__law_whole : CalH P w K mg base 1 "_law_whole" (sp__law_whole K Z))  : FnH P w K mg base CX0 2 f fd ["found", "due"] (sp__law_numbers K Z) := by
  refine F.okH sc__law_numbers (fun vs H Q E h => ?_) (fun cdv A outer s H vs Q E pz hot hr h => ?_)
  · obtain ⟨a, b, ns, rfl, ha, hb, k⟩ := h
    rfl
  · obtain ⟨a, b, ns, rfl, ha, hb, k⟩ := h
    refine ⟨_, (pss_cons (ps_if (PW.pt (pw_or (pt_not (pt_val (pe_callB (n_isi (K := K) rfl) (by rfl) T.b_isinstance (by decide +kernel) (pa_cons (pv 0) (pa_cons (pe_bltn (v := .ty "list") (u := .type "list") (by rfl) T.b_list (by decide +kernel) rfl) pa_nil))))) (pw_or1 (pt_cmpR op_ne (pe_callB (n_len (K := K) rfl) (by rfl) T.b_len (by decide +kernel) (pa_cons (pv 0) pa_nil)) (pe_callB (n_len (K := K) rfl) (by rfl) T.b_len (by decide +kernel) (pa_cons (pv 1) pa_nil)) (nomark _))))) (pss_one (ps_ret pe_bl)) pss_nil)
      (pss_cons (L2H.ps_forH (passes_of rfl) hot (pi_listH (K := K) rfl (pv 0)) (pg_name (i := 2) sc__law_numbers.nd rfl (Or.inl rfl)) (pss_one (ps_if (pt_not (pt_val (pe_cH h__law_whole hr (by decide) hot rfl (pa_cons (pv 2) pa_nil)))) (pss_one (ps_ret pe_bl)) pss_nil)))
      (pss_one (ps_ret (pe_cmpR (n_eqD (K := K) rfl (L2H.RoomH.units hr)) (pv 0) (pv 1) (nomark _)))))), ?_⟩
    walk_at "st"
    refine w_loopI ns (fun i σ H' => H' = H ∧ ∃ v, σ = [some (.ref a), some (.ref b), v]) ⟨rfl, _, rfl⟩ (fun i σ H' ⟨e, _⟩ => by rw [e]; exact SqL.of ha) ?_ ?_
    · rintro i s σ H' hn hi ⟨rfl, v, rfl⟩
      walk_at "st"
      exact ⟨rfl, _, rfl⟩
    rintro σ H' ⟨rfl, v, rfl⟩
    walk_at "st"
    refine w_eqL (SqL.of ha) hb (dT rfl ?_)
    exact k
theorem sc__law_tells : FnScope ["stream", "state", "found"] ["stream", "state"] (defScope s__law_tells) := ⟨rfl, rfl, rfl, by decide +kernel, rfl, by decide +kernel, by decide +kernel⟩
def sp__law_tells (K : PySem.W.Frag) (Z : Zs) : Sp := fun vs H Q _ => ∃ (p t l : Addr) (st : Int × List Int) (cs : List Int) (base grain : Int) (F : List Addr), vs = [.ref p, .ref t] ∧ StrAt Z cs base grain H p st F ∧ H t = some (.tup [.int st.1, .ref l]) ∧ H l = some (.lst (iL st.2)) ∧ st.2.length ≤ 50000 ∧ ∀ H', Ex H H' → Q (.bl true) H'
theorem c__law_tells {f : Addr} {fd : FuncData} (F : Fun K "_law_tells" "_law_tells" s__law_tells f fd) (hm : mg "_law_tells" = some (.ref f)) (T : Txt K mg Z) (m_Stream_told : Met P w K mg base 1 Z.stream "told" (sp_Stream_told K Z) []) (c__law_whole : Cal P w K mg base 1 "_law_whole" (sp__law_whole K Z) []) (c__law_numbers : Cal P w K mg base 2 "_law_numbers" (sp__law_numbers K Z) [])  : Cal P w K mg base 3 "_law_tells" (sp__law_tells K Z) [] := by
  refine cal_of F hm (F.binds (ps := ["stream", "state"]) (fun _ _ _ _ _ _ us hl => match us, hl with | [_, _], _ => rfl)) sc__law_tells (fun vs H Q E h => ?_) (fun cdv A outer s H vs Q E hr h => ?_)
  · obtain ⟨p, t, l, st, cs, bas, grain, F, rfl, r, ht, hl, wl, k⟩ := h
    rfl
  · obtain ⟨p, t, l, st, cs, bas, grain, F, rfl, r, ht, hl, wl, k⟩ := h
    refine ⟨_, (pss_cons (ps_set (i := 2) sc__law_tells.nd rfl (Or.inl rfl) (pe_mt0 m_Stream_told hr (by decide) (pv 0)))
      (pss_cons (ps_if (PW.pt (pw_or (pt_not (pt_val (pe_callB (n_isi (K := K) rfl) (by rfl) T.b_isinstance (by decide +kernel) (pa_cons (pv 2) (pa_cons (pe_bltn (v := .ty "tuple") (u := .type "tuple") (by rfl) T.b_tuple (by decide +kernel) rfl) pa_nil))))) (pw_or (pt_cmpR op_ne (pe_callB (n_len (K := K) rfl) (by rfl) T.b_len (by decide +kernel) (pa_cons (pv 2) pa_nil)) pe_int (nomark _)) (pw_or1 (pt_not (pt_val (pe_c c__law_whole hr (by decide) rfl (pa_cons (pe_ix (n_ixT (K := K) rfl) (pv 2) pe_int (fun _ _ => rfl)) pa_nil)))))))) (pss_one (ps_ret pe_bl)) pss_nil)
      (pss_cons (ps_if (PW.pt (pw_or (pt_not (pt_val (pe_c c__law_numbers hr (by decide) rfl (pa_cons (pe_ix (n_ixT (K := K) rfl) (pv 2) pe_int (fun _ _ => rfl)) (pa_cons (pe_ix (n_ixT (K := K) rfl) (pv 1) pe_int (fun _ _ => rfl)) pa_nil))))) (pw_or1 (pt_cmpR op_ne (pe_ix (n_ixT (K := K) rfl) (pv 2) pe_int (fun _ _ => rfl)) (pe_ix (n_ixT (K := K) rfl) (pv 1) pe_int (fun _ _ => rfl)) (nomark _))))) (pss_one (ps_ret pe_bl)) pss_nil)
      (pss_cons (ps_expr (pe_bm PySem.F.plainAttrs_list PySem.F.slot_list_append PySem.F.type_list_append mt_append (pe_ix (n_ixT (K := K) rfl) (pv 2) pe_int (fun _ _ => rfl)) (pa_cons pe_int pa_nil)))
      (pss_one (ps_ret pe_bl)))))), ?_⟩
    obtain ⟨o, dx, lc, lw, h1, h2, h3, h4, eF⟩ := id r
    walk_at "st"
    refine ⟨cs, bas, grain, st, p, F, rfl, r, fun q l2 H1 nq nl2 e1 hq hl2 => ?_⟩
    have ht1 := e1 _ _ ht
    have hl1 := e1 _ _ hl
    walk_at "st"
    refine ⟨l2, l, st.2, rfl, hl2, SqL.of hl1, ?_⟩
    walk_at "st"
    refine w_appendK hl2 (by rw [List.length_map]; omega) fun H2 k2 hl22 f2 => ?_
    walk_at "st"
    exact k _ (ex_keep e1 k2 (new1 nl2))
theorem v__law_tells_H {f : Addr} {fd : FuncData} (F : Fun K "_law_tells" "_law_tells" s__law_tells f fd) (T : Txt K mg Z) (mh_Stream_told : MetH P w K mg base 1 Z.stream "told" (sp_Stream_told K Z)) (h__law_whole : CalH P w K mg base 1 "_law_whole" (sp__law_whole K Z)) (h__law_numbers : CalH P w K mg base 2 "_law_numbers" (sp__law_numbers K Z))  : FnH P w K mg base CX0 3 f fd ["stream", "state"] (sp__law_tells K Z) := by
  refine F.okH sc__law_tells (fun vs H Q E h => ?_) (fun cdv A outer s H vs Q E pz hot hr h => ?_)
  · obtain ⟨p, t, l, st, cs, bas, grain, F, rfl, r, ht, hl, wl, k⟩ := h
    rfl
  · obtain ⟨p, t, l, st, cs, bas, grain, F, rfl, r, ht, hl, wl, k⟩ := h
    refine ⟨_, (pss_cons (ps_set (i := 2) sc__law_tells.nd rfl (Or.inl rfl) (pe_mtH0 mh_Stream_told hr (by decide) hot (pv 0)))
      (pss_cons (ps_if (PW.pt (pw_or (pt_not (pt_val (pe_callB (n_isi (K := K) rfl) (by rfl) T.b_isinstance (by decide +kernel) (pa_cons (pv 2) (pa_cons (pe_bltn (v := .ty "tuple") (u := .type "tuple") (by rfl) T.b_tuple (by decide +kernel) rfl) pa_nil))))) (pw_or (pt_cmpR op_ne (pe_callB (n_len (K := K) rfl) (by rfl) T.b_len (by decide +kernel) (pa_cons (pv 2) pa_nil)) pe_int (nomark _)) (pw_or1 (pt_not (pt_val (pe_cH h__law_whole hr (by decide) hot rfl (pa_cons (pe_ix (n_ixT (K := K) rfl) (pv 2) pe_int (fun _ _ => rfl)) pa_nil)))))))) (pss_one (ps_ret pe_bl)) pss_nil)
      (pss_cons (ps_if (PW.pt (pw_or (pt_not (pt_val (pe_cH h__law_numbers hr (by decide) hot rfl (pa_cons (pe_ix (n_ixT (K := K) rfl) (pv 2) pe_int (fun _ _ => rfl)) (pa_cons (pe_ix (n_ixT (K := K) rfl) (pv 1) pe_int (fun _ _ => rfl)) pa_nil))))) (pw_or1 (pt_cmpR op_ne (pe_ix (n_ixT (K := K) rfl) (pv 2) pe_int (fun _ _ => rfl)) (pe_ix (n_ixT (K := K) rfl) (pv 1) pe_int (fun _ _ => rfl)) (nomark _))))) (pss_one (ps_ret pe_bl)) pss_nil)
      (pss_cons (ps_expr (pe_bm PySem.F.plainAttrs_list PySem.F.slot_list_append PySem.F.type_list_append mt_append (pe_ix (n_ixT (K := K) rfl) (pv 2) pe_int (fun _ _ => rfl)) (pa_cons pe_int pa_nil)))
      (pss_one (ps_ret pe_bl)))))), ?_⟩
    obtain ⟨o, dx, lc, lw, h1, h2, h3, h4, eF⟩ := id r
    walk_at "st"
    refine ⟨cs, bas, grain, st, p, F, rfl, r, fun q l2 H1 nq nl2 e1 hq hl2 => ?_⟩
    have ht1 := e1 _ _ ht
    have hl1 := e1 _ _ hl
    walk_at "st"
    refine ⟨l2, l, st.2, rfl, hl2, SqL.of hl1, ?_⟩
    walk_at "st"
    refine w_appendK hl2 (by rw [List.length_map]; omega) fun H2 k2 hl22 f2 => ?_
    walk_at "st"
    exact k _ (ex_keep e1 k2 (new1 nl2))
theorem sc_law : FnScope ["script", "counts", "held", "base", "grain", "stream", "row", "past", "sign", "k", "ahead", "found", "cell"] ["script"] (defScope s_law) := ⟨rfl, rfl, rfl, by decide +kernel, rfl, by decide +kernel, by decide +kernel⟩
def sp_law (K : PySem.W.Frag) : Sp := fun vs H Q _ => ∃ (a : Addr) (ns : List Int), vs = [.ref a] ∧ SqL K H a (iL ns) ∧ ns.length ≤ 63 ∧ ∀ H', Q (.bl true) H'
theorem f_law {f : Addr} {fd : FuncData} (F : Fun K "law" "law" s_law f fd) (T : Txt K mg Z) (c__law_counts : Cal P w K mg base 2 "_law_counts" (sp__law_counts K Z) []) (c__law_cell_at : Cal P w K mg base 1 "_law_cell_at" (sp__law_cell_at K Z) []) (c__law_held : Cal P w K mg base 1 "_law_held" (sp__law_held K Z) []) (new_Stream_3 : Mak P w K mg base 2 "Stream" Z.stream (sp_Stream_init K Z) []) (m_Stream_told : Met P w K mg base 1 Z.stream "told" (sp_Stream_told K Z) []) (m_Stream_lay_sign : Met P w K mg base 2 Z.stream "lay_sign" (sp_Stream_lay_sign K Z) []) (c__law_tells : Cal P w K mg base 3 "_law_tells" (sp__law_tells K Z) []) (mn_Stream_take_sign : MetN P w K mg base 3 Z.stream "take_sign" (sp_Stream_take_sign K Z)) (c__law_whole : Cal P w K mg base 1 "_law_whole" (sp__law_whole K Z) []) (h__law_tells : CalH P w K mg base 3 "_law_tells" (sp__law_tells K Z))  : FnOk P w K mg base CX0 4 f fd ["script"] (sp_law K) := by
  refine F.ok sc_law (fun vs H Q E h => ?_) (fun cdv A outer s H vs Q E hr h => ?_)
  · obtain ⟨a, ns, rfl, hS, hl, k⟩ := h
    rfl
  · obtain ⟨a, ns, rfl, hS, hl, k⟩ := h
    refine ⟨_, (pss_cons (ps_set (i := 1) sc_law.nd rfl (Or.inl rfl) (pe_c c__law_counts hr (by decide) rfl (pa_cons (pe_c c__law_cell_at hr (by decide) rfl (pa_cons (pv 0) (pa_cons pe_int pa_nil))) (pa_cons (pe_op op_add pe_int (pe_op op_mod (pe_c c__law_cell_at hr (by decide) rfl (pa_cons (pv 0) (pa_cons pe_int pa_nil))) pe_int)) pa_nil))))
      (pss_cons (ps_set (i := 2) sc_law.nd rfl (Or.inr rfl) (pe_c c__law_held hr (by decide) rfl (pa_cons (pv 1) pa_nil)))
      (pss_cons (ps_set (i := 3) sc_law.nd rfl (Or.inl rfl) (pe_op op_add pe_int (pe_op op_mod (pe_c c__law_cell_at hr (by decide) rfl (pa_cons (pv 0) (pa_cons pe_int pa_nil))) pe_int)))
      (pss_cons (ps_set (i := 4) sc_law.nd rfl (Or.inl rfl) (pe_op op_add pe_int (pe_op op_mod (pe_c c__law_cell_at hr (by decide) rfl (pa_cons (pv 0) (pa_cons pe_int pa_nil))) pe_int)))
      (pss_cons (ps_set (i := 5) sc_law.nd rfl (Or.inl rfl) (pe_mk new_Stream_3 hr (by decide) rfl (pa_cons (pv 1) (pa_cons (pv 3) (pa_cons (pv 4) pa_nil)))))
      (pss_cons (ps_setLc (i := 6) (own := [("cell", 12)]) (g := gName 12) (tt := tYes) rfl sc_law.nd rfl rfl (sw_true rfl rfl rfl (by decide +kernel)) (n_pi (K := K) rfl (pe_slice (n_slL (K := K) rfl) (pv 0) (po_some pe_int) (po_some pe_int))) (blkOk_by (own := [("cell", 12)]) (N := ["script", "counts", "held", "base", "grain", "stream", "row", "past", "sign", "k", "ahead", "found", "cell"]) (sc := defScope s_law) (by decide +kernel)) (fun _ _ _ _ _ => pg_name (i := 12) sc_law.nd rfl (Or.inl rfl)) (fun _ _ _ _ _ => pts_nil) (fun _ _ _ _ _ => (pe_ix (n_ixL (K := K) rfl) (pv 2) (pe_op op_mod (pv 12) (pe_callB (n_len (K := K) rfl) (by rfl) T.b_len (by decide +kernel) (pa_cons (pv 2) pa_nil))) (fun _ _ => rfl))))
      (pss_cons (ps_set (i := 7) sc_law.nd rfl (Or.inl rfl) (pe_lst pa_nil))
      (pss_cons (ps_for PassesOwn.never rfl (n_pi (K := K) rfl (pv 6)) (pg_name (i := 8) sc_law.nd rfl (Or.inl rfl)) (pss_cons (ps_expr (pe_bm PySem.F.plainAttrs_list PySem.F.slot_list_append PySem.F.type_list_append mt_append (pv 7) (pa_cons (pe_mt0 m_Stream_told hr (by decide) (pv 5)) pa_nil)))
      (pss_one (ps_expr (pe_mt m_Stream_lay_sign hr (by decide) (pv 5) (pa_cons (pv 8) pa_nil))))))
      (Evl.pss_cut (ps_if (PW.pt (pw_and (pt_cmpR op_gt (pe_callB (n_len (K := K) rfl) (by rfl) T.b_len (by decide +kernel) (pa_cons (pv 6) pa_nil)) pe_int (nomark _)) (pw_and1 (pt_not (pt_val (pe_c c__law_tells hr (by decide) rfl (pa_cons (pv 5) (pa_cons (pe_mt0 m_Stream_told hr (by decide) (pv 5)) pa_nil)))))))) (pss_one (ps_ret pe_bl)) pss_nil)
      (pss_cons (ps_if (pt_not (pt_val (pe_c c__law_tells hr (by decide) rfl (pa_cons (pe_mk new_Stream_3 hr (by decide) rfl (pa_cons (pv 1) (pa_cons (pv 3) (pa_cons (pv 4) pa_nil)))) (pa_cons (pe_tup (pa_cons (pe_op op_mul (pv 4) (pe_callB (n_sum (K := K) rfl rfl) (by rfl) T.b_sum (by decide +kernel) (pa_cons (pv 1) pa_nil))) (pa_cons (pe_lst pa_nil) pa_nil))) pa_nil))))) (pss_one (ps_ret pe_bl)) pss_nil)
      (pss_cons (ps_for PassesOwn.never rfl (pi_revR (by rfl) T.b_reversed (prg_1 (by rfl) T.b_range (pe_callB (n_len (K := K) rfl) (by rfl) T.b_len (by decide +kernel) (pa_cons (pv 6) pa_nil)))) (pg_name (i := 9) sc_law.nd rfl (Or.inl rfl)) (pss_cons (ps_set (i := 10) sc_law.nd rfl (Or.inl rfl) (pe_mt0 m_Stream_told hr (by decide) (pv 5)))
      (pss_cons (ps_set (i := 11) sc_law.nd rfl (Or.inl rfl) (pe_mtM0 mn_Stream_take_sign hr (by decide) (pv 5)))
      (pss_cons (ps_if (PW.pt (pw_or (pt_not (pt_val (pe_c c__law_whole hr (by decide) rfl (pa_cons (pv 11) pa_nil)))) (pw_or (pt_cmpR op_ne (pv 11) (pe_ix (n_ixL (K := K) rfl) (pv 6) (pv 9) (fun _ _ => rfl)) (nomark _)) (pw_or1 (pt_not (pt_val (pe_c c__law_tells hr (by decide) rfl (pa_cons (pv 5) (pa_cons (pe_ix (n_ixL (K := K) rfl) (pv 7) (pv 9) (fun _ _ => rfl)) pa_nil))))))))) (pss_one (ps_ret pe_bl)) pss_nil)
      (pss_cons (ps_expr (pe_mt m_Stream_lay_sign hr (by decide) (pv 5) (pa_cons (pv 11) pa_nil)))
      (pss_cons (ps_if (pt_not (pt_val (pe_c c__law_tells hr (by decide) rfl (pa_cons (pv 5) (pa_cons (pv 10) pa_nil))))) (pss_one (ps_ret pe_bl)) pss_nil)
      (pss_one (ps_expr (pe_mtM0 mn_Stream_take_sign hr (by decide) (pv 5))))))))))
      (pss_cons (ps_if (pt_not (pt_val (pe_c c__law_tells hr (by decide) rfl (pa_cons (pv 5) (pa_cons (pe_tup (pa_cons (pe_op op_mul (pv 4) (pe_callB (n_sum (K := K) rfl rfl) (by rfl) T.b_sum (by decide +kernel) (pa_cons (pv 1) pa_nil))) (pa_cons (pe_lst pa_nil) pa_nil))) pa_nil))))) (pss_one (ps_ret pe_bl)) pss_nil)
      (pss_cons (ps_tryN (K := K) rfl rfl rfl (fun _ => PassesOwnAt.never) (by rfl) (by decide) T.x_NoMore (fun W pn xe tk _ => (pss_one (ps_expr (pe_mt m_Stream_lay_sign hr (by decide) (pv 5) (pa_cons (pe_mtN0 mn_Stream_take_sign hr (by decide) tk (pv 5)) pa_nil))))) (fun a oe cls d pn hot => (pss_one (ps_ret (pe_and (pe_cmpR op_gt (pe_callB (n_len (K := K) rfl) (by rfl) T.b_len (by decide +kernel) (pa_cons (pv 2) pa_nil)) pe_int (nomark _)) (pe_one (pe_cH h__law_tells (roomH_mark hr) (by decide) hot rfl (pa_cons (pv 5) (pa_cons (pe_tup (pa_cons (pe_op op_mul (pv 4) (pe_callB (n_sumH (K := K) rfl hot) (by rfl) T.b_sum (by decide +kernel) (pa_cons (pv 1) pa_nil))) (pa_cons (pe_lst pa_nil) pa_nil))) pa_nil)))))))))
      (pss_one (ps_ret (pe_and (pe_cmpR op_eq (pe_callB (n_len (K := K) rfl) (by rfl) T.b_len (by decide +kernel) (pa_cons (pv 2) pa_nil)) pe_int (nomark _)) (pe_one (pe_c c__law_tells hr (by decide) rfl (pa_cons (pv 5) (pa_cons (pe_tup (pa_cons (pe_op op_mul (pv 4) (pe_callB (n_sum (K := K) rfl rfl) (by rfl) T.b_sum (by decide +kernel) (pa_cons (pv 1) pa_nil))) (pa_cons (pe_lst pa_nil) pa_nil))) pa_nil)))))))))))))))))))), ?_⟩
    have a0 := Int.emod_nonneg (cell ns 1) (show (8 : Int) ≠ 0 by decide)
    have a1 := Int.emod_lt_of_pos (cell ns 1) (show (0 : Int) < 8 by decide)
    have a2 := Int.emod_nonneg (cell ns 2) (show (999 : Int) ≠ 0 by decide)
    have a3 := Int.emod_lt_of_pos (cell ns 2) (show (0 : Int) < 999 by decide)
    have a4 := Int.emod_nonneg (cell ns 3) (show (100 : Int) ≠ 0 by decide)
    have a5 := Int.emod_lt_of_pos (cell ns 3) (show (0 : Int) < 100 by decide)
    walk_at "st"
    refine ⟨_, _, rfl, by omega, by omega, fun c H1 nc e1 hc1 => ?_⟩
    have g := good_counts (cell := cell ns 0) (many := 1 + cell ns 1 % 8) (by omega) (by omega)
    generalize lawCounts (cell ns 0) (1 + cell ns 1 % 8) = cs at g hc1
    have sp := g.sum
    have sl := g.sumle
    have gl := g.len
    walk_at "st"
    refine ⟨c, cs, rfl, SqL.of hc1, gl, fun hd H2 nhd e2 hhd => ?_⟩
    have hp := held_pos g
    have hll := held_len cs
    have atm := held_at g
    have lm : ∀ z, cnt cs z = cs.sum → Sign cs z → (held cs).length = 1 := fun z h x => low_more g h x
    have lone : ∀ gr : Int, 1 ≤ gr → (held cs).length = 1 → cnt cs (offS (gr * cs.sum) cs) = cs.sum := fun gr g0 h => low_one g g0 h
    obtain ⟨hs, ehs⟩ : ∃ hs, hs = held cs := ⟨_, rfl⟩
    rw [← ehs] at hp hll atm hhd lm lone
    have hc2 := e2 _ _ hc1
    have hS2 := up_l (e1.trans e2) hS
    walk_at "st"
    obtain ⟨bas, eb⟩ : ∃ b, b = 2 + cell ns 2 % 999 := ⟨_, rfl⟩
    obtain ⟨gr, egr⟩ : ∃ b, b = 1 + cell ns 3 % 100 := ⟨_, rfl⟩
    rw [← eb, ← egr]
    have b0 : 2 ≤ bas := by omega
    have b1 : bas ≤ 1000 := by omega
    have g0 : 1 ≤ gr := by omega
    have g1 : gr ≤ 100 := by omega
    have c0 : CMul gr cs.sum := cmulR (by omega) (by omega)
    have o0 := st0_ok g b0 b1 g0 g1
    clear a0 a1 a2 a3 a4 a5 eb egr
    refine w_rMk fun x dx H3 nx e3 hx f3 => ?_
    refine ⟨x, dx, c, cs, bas, gr, rfl, hx, SqL.of (e3 _ _ hc2), g, b0, b1, g0, g1, fun H4 F r4 k4 g4 => ⟨rfl, ?_⟩⟩
    have e24 := made_ex nx e3 k4
    have nF := made_new nx f3 g4
    have hS4 := up_l e24 hS2
    have hhd4 := e24 _ _ hhd
    walk_at "st"
    refine w_slL hS4 fun q1 H5 nq1 e5 hq1 => ?_
    have ec : cutV (iL ns) (some 4) (some 54) = iL ((ns.take 54).drop 4) := cut_both (k := 4) (m := 54) ns (by decide)
    rw [ec] at hq1
    have elen : ((ns.take 54).drop 4).length ≤ 50 := by rw [List.length_drop, List.length_take]; omega
    have d2 := fun c : Int => Int.emod_nonneg c (show (hs.length : Int) ≠ 0 by omega)
    have d3 := fun c : Int => Int.emod_lt_of_pos c (show (0 : Int) < hs.length by omega)
    have hhd5 := e5 _ _ hhd4
    walk_at "st"
    refine w_lcI (fun c => .int (hs.getD (c % (hs.length : Int)).toNat 0)) (SqL.of hq1) (by omega) (fun _ => rfl) (fun c G8 e8 hm => to_ev fun G9 e9 QQ qq => ?_) fun pr H6 npr e6 hpr => ?_
    · have hh9 := e9 _ _ (e8 _ _ hhd5)
      walk_at "st"
      refine w_ixD (SqL.of hh9) (d2 c) (d3 c) ?_
      walk_at "st"
      exact qq _ (Ex.refl _)
    obtain ⟨row, er, el, hro⟩ : ∃ row : List Int, ((ns.take 54).drop 4).map (fun c => V.int (hs.getD (c % (hs.length : Int)).toNat 0)) = iL row ∧ row.length ≤ 50 ∧ ∀ s ∈ row, Sign cs s := by
      refine ⟨((ns.take 54).drop 4).map (fun c => hs.getD (c % (hs.length : Int)).toNat 0), ?_, by rw [List.length_map]; exact elen, fun s hs => ?_⟩
      · show _ = (((ns.take 54).drop 4).map _).map V.int
        rw [List.map_map]
        rfl
      · obtain ⟨c, _, rfl⟩ := List.mem_map.mp hs
        exact atm c
    rw [er] at hpr
    clear er elen hq1 ec d2 d3 atm
    have wok := fun i h => wsAt_ok (row := row) o0 hro i h
    have e46 := e5.trans e6
    have r6 := r4.up e46
    have prF : pr ∉ F := r4.own.out (Evl.fresh_back e5 npr)
    walk_at "st"
    refine w_newL (Nat.zero_le _) fun pl H7 npl e7 hpl => ?_
    have r7 := r6.up e7
    have plF : pl ∉ F := r6.own.out npl
    have hpr7 := e7 _ _ hpr
    have prl : pr ≠ pl := fun z => by rw [z] at hpr; rw [hpr] at npl; cases npl
    have npl2 : H2 pl = none := Evl.fresh_back (e24.trans e46) npl
    have e27 := (e24.trans e46).trans e7
    clear r4 k4 g4 hx e3 f3 nx r6
    walk_at "st"
    refine w_loopI row (fun i σ H' => ∃ (F : List Addr) (qs : List (Addr × Addr)) (v8 : Option V), Ex H2 H' ∧ New F H2 ∧ StrAt Z cs bas gr H' x (wsAt cs bas gr row i) F ∧ PaAt H' pl qs ((List.range i).map (wsAt cs bas gr row)) ∧ H' pr = some (.lst (iL row)) ∧ (∀ b ∈ pr :: pl :: flat qs, b ∉ F) ∧
        σ = [some (.ref a), some (.ref c), some (.ref hd), some (.int bas), some (.int gr), some (.ref x), some (.ref pr), some (.ref pl), v8, none, none, none, none])
      ⟨F, [], none, e27, nF, r7, ⟨hpl, rfl, fun i q st h => by simp at h⟩, hpr7, (fun b hb => by
        rcases List.mem_cons.mp hb with rfl | hb
        · exact prF
        · rw [List.mem_singleton.mp hb]
          exact plF), rfl⟩ (fun i σ H' ⟨_, _, _, _, _, _, _, h, _⟩ => SqL.of h) ?_ ?_
    · rintro i s σ H8 hn hi ⟨F, qs, v8, e8, nF, r8, P8, hpr8, out, rfl⟩
      have sg := hro s (List.mem_of_getElem? hn)
      obtain ⟨w1, w2⟩ := wok i (by omega)
      obtain ⟨_, dx8, lc8, lw8, hx8, _, _, _, _⟩ := id r8
      have plF := out pl (by simp)
      have pl8 := P8.1
      walk_at "st"
      refine ⟨cs, bas, gr, _, x, F, rfl, r8, fun t l H9 nt nl e9 ht hl9 => ?_⟩
      have P9 := P8.up e9
      have r9 := r8.up e9
      walk_at "st"
      refine w_appendK P9.1 (by rw [List.length_map, P9.2.1, List.length_map, List.length_range]; omega) fun H10 k10 h10 f10 => ?_
      have lpl : l ≠ pl := fun z => by rw [z, P8.1] at nl; cases nl
      have P10 := P9.add ht hl9 lpl k10 h10
      have r10 := r9.keep k10 (fun b hb z => plF (by rw [← List.mem_singleton.mp z]; exact hb))
      have hpr10 := k10.at (e9 _ _ hpr8) (by simp [prl])
      have e10 := ex_keep (e8.trans e9) k10 (new1 npl2)
      obtain ⟨_, dx10, lc10, lw10, hx10, _, _, _, _⟩ := id r10
      walk_at "st"
      refine ⟨cs, bas, gr, _, x, F, s, rfl, r10, sg, by omega, fun H11 r11 k11 f11 => ?_⟩
      have tF := r8.own.out nt
      have lF := r8.own.out nl
      have out' : ∀ b ∈ pr :: pl :: flat (qs ++ [(t, l)]), b ∉ F := fun b hb => by
        rcases List.mem_cons.mp hb with rfl | hb
        · exact out _ (by simp)
        rcases List.mem_cons.mp hb with rfl | hb
        · exact plF
        obtain ⟨q, hq, hb⟩ := mem_flat.mp hb
        rcases List.mem_append.mp hq with hq | hq
        · exact out b (by simp only [List.mem_cons]; exact .inr (.inr (mem_flat.mpr ⟨q, hq, hb⟩)))
        · rw [List.mem_singleton.mp hq] at hb
          rcases hb with rfl | rfl
          · exact tF
          · exact lF
      walk_at "st"
      refine ⟨F, qs ++ [(t, l)], some (.int s), Keep.ex e10 k11 nF, nF, ?_, ?_, k11.at hpr10 (out' _ (by simp)), out', rfl⟩
      · rw [wsAt_succ hn]
        exact r11
      · rw [List.range_succ, List.map_append]
        exact P10.keep k11 plF (fun b hb => out' b (by simp [hb]))
    clear r7 hpr7 nF plF prF hpl e27 hpr e7 npl npr e6 e5 e46
    rintro σ H8 ⟨F, qs, v8, e8, nF, r8, P8, hpr8, out, rfl⟩
    obtain ⟨w1, w2⟩ := wok row.length (Nat.le_refl _)
    obtain ⟨_, dx8, lc8, lw8, hx8, _, _, _, _⟩ := id r8
    walk_at "st"
    refine w_cut (fun σ H' => Ex H8 H' ∧ σ = [some (.ref a), some (.ref c), some (.ref hd), some (.int bas), some (.int gr), some (.ref x), some (.ref pr), some (.ref pl), v8, none, none, none, none]) ?_ ?_
    · walk_at "st"
      walk_at "both" <;> intro hcc
      · walk_at "st"
        refine ⟨cs, bas, gr, _, x, F, rfl, r8, fun t l H9 nt nl e9 ht hl9 => ?_⟩
        walk_at "st"
        refine ⟨x, t, l, _, cs, bas, gr, F, rfl, r8.up e9, ht, hl9, by omega, fun H10 e10 => ?_⟩
        walk_at "st"
        exact ⟨e9.trans e10, rfl⟩
      · walk_at "st"
        exact ⟨Ex.refl _, rfl⟩
    rintro σ H9 ⟨e89, rfl⟩
    have e9 := e8.trans e89
    have hc9 := e9 _ _ hc2
    have r9 := r8.up e89
    have P9 := P8.up e89
    have hpr9 := e89 _ _ hpr8
    clear r8 P8 hpr8 hx8
    walk_at "st"
    refine w_rMk fun y dy H10 ny e10 hy f10 => ?_
    refine ⟨y, dy, c, cs, bas, gr, rfl, hy, SqL.of (e10 _ _ hc9), g, b0, b1, g0, g1, fun H11 G s11 k11 g11 => ⟨rfl, ?_⟩⟩
    have e11 := made_ex ny e10 k11
    have hc11 := e11 _ _ hc9
    walk_at "st"
    refine w_newL (Nat.zero_le _) fun l1 H12 nl1 e12 hl1 => ?_
    walk_at "st"
    refine w_newT (Nat.le_of_ble_eq_true rfl) fun t1 H13 nt1 e13 ht1 => ?_
    walk_at "st"
    refine ⟨y, t1, l1, (gr * cs.sum, []), cs, bas, gr, G, rfl, s11.up (e12.trans e13), ht1, e13 _ _ hl1, Nat.zero_le _, fun H14 e14 => ?_⟩
    have e914 := ((e11.trans e12).trans e13).trans e14
    have hpr14 := e914 _ _ hpr9
    walk_at "st"
    refine w_loopD (m := row.length) (fun i σ H' => ∃ (F : List Addr) (v9 v10 v11 v8 : Option V), Ex H2 H' ∧ New F H2 ∧ StrAt Z cs bas gr H' x (wsAt cs bas gr row (row.length - i)) F ∧ PaAt H' pl qs ((List.range row.length).map (wsAt cs bas gr row)) ∧ H' pr = some (.lst (iL row)) ∧ (∀ b ∈ pr :: pl :: flat qs, b ∉ F) ∧
        σ = [some (.ref a), some (.ref c), some (.ref hd), some (.int bas), some (.int gr), some (.ref x), some (.ref pr), some (.ref pl), v8, v9, v10, v11, none])
      ⟨F, none, none, none, v8, e9.trans e914, nF, r9.up e914, P9.up e914, hpr14, out, rfl⟩ ?_ ?_
    · rintro i σ H15 hi ⟨F, v9, v10, v11, v8, e15, nF, r15, P15, hpr15, out, rfl⟩
      obtain ⟨j, ej⟩ : ∃ j, row.length - 1 - i = j := ⟨_, rfl⟩
      have ej1 : row.length - i = j + 1 := by omega
      have ej2 : row.length - (i + 1) = j := by omega
      have hj : j < row.length := by omega
      obtain ⟨s, hn⟩ : ∃ s, row[j]? = some s := ⟨_, List.getElem?_eq_getElem hj⟩
      have sg := hro s (List.mem_of_getElem? hn)
      obtain ⟨w1, w2⟩ := wok j (by omega)
      obtain ⟨w3, w4⟩ := wok (j + 1) (by omega)
      obtain ⟨sb1, sb2⟩ := streamed_back w1 sg
      have es := wsAt_succ (cs := cs) (base := bas) (grain := gr) hn
      rw [ej1] at r15
      rw [ej, ej2]
      rw [← es] at sb1 sb2
      obtain ⟨_, dx15, lc15, lw15, hx15, _, _, _, _⟩ := id r15
      walk_at "st"
      refine ⟨cs, bas, gr, _, x, F, rfl, r15, fun t l H16 nt nl e16 ht hl16 => ?_⟩
      have r16 := r15.up e16
      have P16 := P15.up e16
      have hpr16 := e16 _ _ hpr15
      obtain ⟨_, dx16, lc16, lw16, hx16, _, _, _, _⟩ := id r16
      have tF := r15.own.out nt
      have lF := r15.own.out nl
      walk_at "st"
      refine ⟨cs, bas, gr, _, x, F, rfl, r16, by omega, (fun r' ee H17 F17 r17 k17 g17 => ?_), (fun ee => by rw [sb2] at ee; cases ee)⟩
      rw [sb2] at ee
      cases ee
      rw [sb1]
      have own16 : ∀ b ∈ t :: l :: pr :: pl :: flat qs, ∃ u, H16 b = some u := fun b hb => by
        rcases List.mem_cons.mp hb with rfl | hb
        · exact ⟨_, ht⟩
        rcases List.mem_cons.mp hb with rfl | hb
        · exact ⟨_, hl16⟩
        rcases List.mem_cons.mp hb with rfl | hb
        · exact ⟨_, hpr16⟩
        rcases List.mem_cons.mp hb with rfl | hb
        · exact ⟨_, P16.1⟩
        · exact P16.own b hb
      have out16 : ∀ b ∈ t :: l :: pr :: pl :: flat qs, b ∉ F := fun b hb => by
        rcases List.mem_cons.mp hb with rfl | hb
        · exact tF
        rcases List.mem_cons.mp hb with rfl | hb
        · exact lF
        · exact out b hb
      have out17 := out_grow out16 g17 own16
      have e17 := Keep.ex (e15.trans e16) k17 nF
      have nF17 := nF.grow (e15.trans e16) g17
      have P17 := P16.keep k17 (out16 _ (by simp)) (fun b hb => out16 b (by simp [hb]))
      have hpr17 := k17.at hpr16 (out16 _ (by simp))
      have ht17 := k17.at ht (out16 _ (by simp))
      have hl17 := k17.at hl16 (out16 _ (by simp))
      obtain ⟨q, hq1, hq2, hq3, hq4⟩ := P17.get (i := j) (st := wsAt cs bas gr row j) (by rw [List.getElem?_map, List.getElem?_range hj]; rfl)
      walk_at "st"
      refine w_ixI (SqL.of hpr17) (k := j) rfl hn ?_
      have pl17 := P17.1
      walk_at "st"
      refine w_ixL (SqL.of pl17) hq2 ?_
      walk_at "st"
      refine ⟨x, q.1, q.2, _, cs, bas, gr, F17, rfl, r17, hq3, hq4, by omega, fun H18 e18 => ?_⟩
      have r18 := r17.up e18
      obtain ⟨_, dx18, lc18, lw18, hx18, _, _, _, _⟩ := id r18
      walk_at "st"
      refine ⟨cs, bas, gr, _, x, F17, s, rfl, r18, sg, by omega, fun H19 r19 k19 f19 => ?_⟩
      rw [← es] at r19
      have e19 := Keep.ex (e17.trans e18) k19 nF17
      have P19 := (P17.up e18).keep k19 (out17 _ (by simp)) (fun b hb => out17 b (by simp [hb]))
      have hpr19 := k19.at (e18 _ _ hpr17) (out17 _ (by simp))
      have ht19 := k19.at (e18 _ _ ht17) (out17 _ (by simp))
      have hl19 := k19.at (e18 _ _ hl17) (out17 _ (by simp))
      walk_at "st"
      refine ⟨x, t, l, _, cs, bas, gr, F17, rfl, r19, ht19, hl19, by omega, fun H20 e20 => ?_⟩
      have r20 := r19.up e20
      obtain ⟨_, dx20, lc20, lw20, hx20, _, _, _, _⟩ := id r20
      walk_at "st"
      refine ⟨cs, bas, gr, _, x, F17, rfl, r20, by omega, (fun r' ee H21 F21 r21 k21 g21 => ?_), (fun ee => by rw [sb2] at ee; cases ee)⟩
      rw [sb2] at ee
      cases ee
      have P20 := P19.up e20
      have hpr20 := e20 _ _ hpr19
      have own20 : ∀ b ∈ pr :: pl :: flat qs, ∃ u, H20 b = some u := fun b hb => by
        rcases List.mem_cons.mp hb with rfl | hb
        · exact ⟨_, hpr20⟩
        rcases List.mem_cons.mp hb with rfl | hb
        · exact ⟨_, P20.1⟩
        · exact P20.own b hb
      have outF : ∀ b ∈ pr :: pl :: flat qs, b ∉ F17 := fun b hb => out17 b (List.mem_cons_of_mem _ (List.mem_cons_of_mem _ hb))
      have out21 := out_grow outF g21 own20
      walk_at "st"
      exact ⟨F21, _, _, _, _, Keep.ex (e19.trans e20) k21 nF17, nF17.grow (e19.trans e20) g21, r21, P20.keep k21 (outF _ (by simp)) (fun b hb => outF b (by simp [hb])), k21.at hpr20 (outF _ (by simp)), out21, rfl⟩
    rintro σ H15 ⟨F, v9, v10, v11, v8, e15, nF, r15, P15, hpr15, out, rfl⟩
    rw [Nat.sub_self, wsAt_zero] at r15
    have hc15 := e15 _ _ hc2
    have hhd15 := e15 _ _ hhd
    clear P15 hpr15 out hpr14 r9 P9 hpr9 hc9 hc11 ht1 hl1
    walk_at "st"
    refine w_newL (Nat.zero_le _) fun l1 H16 nl1 e16 hl1 => ?_
    walk_at "st"
    refine w_newT (Nat.le_of_ble_eq_true rfl) fun t1 H17 nt1 e17 ht1 => ?_
    walk_at "st"
    refine ⟨x, t1, l1, (gr * cs.sum, []), cs, bas, gr, F, rfl, r15.up (e16.trans e17), ht1, e17 _ _ hl1, Nat.zero_le _, fun H18 e18 => ?_⟩
    have e1518 := (e16.trans e17).trans e18
    have r18 := r15.up e1518
    have hc18 := e1518 _ _ hc15
    have hhd18 := e1518 _ _ hhd15
    obtain ⟨_, dx18, lc18, lw18, hx18, _, _, _, _⟩ := id r18
    have xS := (low_off g g0).2.2
    walk_at "st"
    refine ⟨cs, bas, gr, _, x, F, rfl, r18, Nat.zero_le _, (fun r' ee H19 F19 r19 k19 g19 => ?_), (fun ee H19 e19 => ?_)⟩
    · have h1 : cnt cs (offS (gr * cs.sum) cs) = cs.sum := Classical.byContradiction fun h => by
        rw [low_none g g0 h] at ee
        cases ee
      rw [low_some g g0 h1] at ee
      cases ee
      have hone := lm _ h1 xS
      have e19 := Keep.ex (e15.trans e1518) k19 nF
      have nF19 := nF.grow (e15.trans e1518) g19
      obtain ⟨_, dx19, lc19, lw19, hx19, _, _, _, _⟩ := id r19
      walk_at "st"
      refine ⟨cs, bas, gr, _, x, F19, _, rfl, r19, xS, Nat.zero_le _, fun H20 r20 k20 f20 => ?_⟩
      have r20 : StrAt Z cs bas gr H20 x (gr * cs.sum, []) F19 := by
        have := low_again o0 h1
        rw [← this]
        exact r20
      have e20 := Keep.ex e19 k20 nF19
      have hc20 := e20 _ _ hc2
      have hhd20 := e20 _ _ hhd
      walk_at "st"
      refine w_newL (Nat.zero_le _) fun l2 H21 nl2 e21 hl2 => ?_
      walk_at "st"
      refine w_newT (Nat.le_of_ble_eq_true rfl) fun t2 H22 nt2 e22 ht2 => ?_
      walk_at "st"
      exact ⟨x, t2, l2, (gr * cs.sum, []), cs, bas, gr, F19, rfl, r20.up (e21.trans e22), ht2, e22 _ _ hl2, Nat.zero_le _, fun H23 e23 => k _⟩
    · have hmany : ¬ hs.length = 1 := fun h => by
        rw [low_some g g0 (lone gr g0 h)] at ee
        cases ee
      refine w_caught T.x_NoMore.te fun aa _ => ?_
      have hc19 := e19 _ _ hc18
      have hhd19 := e19 _ _ hhd18
      walk_at "st"
      refine w_newL (Nat.zero_le _) fun l2 H21 nl2 e21 hl2 => ?_
      walk_at "st"
      refine w_newT (Nat.le_of_ble_eq_true rfl) fun t2 H22 nt2 e22 ht2 => ?_
      walk_at "st"
      exact ⟨x, t2, l2, (gr * cs.sum, []), cs, bas, gr, F, rfl, (r18.up e19).up (e21.trans e22), ht2, e22 _ _ hl2, Nat.zero_le _, fun H23 e23 => k _⟩
end
theorem all_mk {l : PySem.W.OpenLaw} {w : World} {K : PySem.W.Frag} {h : Heap} {mg : Str → Option Value} {fa f0 f1 f2 f3 f4 f5 f6 f7 f8 f9 f10 f11 f12 f13 f14 f15 f16 CStream CNoMore : Addr} (X : K.In h) (G : h.Ns mainGlobals mg) (hfa : mg "law" = some (.ref fa))
    {od0 an0 od1 an1 od2 an2 od3 an3 od4 an4 od5 an5 od6 an6 od7 an7 od8 an8 od9 an9 od10 an10 od11 an11 od12 an12 od13 an13 od14 an14 od15 an15 od16 an16 : Option Addr} {sl0 sl1 sl2 sl3 sl4 sl5 sl6 sl7 sl8 sl9 sl10 sl11 sl12 sl13 sl14 sl15 sl16 : Array (Option Value)} {oc0 kV0 dc0 pm0 cd0 ct0 oc1 kV1 dc1 pm1 cd1 ct1 oc2 kV2 dc2 pm2 cd2 ct2 oc3 kV3 dc3 pm3 cd3 ct3 oc4 kV4 dc4 pm4 cd4 ct4 oc5 kV5 dc5 pm5 cd5 ct5 oc6 kV6 dc6 pm6 cd6 ct6 oc7 kV7 dc7 pm7 cd7 ct7 oc8 kV8 dc8 pm8 cd8 ct8 oc9 kV9 dc9 pm9 cd9 ct9 oc10 kV10 dc10 pm10 cd10 ct10 oc11 kV11 dc11 pm11 cd11 ct11 oc12 kV12 dc12 pm12 cd12 ct12 oc13 kV13 dc13 pm13 cd13 ct13 oc14 kV14 dc14 pm14 cd14 ct14 oc15 kV15 dc15 pm15 cd15 ct15 oc16 kV16 dc16 pm16 cd16 ct16 : Value}
    (z_Stream : PySem.W.nsIn K mainGlobals "Stream" = some (some (.ref CStream)))
    (a0 : PySem.W.nsIn K mainGlobals "ask_counts" = some (some (.ref f0)))
    (l0 : K.lookup f0 = some ⟨oc0, od0, .func (PySem.W.fnOf "ask_counts" "ask_counts" (defArgs s_ask_counts) (defBody s_ask_counts) (defScope s_ask_counts) .none kV0 dc0 pm0 an0 cd0 ct0), sl0⟩)
    (c0 : PySem.W.codeIn K cd0 "ask_counts" = true)
    (k0 : PySem.W.keepIn K (.ref f0) = true)
    (a1 : PySem.W.nsIn K mainGlobals "holder" = some (some (.ref f1)))
    (l1 : K.lookup f1 = some ⟨oc1, od1, .func (PySem.W.fnOf "holder" "holder" (defArgs s_holder) (defBody s_holder) (defScope s_holder) .none kV1 dc1 pm1 an1 cd1 ct1), sl1⟩)
    (c1 : PySem.W.codeIn K cd1 "holder" = true)
    (k1 : PySem.W.keepIn K (.ref f1) = true)
    (a2 : PySem.W.nsIn K mainGlobals "ask_sign" = some (some (.ref f2)))
    (l2 : K.lookup f2 = some ⟨oc2, od2, .func (PySem.W.fnOf "ask_sign" "ask_sign" (defArgs s_ask_sign) (defBody s_ask_sign) (defScope s_ask_sign) .none kV2 dc2 pm2 an2 cd2 ct2), sl2⟩)
    (c2 : PySem.W.codeIn K cd2 "ask_sign" = true)
    (k2 : PySem.W.keepIn K (.ref f2) = true)
    (a3 : PySem.W.nsIn K mainGlobals "put_on" = some (some (.ref f3)))
    (l3 : K.lookup f3 = some ⟨oc3, od3, .func (PySem.W.fnOf "put_on" "put_on" (defArgs s_put_on) (defBody s_put_on) (defScope s_put_on) .none kV3 dc3 pm3 an3 cd3 ct3), sl3⟩)
    (c3 : PySem.W.codeIn K cd3 "put_on" = true)
    (k3 : PySem.W.keepIn K (.ref f3) = true)
    (a4 : PySem.W.nsIn K mainGlobals "taken_off" = some (some (.ref f4)))
    (l4 : K.lookup f4 = some ⟨oc4, od4, .func (PySem.W.fnOf "taken_off" "taken_off" (defArgs s_taken_off) (defBody s_taken_off) (defScope s_taken_off) .none kV4 dc4 pm4 an4 cd4 ct4), sl4⟩)
    (c4 : PySem.W.codeIn K cd4 "taken_off" = true)
    (k4 : PySem.W.keepIn K (.ref f4) = true)
    (a5 : PySem.W.findIn K (.ref CStream) "__init__" = some (some (.ref f5)))
    (i5 : PySem.W.isFn K (.ref f5) = true)
    {t5 : Addr} {ot5 : Value} {dt5 : Option Addr} {st5 : Array (Option Value)} {nt5 : Nat} {tk5_0 : Tok}
    (l5 : K.lookup f5 = some ⟨oc5, od5, .func (PySem.W.fnOf "__init__" "Stream.__init__" (defArgs s_Stream_init) (defBody s_Stream_init) (defScope s_Stream_init) (.ref t5) kV5 dc5 pm5 an5 cd5 ct5), sl5⟩)
    (d5 : K.lookup t5 = some ⟨ot5, dt5, .seq #[.int 4 tk5_0] nt5, st5⟩)
    (c5 : PySem.W.codeIn K cd5 "Stream.__init__" = true)
    (k5 : PySem.W.keepIn K (.ref f5) = true)
    (a6 : PySem.W.findIn K (.ref CStream) "lay_sign" = some (some (.ref f6)))
    (i6 : PySem.W.isFn K (.ref f6) = true)
    (l6 : K.lookup f6 = some ⟨oc6, od6, .func (PySem.W.fnOf "lay_sign" "Stream.lay_sign" (defArgs s_Stream_lay_sign) (defBody s_Stream_lay_sign) (defScope s_Stream_lay_sign) .none kV6 dc6 pm6 an6 cd6 ct6), sl6⟩)
    (c6 : PySem.W.codeIn K cd6 "Stream.lay_sign" = true)
    (k6 : PySem.W.keepIn K (.ref f6) = true)
    (a7 : PySem.W.findIn K (.ref CStream) "take_sign" = some (some (.ref f7)))
    (i7 : PySem.W.isFn K (.ref f7) = true)
    (l7 : K.lookup f7 = some ⟨oc7, od7, .func (PySem.W.fnOf "take_sign" "Stream.take_sign" (defArgs s_Stream_take_sign) (defBody s_Stream_take_sign) (defScope s_Stream_take_sign) .none kV7 dc7 pm7 an7 cd7 ct7), sl7⟩)
    (c7 : PySem.W.codeIn K cd7 "Stream.take_sign" = true)
    (k7 : PySem.W.keepIn K (.ref f7) = true)
    (a8 : PySem.W.findIn K (.ref CStream) "told" = some (some (.ref f8)))
    (i8 : PySem.W.isFn K (.ref f8) = true)
    (l8 : K.lookup f8 = some ⟨oc8, od8, .func (PySem.W.fnOf "told" "Stream.told" (defArgs s_Stream_told) (defBody s_Stream_told) (defScope s_Stream_told) .none kV8 dc8 pm8 an8 cd8 ct8), sl8⟩)
    (c8 : PySem.W.codeIn K cd8 "Stream.told" = true)
    (k8 : PySem.W.keepIn K (.ref f8) = true)
    (a9 : PySem.W.nsIn K mainGlobals "_law_cell_at" = some (some (.ref f9)))
    (l9 : K.lookup f9 = some ⟨oc9, od9, .func (PySem.W.fnOf "_law_cell_at" "_law_cell_at" (defArgs s__law_cell_at) (defBody s__law_cell_at) (defScope s__law_cell_at) .none kV9 dc9 pm9 an9 cd9 ct9), sl9⟩)
    (c9 : PySem.W.codeIn K cd9 "_law_cell_at" = true)
    (k9 : PySem.W.keepIn K (.ref f9) = true)
    (a10 : PySem.W.nsIn K mainGlobals "_law_whole" = some (some (.ref f10)))
    (l10 : K.lookup f10 = some ⟨oc10, od10, .func (PySem.W.fnOf "_law_whole" "_law_whole" (defArgs s__law_whole) (defBody s__law_whole) (defScope s__law_whole) .none kV10 dc10 pm10 an10 cd10 ct10), sl10⟩)
    (c10 : PySem.W.codeIn K cd10 "_law_whole" = true)
    (k10 : PySem.W.keepIn K (.ref f10) = true)
    (a11 : PySem.W.nsIn K mainGlobals "_law_draw" = some (some (.ref f11)))
    (l11 : K.lookup f11 = some ⟨oc11, od11, .func (PySem.W.fnOf "_law_draw" "_law_draw" (defArgs s__law_draw) (defBody s__law_draw) (defScope s__law_draw) .none kV11 dc11 pm11 an11 cd11 ct11), sl11⟩)
    (c11 : PySem.W.codeIn K cd11 "_law_draw" = true)
    (k11 : PySem.W.keepIn K (.ref f11) = true)
    (a12 : PySem.W.nsIn K mainGlobals "_law_counts" = some (some (.ref f12)))
    (l12 : K.lookup f12 = some ⟨oc12, od12, .func (PySem.W.fnOf "_law_counts" "_law_counts" (defArgs s__law_counts) (defBody s__law_counts) (defScope s__law_counts) .none kV12 dc12 pm12 an12 cd12 ct12), sl12⟩)
    (c12 : PySem.W.codeIn K cd12 "_law_counts" = true)
    (k12 : PySem.W.keepIn K (.ref f12) = true)
    (a13 : PySem.W.nsIn K mainGlobals "_law_held" = some (some (.ref f13)))
    (l13 : K.lookup f13 = some ⟨oc13, od13, .func (PySem.W.fnOf "_law_held" "_law_held" (defArgs s__law_held) (defBody s__law_held) (defScope s__law_held) .none kV13 dc13 pm13 an13 cd13 ct13), sl13⟩)
    (c13 : PySem.W.codeIn K cd13 "_law_held" = true)
    (k13 : PySem.W.keepIn K (.ref f13) = true)
    (a14 : PySem.W.nsIn K mainGlobals "_law_numbers" = some (some (.ref f14)))
    (l14 : K.lookup f14 = some ⟨oc14, od14, .func (PySem.W.fnOf "_law_numbers" "_law_numbers" (defArgs s__law_numbers) (defBody s__law_numbers) (defScope s__law_numbers) .none kV14 dc14 pm14 an14 cd14 ct14), sl14⟩)
    (c14 : PySem.W.codeIn K cd14 "_law_numbers" = true)
    (k14 : PySem.W.keepIn K (.ref f14) = true)
    (a15 : PySem.W.nsIn K mainGlobals "_law_tells" = some (some (.ref f15)))
    (l15 : K.lookup f15 = some ⟨oc15, od15, .func (PySem.W.fnOf "_law_tells" "_law_tells" (defArgs s__law_tells) (defBody s__law_tells) (defScope s__law_tells) .none kV15 dc15 pm15 an15 cd15 ct15), sl15⟩)
    (c15 : PySem.W.codeIn K cd15 "_law_tells" = true)
    (k15 : PySem.W.keepIn K (.ref f15) = true)
    (a16 : PySem.W.nsIn K mainGlobals "law" = some (some (.ref f16)))
    (l16 : K.lookup f16 = some ⟨oc16, od16, .func (PySem.W.fnOf "law" "law" (defArgs s_law) (defBody s_law) (defScope s_law) .none kV16 dc16 pm16 an16 cd16 ct16), sl16⟩)
    (c16 : PySem.W.codeIn K cd16 "law" = true)
    (k16 : PySem.W.keepIn K (.ref f16) = true)
    (z_NoMore : PySem.W.nsIn K mainGlobals "NoMore" = some (some (.ref CNoMore)))
    (xp_NoMore : PySem.W.excIn K CNoMore [.type "ValueError", .type "Exception", .type "BaseException", .type "object"] "ValueError.__new__" = true)
    (kp_NoMore : PySem.W.keepIn K (.ref CNoMore) = true)
    (bp_NoMore : PySem.W.subIn K (.ref CNoMore) (.type "BaseException") = some true)
    (tp_NoMore : PySem.W.typeIn K (.ref CNoMore) = some (.type "type"))
    (ip_NoMore : PySem.W.isClsIn K CNoMore = true)
    (sp_NoMore : PySem.W.subIn K (.ref CNoMore) (.ref CNoMore) = some true)
    (pg_Stream : PySem.W.plainGet K CStream Str.empty = true)
    (hd_Stream : PySem.W.hasDictIn K CStream = true)
    (po_Stream : PySem.W.plainOver K CStream = true)
    (sa_Stream : PySem.W.findIn K (.ref CStream) "__setattr__" = some (some (.builtin "object.__setattr__")))
    (mk_Stream : PySem.W.makesIn K CStream = true)
    (kc_Stream : PySem.W.keepIn K (.ref CStream) = true)
    (x1_Stream : PySem.W.findIn K (.ref CStream) "__class__" = some (some (.builtin "object.__class__")))
    (x2_Stream : PySem.W.specialIn K (.builtin "object.__class__") "__get__" = some (some (.builtin "getset_descriptor.__get__")))
    (x3_Stream : PySem.W.takesIn K (.builtin "object.__class__") = some true)
    (x4_Stream : PySem.W.mroIn K CStream (.type "object") = some true)
    (z_bool : PySem.W.nsIn K mainGlobals "bool" = some none)
    (z_int : PySem.W.nsIn K mainGlobals "int" = some none)
    (z_isinstance : PySem.W.nsIn K mainGlobals "isinstance" = some none)
    (z_len : PySem.W.nsIn K mainGlobals "len" = some none)
    (z_list : PySem.W.nsIn K mainGlobals "list" = some none)
    (z_range : PySem.W.nsIn K mainGlobals "range" = some none)
    (z_reversed : PySem.W.nsIn K mainGlobals "reversed" = some none)
    (z_sum : PySem.W.nsIn K mainGlobals "sum" = some none)
    (z_tuple : PySem.W.nsIn K mainGlobals "tuple" = some none)
    {t_MOST_SIGNS : Tok}
    (z_MOST_SIGNS : PySem.W.nsIn K mainGlobals "MOST_SIGNS" = some (some (.int 100 t_MOST_SIGNS)))
    {t_MOST_COUNT : Tok}
    (z_MOST_COUNT : PySem.W.nsIn K mainGlobals "MOST_COUNT" = some (some (.int 999 t_MOST_COUNT)))
    (n_Stream_shares : PySem.W.findIn K (.ref CStream) "shares" = some none)
    (n_Stream_base : PySem.W.findIn K (.ref CStream) "base" = some none)
    (n_Stream_grain : PySem.W.findIn K (.ref CStream) "grain" = some none)
    (n_Stream_low : PySem.W.findIn K (.ref CStream) "low" = some none)
    (n_Stream_number : PySem.W.findIn K (.ref CStream) "number" = some none)
    (n_Stream_words : PySem.W.findIn K (.ref CStream) "words" = some none)
    : ∃ fd : FuncData, (∀ (s : Shared) (v : Value), BindsTo s fd ⟨[v], []⟩ [("script", v)]) ∧ ∀ base : Heap, K.In base → base.Ns mainGlobals mg → FnOk l.prog w K mg base CX0 4 fa fd ["script"] (sp_law K) := by
  have e := hfa.symm.trans (PySem.W.mg_of X G a16)
  cases e
  let Z : Zs := ⟨0, 0, 0, CStream, 0, 0, 0, 0, 0, 0, CNoMore, 0, 0⟩
  have T : Txt K mg Z := ⟨PySem.W.mg_none_of X G z_bool, PySem.W.mg_none_of X G z_int, PySem.W.mg_none_of X G z_isinstance, PySem.W.mg_none_of X G z_len, PySem.W.mg_none_of X G z_list, PySem.W.mg_none_of X G z_range, PySem.W.mg_none_of X G z_reversed, PySem.W.mg_none_of X G z_sum, PySem.W.mg_none_of X G z_tuple, ⟨_, PySem.W.mg_of X G z_MOST_SIGNS, ⟨_, rfl⟩⟩, ⟨_, PySem.W.mg_of X G z_MOST_COUNT, ⟨_, rfl⟩⟩, PySem.W.mg_of X G z_Stream, ⟨⟨pg_Stream, hd_Stream, po_Stream, sa_Stream⟩, x1_Stream, x2_Stream, x3_Stream, x4_Stream⟩, n_Stream_shares, n_Stream_base, n_Stream_grain, n_Stream_low, n_Stream_number, n_Stream_words, by simp [PySem.W.kitOne], ⟨PySem.W.mg_of X G z_NoMore, xp_NoMore, kp_NoMore, bp_NoMore, tp_NoMore, ip_NoMore, sp_NoMore⟩⟩
  refine ⟨PySem.W.fnOf "law" "law" (defArgs s_law) (defBody s_law) (defScope s_law) .none kV16 dc16 pm16 an16 cd16 ct16, fun s v => .of_eq rfl, fun base _ _ => ?_⟩
  have m0 : mg "ask_counts" = some (.ref f0) := PySem.W.mg_of X G a0
  have c_ask_counts := c_ask_counts (P := l.prog) (w := w) (base := base) (fun_mk (st := s_ask_counts) l0 c0 k0) m0 T  
  have m1 : mg "holder" = some (.ref f1) := PySem.W.mg_of X G a1
  have c_holder := c_holder (P := l.prog) (w := w) (base := base) (fun_mk (st := s_holder) l1 c1 k1) m1 T  
  have m2 : mg "ask_sign" = some (.ref f2) := PySem.W.mg_of X G a2
  have c_ask_sign := c_ask_sign (P := l.prog) (w := w) (base := base) (fun_mk (st := s_ask_sign) l2 c2 k2) m2 T  
  have m3 : mg "put_on" = some (.ref f3) := PySem.W.mg_of X G a3
  have c_put_on := c_put_on (P := l.prog) (w := w) (base := base) (fun_mk (st := s_put_on) l3 c3 k3) m3 T  
  have m4 : mg "taken_off" = some (.ref f4) := PySem.W.mg_of X G a4
  have c_taken_off := c_taken_off (P := l.prog) (w := w) (base := base) (fun_mk (st := s_taken_off) l4 c4 k4) m4 T c_holder 
  have F5 : FunD K "__init__" "Stream.__init__" (defArgs s_Stream_init) (defBody s_Stream_init) (defScope s_Stream_init) [V.int 4] [] f5 _ := fund_mk l5 c5 k5 (.inr ⟨List.cons_ne_nil _ _, _, _, [.int 4 tk5_0], _, rfl, d5, rfl, .cons ⟨_, rfl⟩ (.nil)⟩)
  have g_Stream_init := f_Stream_init (P := l.prog) (w := w) (base := base) F5 T c_ask_counts 
  have F6 := fun_mk (st := s_Stream_lay_sign) l6 c6 k6
  have g_Stream_lay_sign := f_Stream_lay_sign (P := l.prog) (w := w) (base := base) F6 T c_ask_sign c_put_on 
  have F7 := fun_mk (st := s_Stream_take_sign) l7 c7 k7
  have g_Stream_take_sign := f_Stream_take_sign (P := l.prog) (w := w) (base := base) F7 T c_taken_off 
  have g_Stream_take_sign_N := v_Stream_take_sign_N (P := l.prog) (w := w) (base := base) F7 T c_taken_off
  have F8 := fun_mk (st := s_Stream_told) l8 c8 k8
  have g_Stream_told := f_Stream_told (P := l.prog) (w := w) (base := base) F8 T  
  have g_Stream_told_H := v_Stream_told_H (P := l.prog) (w := w) (base := base) F8 T 
  have m9 : mg "_law_cell_at" = some (.ref f9) := PySem.W.mg_of X G a9
  have c__law_cell_at := c__law_cell_at (P := l.prog) (w := w) (base := base) (fun_mk (st := s__law_cell_at) l9 c9 k9) m9 T  
  have m10 : mg "_law_whole" = some (.ref f10) := PySem.W.mg_of X G a10
  have F10 := fun_mk (st := s__law_whole) l10 c10 k10
  have c__law_whole := c__law_whole (P := l.prog) (w := w) (base := base) (fun_mk (st := s__law_whole) l10 c10 k10) m10 T  
  have g__law_whole_H := v__law_whole_H (P := l.prog) (w := w) (base := base) F10 T 
  have m11 : mg "_law_draw" = some (.ref f11) := PySem.W.mg_of X G a11
  have c__law_draw := c__law_draw (P := l.prog) (w := w) (base := base) (fun_mk (st := s__law_draw) l11 c11 k11) m11 T  
  have m12 : mg "_law_counts" = some (.ref f12) := PySem.W.mg_of X G a12
  have c__law_counts := c__law_counts (P := l.prog) (w := w) (base := base) (fun_mk (st := s__law_counts) l12 c12 k12) m12 T c__law_draw 
  have m13 : mg "_law_held" = some (.ref f13) := PySem.W.mg_of X G a13
  have c__law_held := c__law_held (P := l.prog) (w := w) (base := base) (fun_mk (st := s__law_held) l13 c13 k13) m13 T  
  have m14 : mg "_law_numbers" = some (.ref f14) := PySem.W.mg_of X G a14
  have F14 := fun_mk (st := s__law_numbers) l14 c14 k14
  have c__law_numbers := c__law_numbers (P := l.prog) (w := w) (base := base) (fun_mk (st := s__law_numbers) l14 c14 k14) m14 T c__law_whole 
  have h__law_whole : CalH l.prog w K mg base 1 "_law_whole" (sp__law_whole K Z) := ⟨_, _, _, g__law_whole_H, m10, k10, F10.binds (ps := ["found"]) (fun _ _ _ _ _ _ us hl => match us, hl with | [_], _ => rfl)⟩
  have g__law_numbers_H := v__law_numbers_H (P := l.prog) (w := w) (base := base) F14 T h__law_whole
  have m_Stream_told : Met l.prog w K mg base 1 Z.stream "told" (sp_Stream_told K Z) [] := ⟨_, _, _, _, T.is_Stream.cl, ⟨a8, i8, k8⟩, g_Stream_told, F8.binds (ps := ["self"]) (fun _ _ _ _ _ _ us hl => match us, hl with | [_], _ => rfl), .nil⟩
  have m15 : mg "_law_tells" = some (.ref f15) := PySem.W.mg_of X G a15
  have F15 := fun_mk (st := s__law_tells) l15 c15 k15
  have c__law_tells := c__law_tells (P := l.prog) (w := w) (base := base) (fun_mk (st := s__law_tells) l15 c15 k15) m15 T m_Stream_told c__law_whole c__law_numbers 
  have mh_Stream_told : MetH l.prog w K mg base 1 Z.stream "told" (sp_Stream_told K Z) := ⟨_, _, _, T.is_Stream.cl, ⟨a8, i8, k8⟩, g_Stream_told_H, F8.binds (ps := ["self"]) (fun _ _ _ _ _ _ us hl => match us, hl with | [_], _ => rfl)⟩
  have h__law_numbers : CalH l.prog w K mg base 2 "_law_numbers" (sp__law_numbers K Z) := ⟨_, _, _, g__law_numbers_H, m14, k14, F14.binds (ps := ["found", "due"]) (fun _ _ _ _ _ _ us hl => match us, hl with | [_, _], _ => rfl)⟩
  have g__law_tells_H := v__law_tells_H (P := l.prog) (w := w) (base := base) F15 T mh_Stream_told h__law_whole h__law_numbers
  have new_Stream_3 : Mak l.prog w K mg base 2 "Stream" Z.stream (sp_Stream_init K Z) [] := by
    obtain ⟨ds, v, b⟩ := F5.binds1 (ps := ["self", "counts", "base", "grain"]) 4 1 (List.cons_ne_nil _ _) rfl (fun _ _ _ _ _ _ _ us its h1 h2 => match us, its, h1, h2 with | [_, _, _, _], [_], _, _ => ⟨_, rfl, rfl⟩)
    exact ⟨_, _, _, _, ⟨mk_Stream, a5, i5, kc_Stream⟩, g_Stream_init, T.g_Stream, b, v⟩
  have m_Stream_lay_sign : Met l.prog w K mg base 2 Z.stream "lay_sign" (sp_Stream_lay_sign K Z) [] := ⟨_, _, _, _, T.is_Stream.cl, ⟨a6, i6, k6⟩, g_Stream_lay_sign, F6.binds (ps := ["self", "sign"]) (fun _ _ _ _ _ _ us hl => match us, hl with | [_, _], _ => rfl), .nil⟩
  have mn_Stream_take_sign : MetN l.prog w K mg base 3 Z.stream "take_sign" (sp_Stream_take_sign K Z) := ⟨_, _, _, T.is_Stream.cl, ⟨a7, i7, k7⟩, g_Stream_take_sign_N, F7.binds (ps := ["self"]) (fun _ _ _ _ _ _ us hl => match us, hl with | [_], _ => rfl)⟩
  have h__law_tells : CalH l.prog w K mg base 3 "_law_tells" (sp__law_tells K Z) := ⟨_, _, _, g__law_tells_H, m15, k15, F15.binds (ps := ["stream", "state"]) (fun _ _ _ _ _ _ us hl => match us, hl with | [_, _], _ => rfl)⟩
  exact f_law (fun_mk (st := s_law) l16 c16 k16) T c__law_counts c__law_cell_at c__law_held new_Stream_3 m_Stream_told m_Stream_lay_sign c__law_tells mn_Stream_take_sign c__law_whole h__law_tells 
theorem walk {l : PySem.W.OpenLaw} {q : Program} {loose : List Str} {XP : (Str → Option Value) → Heap → Prop} {YP : World → Heap → Prop} {d : DefRec} {K : Params → PySem.W.Frag} (hn : l.most = some 63) (hdf : d.params.defaults = [])
    (hY : ∀ (w : World) (h : Heap), YP w h → (K w.params).In h)
    (F : ∀ (w : World) (mg : Str → Option Value) (fa : Addr) (h : Heap), (K w.params).In h → h.Ns mainGlobals mg → mg d.name = some (.ref fa) →
      ∃ fd : FuncData, (∀ (s : Shared) (u : Value), BindsTo s fd ⟨[u], []⟩ [("script", u)]) ∧ ∀ base : Heap, (K w.params).In base → base.Ns mainGlobals mg → FnOk l.prog w (K w.params) mg base CX0 4 fa fd ["script"] (sp_law (K w.params))) :
    PySem.W.WalkO q loose XP YP l.row.toRowW d [] (fun f vs => PySem.call f vs) :=
  L2.walk_of (n := 63) (k := 4) (x := "script") (CX := fun _ => CX0) (sp := fun w => sp_law (K w.params)) hn (by decide) hdf ⟨rfl, by decide, by decide⟩ hY F (fun _ _ a ns hl _ hS => ⟨a, ns, rfl, hS, hl, fun _ => rfl⟩) fun _ _ _ _ _ z => z
end Pf
open PySem PySem.W PyProof.Rows in
set_option maxRecDepth 100000 in
set_option maxHeartbeats 0 in
theorem PySem.Challenge.cw_numberpile_k12_streams_undone_holds : PySem.Challenge.rw_numberpile_k12_streams_undone.Holds := by
  w_on; o_law; k_head; (case hw => w_witness2)
  k_fill
  refine Pf.walk (l := PySem.Challenge.rw_numberpile_k12_streams_undone) rfl rfl (fun w h Y => PySem.W.kIn_of Y) ?F
  case F =>
    intro w mg fa h KX G hmg
    refine' Pf.all_mk KX G hmg ?z_Stream ?a0 ?l0 ?c0 ?k0 ?a1 ?l1 ?c1 ?k1 ?a2 ?l2 ?c2 ?k2 ?a3 ?l3 ?c3 ?k3 ?a4 ?l4 ?c4 ?k4 ?a5 ?i5 ?l5 ?d5 ?c5 ?k5 ?a6 ?i6 ?l6 ?c6 ?k6 ?a7 ?i7 ?l7 ?c7 ?k7 ?a8 ?i8 ?l8 ?c8 ?k8 ?a9 ?l9 ?c9 ?k9 ?a10 ?l10 ?c10 ?k10 ?a11 ?l11 ?c11 ?k11 ?a12 ?l12 ?c12 ?k12 ?a13 ?l13 ?c13 ?k13 ?a14 ?l14 ?c14 ?k14 ?a15 ?l15 ?c15 ?k15 ?a16 ?l16 ?c16 ?k16 ?z_NoMore ?xp_NoMore ?kp_NoMore ?bp_NoMore ?tp_NoMore ?ip_NoMore ?sp_NoMore ?pg_Stream ?hd_Stream ?po_Stream ?sa_Stream ?mk_Stream ?kc_Stream ?x1_Stream ?x2_Stream ?x3_Stream ?x4_Stream ?z_bool ?z_int ?z_isinstance ?z_len ?z_list ?z_range ?z_reversed ?z_sum ?z_tuple ?z_MOST_SIGNS ?z_MOST_COUNT ?n_Stream_shares ?n_Stream_base ?n_Stream_grain ?n_Stream_low ?n_Stream_number ?n_Stream_words
    (case z_Stream => k_is)
    (case a0 => k_is)
    (case l0 => k_is)
    (case c0 => k_is)
    (case k0 => k_is)
    (case a1 => k_is)
    (case l1 => k_is)
    (case c1 => k_is)
    (case k1 => k_is)
    (case a2 => k_is)
    (case l2 => k_is)
    (case c2 => k_is)
    (case k2 => k_is)
    (case a3 => k_is)
    (case l3 => k_is)
    (case c3 => k_is)
    (case k3 => k_is)
    (case a4 => k_is)
    (case l4 => k_is)
    (case c4 => k_is)
    (case k4 => k_is)
    (case a5 => k_is)
    (case i5 => k_is)
    (case l5 => k_is)
    (case d5 => k_is)
    (case c5 => k_is)
    (case k5 => k_is)
    (case a6 => k_is)
    (case i6 => k_is)
    (case l6 => k_is)
    (case c6 => k_is)
    (case k6 => k_is)
    (case a7 => k_is)
    (case i7 => k_is)
    (case l7 => k_is)
    (case c7 => k_is)
    (case k7 => k_is)
    (case a8 => k_is)
    (case i8 => k_is)
    (case l8 => k_is)
    (case c8 => k_is)
    (case k8 => k_is)
    (case a9 => k_is)
    (case l9 => k_is)
    (case c9 => k_is)
    (case k9 => k_is)
    (case a10 => k_is)
    (case l10 => k_is)
    (case c10 => k_is)
    (case k10 => k_is)
    (case a11 => k_is)
    (case l11 => k_is)
    (case c11 => k_is)
    (case k11 => k_is)
    (case a12 => k_is)
    (case l12 => k_is)
    (case c12 => k_is)
    (case k12 => k_is)
    (case a13 => k_is)
    (case l13 => k_is)
    (case c13 => k_is)
    (case k13 => k_is)
    (case a14 => k_is)
    (case l14 => k_is)
    (case c14 => k_is)
    (case k14 => k_is)
    (case a15 => k_is)
    (case l15 => k_is)
    (case c15 => k_is)
    (case k15 => k_is)
    (case a16 => k_is)
    (case l16 => k_is)
    (case c16 => k_is)
    (case k16 => k_is)
    (case z_NoMore => k_is)
    (case xp_NoMore => k_exc)
    (case kp_NoMore => k_is)
    (case bp_NoMore => k_is)
    (case tp_NoMore => k_is)
    (case ip_NoMore => k_is)
    (case sp_NoMore => (first | rfl | k_is))
    (case pg_Stream => k_is)
    (case hd_Stream => k_is)
    (case po_Stream => k_is)
    (case sa_Stream => k_is)
    (case mk_Stream => k_is)
    (case kc_Stream => k_is)
    (case x1_Stream => k_is)
    (case x2_Stream => k_is)
    (case x3_Stream => k_is)
    (case x4_Stream => k_is)
    (case z_bool => k_is)
    (case z_int => k_is)
    (case z_isinstance => k_is)
    (case z_len => k_is)
    (case z_list => k_is)
    (case z_range => k_is)
    (case z_reversed => k_is)
    (case z_sum => k_is)
    (case z_tuple => k_is)
    (case z_MOST_SIGNS => k_is)
    (case z_MOST_COUNT => k_is)
    (case n_Stream_shares => k_is)
    (case n_Stream_base => k_is)
    (case n_Stream_grain => k_is)
    (case n_Stream_low => k_is)
    (case n_Stream_number => k_is)
    (case n_Stream_words => k_is)
#print axioms PySem.Challenge.cw_numberpile_k12_streams_undone_holds
